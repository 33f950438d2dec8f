import PyProof.Rows.All
import Wide.All
import OpenK.AllK
import Wide.FinOn
import PySem.Challenge.RW_sx_yweave_2
set_option Elab.async false
set_option linter.unusedVariables false
set_option linter.unusedSectionVars false
set_option linter.unusedSimpArgs false
set_option genSizeOf false
set_option bootstrap.genMatcherCode false
/-! The mini language: data, expressions, tests, statements; value semantics. -/
namespace Mine

inductive D where
  | bool (b : Bool) | int (i : Int) | str (s : List Nat) | list (l : List D) | tup (l : List D) | rng (l : List Int) | ty (n : String)

inductive Bop where | add | sub | mul | mod
inductive Cop where | eq | ne | lt | ge | is | mem

set_option genInjectivity false in
mutual
inductive E where
  | var (x : Nat) | int (i : Int) | str (s : List Nat) | bool (b : Bool) | ty (n : String) | lines
  | bin (o : Bop) (a b : E) | neg (a : E) | cmp (o : Cop) (a b : E)
  | idx (a i : E) | tail (a i : E) | list (es : Es) | tup (es : Es)
  | comp (elt : E) (x : Nat) (it : E) | compIf (elt : E) (x : Nat) (it : E) (c : T)
  | call (f : String) (es : Es) | len (a : E) | max (a b : E) | range1 (a : E) | range3 (a b c : E) | type (a : E)
inductive Es where
  | nil | cons (e : E) (es : Es)
inductive T where
  | e (a : E) | and (ts : Ts) | or (ts : Ts) | not (t : T)
inductive Ts where
  | nil | cons (t : T) (ts : Ts)
end

noncomputable abbrev cap : Nat := 1000000

mutual
noncomputable def eqD : D → D → Option Bool
  | .int a, .int b => some (a == b)
  | .str a, .str b => some (a == b)
  | .bool a, .bool b => some (a == b)
  | .list a, .list b => eqL a b
  | .tup a, .tup b => eqL a b
  | _, _ => none
noncomputable def eqL : List D → List D → Option Bool
  | [], [] => some true
  | [], _ :: _ => some false
  | _ :: _, [] => some false
  | x :: xs, y :: ys =>
    match eqD x y with
    | some true => eqL xs ys
    | some false => some false
    | none => none
end

noncomputable def strLt : List Nat → List Nat → Bool
  | [], [] => false
  | [], _ :: _ => true
  | _ :: _, [] => false
  | x :: xs, y :: ys => if x < y then true else if y < x then false else strLt xs ys

noncomputable def ltFlat : D → D → Option Bool
  | .int a, .int b => some (decide (a < b))
  | .str a, .str b => some (strLt a b)
  | _, _ => none

/-- two tuples of the form (int, str) -/
noncomputable def ltD : D → D → Option Bool
  | .tup [.int a, .str x], .tup [.int b, .str y] => some (if a = b then strLt x y else decide (a < b))
  | x, y => ltFlat x y

noncomputable def memD (x : D) : List D → Option Bool
  | [] => some false
  | y :: ys =>
    match eqD x y with
    | some true => some true
    | some false => memD x ys
    | none => none

noncomputable def sh0 : D → Bool
  | .bool _ | .int _ | .str _ => true
  | _ => false
noncomputable def sh1 : D → Bool
  | .list l | .tup l => l.all sh0
  | d => sh0 d
/-- no deeper than a list of lists -/
noncomputable def sh2 : D → Bool
  | .list l | .tup l => l.all sh1
  | d => sh0 d
noncomputable def eqT : D → D → Option Bool
  | .int a, .int b => some (a == b)
  | .str a, .str b => some (a == b)
  | .bool a, .bool b => some (a == b)
  | a, b => if sh2 a && sh2 b then eqD a b else none
noncomputable def memT (x : D) (l : List D) : Option Bool := if sh1 x && l.all sh1 then memD x l else none

noncomputable def cmpD : Cop → D → D → Option Bool
  | .eq, a, b => eqT a b
  | .ne, a, b => (eqT a b).map not
  | .lt, a, b => ltD a b
  | .ge, .int a, .int b => some (decide (b ≤ a))
  | .ge, _, _ => none
  | .is, .ty a, .ty b => some (a == b)
  | .is, _, _ => none
  | .mem, a, .list l => memT a l
  | .mem, _, _ => none

noncomputable def small (i : Int) : Bool := decide (-300000 ≤ i ∧ i ≤ 300000)

noncomputable def binD : Bop → D → D → Option D
  | .add, .int a, .int b => some (.int (a + b))
  | .add, .str a, .str b => if a.length + b.length ≤ cap then some (.str (a ++ b)) else none
  | .add, .list a, .list b => if a.length + b.length ≤ cap then some (.list (a ++ b)) else none
  | .sub, .int a, .int b => some (.int (a - b))
  | .mul, .int a, .int b => if small a && small b then some (.int (a * b)) else none
  | .mul, .str a, .int b => if 0 ≤ b ∧ b ≤ 1000 ∧ a.length ≤ 1000 then some (.str ((List.replicate b.toNat a).flatten)) else none
  | .mod, .int a, .int b => if 0 < b then some (.int (a % b)) else none
  | _, _, _ => none

noncomputable def getL (l : List D) (i : Int) : Option D :=
  if 0 ≤ i then l[i.toNat]? else if 0 ≤ i + l.length then l[(i + l.length).toNat]? else none

noncomputable def idxD : D → D → Option D
  | .list l, .int i => getL l i
  | .tup l, .int i => getL l i
  | _, _ => none

noncomputable def tailD : D → D → Option D
  | .list l, .int i => if 0 ≤ i ∧ i ≤ l.length then some (.list (l.drop i.toNat)) else none
  | _, _ => none

noncomputable def rngN (a b c : Int) : Nat := if 0 < c then ((b - a + c - 1) / c).toNat else ((a - b + (-c) - 1) / (-c)).toNat
noncomputable def rngL (a b c : Int) : List Int := (List.range (rngN a b c)).map fun (i : Nat) => a + (i : Int) * c

noncomputable def rangeD (a b c : Int) : Option D := if small a && small b && small c && c != 0 then some (.rng (rngL a b c)) else none

noncomputable def typeD : D → Option D
  | .bool _ => some (.ty "bool")
  | .int _ => some (.ty "int")
  | .str _ => some (.ty "str")
  | .list _ => some (.ty "list")
  | .tup _ => some (.ty "tuple")
  | _ => none

noncomputable def lenD : D → Option D
  | .list l => some (.int l.length)
  | .tup l => some (.int l.length)
  | .str l => some (.int l.length)
  | _ => none

noncomputable def maxD : D → D → Option D
  | .int a, .int b => some (.int (if a < b then b else a))
  | _, _ => none

noncomputable def items : D → Option (List D)
  | .list l => some l
  | .tup l => some l
  | .rng l => some (l.map .int)
  | _ => none

noncomputable abbrev Rho := List (Option D)
noncomputable def Rho.get (ρ : Rho) (x : Nat) : Option D := (ρ[x]?).join
noncomputable def Rho.put (ρ : Rho) (x : Nat) (d : D) : Rho := List.set ρ x (some d)

noncomputable def omap (f : D → Option D) : List D → Option (List D)
  | [] => some []
  | x :: xs => match f x with
    | some y => (omap f xs).map (y :: ·)
    | none => none

noncomputable def ofilt (p : D → Option Bool) (f : D → Option D) : List D → Option (List D)
  | [] => some []
  | x :: xs => match p x with
    | some true => (match f x with
      | some y => (ofilt p f xs).map (y :: ·)
      | none => none)
    | some false => ofilt p f xs
    | none => none

noncomputable abbrev Phi := String → List D → Option D
noncomputable def linesD : D := .tup [.str [], .str [112], .str [112, 113]]

mutual
noncomputable def ev (Φ : Phi) : E → Rho → Option D
  | .var x, ρ => ρ.get x
  | .int i, _ => some (.int i)
  | .str s, _ => some (.str s)
  | .bool b, _ => some (.bool b)
  | .ty n, _ => some (.ty n)
  | .lines, _ => some linesD
  | .bin o a b, ρ => match ev Φ a ρ with
    | some x => (match ev Φ b ρ with
      | some y => binD o x y
      | none => none)
    | none => none
  | .neg a, ρ => match ev Φ a ρ with
    | some (.int i) => some (.int (-i))
    | _ => none
  | .cmp o a b, ρ => match ev Φ a ρ with
    | some x => (match ev Φ b ρ with
      | some y => (cmpD o x y).map .bool
      | none => none)
    | none => none
  | .idx a i, ρ => match ev Φ a ρ with
    | some x => (match ev Φ i ρ with
      | some y => idxD x y
      | none => none)
    | none => none
  | .tail a i, ρ => match ev Φ a ρ with
    | some x => (match ev Φ i ρ with
      | some y => tailD x y
      | none => none)
    | none => none
  | .list es, ρ => (evs Φ es ρ).map .list
  | .tup es, ρ => (evs Φ es ρ).map .tup
  | .comp elt x it, ρ => match ev Φ it ρ with
    | some d => (match items d with
      | some l => (omap (fun y => ev Φ elt (ρ.put x y)) l).map .list
      | none => none)
    | none => none
  | .compIf elt x it c, ρ => match ev Φ it ρ with
    | some d => (match items d with
      | some l => (ofilt (fun y => tst Φ c (ρ.put x y)) (fun y => ev Φ elt (ρ.put x y)) l).map .list
      | none => none)
    | none => none
  | .call f es, ρ => match evs Φ es ρ with
    | some ds => Φ f ds
    | none => none
  | .len a, ρ => match ev Φ a ρ with
    | some d => lenD d
    | none => none
  | .max a b, ρ => match ev Φ a ρ with
    | some x => (match ev Φ b ρ with
      | some y => maxD x y
      | none => none)
    | none => none
  | .range1 a, ρ => match ev Φ a ρ with
    | some (.int i) => rangeD 0 i 1
    | _ => none
  | .range3 a b c, ρ => match ev Φ a ρ with
    | some (.int i) => (match ev Φ b ρ with
      | some (.int j) => (match ev Φ c ρ with
        | some (.int k) => rangeD i j k
        | _ => none)
      | _ => none)
    | _ => none
  | .type a, ρ => match ev Φ a ρ with
    | some d => typeD d
    | none => none
noncomputable def evs (Φ : Phi) : Es → Rho → Option (List D)
  | .nil, _ => some []
  | .cons e es, ρ => match ev Φ e ρ with
    | some d => (evs Φ es ρ).map (d :: ·)
    | none => none
noncomputable def tst (Φ : Phi) : T → Rho → Option Bool
  | .e a, ρ => match ev Φ a ρ with
    | some (.bool b) => some b
    | _ => none
  | .not t, ρ => (tst Φ t ρ).map not
  | .and ts, ρ => tand Φ ts ρ
  | .or ts, ρ => tor Φ ts ρ
noncomputable def tand (Φ : Phi) : Ts → Rho → Option Bool
  | .nil, _ => some true
  | .cons t ts, ρ => match tst Φ t ρ with
    | some true => tand Φ ts ρ
    | some false => some false
    | none => none
noncomputable def tor (Φ : Phi) : Ts → Rho → Option Bool
  | .nil, _ => some false
  | .cons t ts, ρ => match tst Φ t ρ with
    | some false => tor Φ ts ρ
    | some true => some true
    | none => none
end

mutual
/-- the expression does not read the slot m -/
noncomputable def E.off (m : Nat) : E → Bool
  | .var x => x != m
  | .int _ | .str _ | .bool _ | .ty _ | .lines => true
  | .bin _ a b | .cmp _ a b | .idx a b | .tail a b | .max a b => a.off m && b.off m
  | .neg a | .len a | .range1 a | .type a => a.off m
  | .list es | .tup es | .call _ es => es.off m
  | .comp elt _ it => elt.off m && it.off m
  | .compIf elt _ it c => elt.off m && it.off m && c.off m
  | .range3 a b c => a.off m && b.off m && c.off m
noncomputable def Es.off (m : Nat) : Es → Bool
  | .nil => true
  | .cons e es => e.off m && es.off m
noncomputable def T.off (m : Nat) : T → Bool
  | .e a => a.off m
  | .and ts | .or ts => ts.off m
  | .not t => t.off m
noncomputable def Ts.off (m : Nat) : Ts → Bool
  | .nil => true
  | .cons t ts => t.off m && ts.off m
end

noncomputable def D.flat : D → Bool
  | .bool _ | .int _ | .str _ | .ty _ => true
  | _ => false

set_option genInjectivity false in
inductive S where
  | assign (x : Nat) (e : E)
  | aug (x : Nat) (e : E)
  | mkNil (x : Nat)
  | mkFill (x : Nat) (e : E)
  | mkTab (x : Nat) (y : Nat) (c r : E)
  | append (x : Nat) (e : E)
  | set1 (x : Nat) (i e : E)
  | set2 (x : Nat) (i j e : E)
  | ite (t : T) (b c : List S)
  | for_ (x : Nat) (e : E) (b : List S)
  | while_ (t : T) (b : List S)
  | ret (e : E)

set_option genInjectivity false in
inductive Out where
  | next (ρ : Rho)
  | ret (d : D)

set_option genInjectivity false in
inductive C where
  | stmt (s : S)
  | seq (l : List S)
  | loop (x : Nat) (ds : List D) (b : List S)

/-- where the value may be kept: it is flat, or the expression does not read the mutable slot -/
noncomputable def fine (mu : Nat) (e : E) (d : D) : Bool := d.flat || e.off mu

/-- mu: the one slot that holds a list that is changed in place (a number past all slots: none) -/
inductive Run (Φ : Phi) (mu : Nat) : C → Rho → Out → Prop where
  | nil {ρ} : Run Φ mu (.seq []) ρ (.next ρ)
  | cons {s l ρ ρ' o} : Run Φ mu (.stmt s) ρ (.next ρ') → Run Φ mu (.seq l) ρ' o → Run Φ mu (.seq (s :: l)) ρ o
  | stop {s l ρ d} : Run Φ mu (.stmt s) ρ (.ret d) → Run Φ mu (.seq (s :: l)) ρ (.ret d)
  | assign {x e ρ d} : x ≠ mu → ev Φ e ρ = some d → fine mu e d = true → Run Φ mu (.stmt (.assign x e)) ρ (.next (ρ.put x d))
  | aug {x e ρ i j} : x ≠ mu → ρ.get x = some (.int i) → ev Φ e ρ = some (.int j) → Run Φ mu (.stmt (.aug x e)) ρ (.next (ρ.put x (.int (i + j))))
  | mkNil {ρ} : mu < ρ.length → ρ.get mu = none → Run Φ mu (.stmt (.mkNil mu)) ρ (.next (ρ.put mu (.list [])))
  | mkFill {e ρ k} : mu < ρ.length → ρ.get mu = none → ev Φ e ρ = some (.int k) → 0 ≤ k → k ≤ 1000 →
      Run Φ mu (.stmt (.mkFill mu e)) ρ (.next (ρ.put mu (.list (List.replicate k.toNat (.int 0)))))
  | mkTab {y c r ρ k n} : mu < ρ.length → ρ.get mu = none → y ≠ mu → c.off y = true → c.off mu = true → r.off mu = true →
      ev Φ c ρ = some (.int k) → 0 ≤ k → k ≤ 1000 → ev Φ r ρ = some (.int n) → 0 ≤ n → n ≤ 1000 →
      Run Φ mu (.stmt (.mkTab mu y c r)) ρ (.next (ρ.put mu (.list (List.replicate n.toNat (.list (List.replicate k.toNat (.int 0)))))))
  | append {e ρ d l} : ρ.get mu = some (.list l) → ev Φ e ρ = some d → fine mu e d = true → l.length < cap →
      Run Φ mu (.stmt (.append mu e)) ρ (.next (ρ.put mu (.list (l ++ [d]))))
  | set1 {i e ρ d l k} : ρ.get mu = some (.list l) → ev Φ i ρ = some (.int k) → 0 ≤ k → k < l.length → ev Φ e ρ = some d → d.flat = true →
      Run Φ mu (.stmt (.set1 mu i e)) ρ (.next (ρ.put mu (.list (l.set k.toNat d))))
  | set2 {i j e ρ d l r k n} : ρ.get mu = some (.list l) → ev Φ i ρ = some (.int k) → 0 ≤ k → l[k.toNat]? = some (.list r) → ev Φ j ρ = some (.int n) → 0 ≤ n → n < r.length →
      ev Φ e ρ = some d → d.flat = true →
      Run Φ mu (.stmt (.set2 mu i j e)) ρ (.next (ρ.put mu (.list (l.set k.toNat (.list (r.set n.toNat d))))))
  | iteT {t b c ρ o} : tst Φ t ρ = some true → Run Φ mu (.seq b) ρ o → Run Φ mu (.stmt (.ite t b c)) ρ o
  | iteF {t b c ρ o} : tst Φ t ρ = some false → Run Φ mu (.seq c) ρ o → Run Φ mu (.stmt (.ite t b c)) ρ o
  | for_ {x e b ρ d ds o} : x ≠ mu → ev Φ e ρ = some d → e.off mu = true → items d = some ds → Run Φ mu (.loop x ds b) ρ o → Run Φ mu (.stmt (.for_ x e b)) ρ o
  | loopNil {x b ρ} : Run Φ mu (.loop x [] b) ρ (.next ρ)
  | loopCons {x d ds b ρ ρ' o} : Run Φ mu (.seq b) (ρ.put x d) (.next ρ') → Run Φ mu (.loop x ds b) ρ' o → Run Φ mu (.loop x (d :: ds) b) ρ o
  | loopStop {x d ds b ρ r} : Run Φ mu (.seq b) (ρ.put x d) (.ret r) → Run Φ mu (.loop x (d :: ds) b) ρ (.ret r)
  | whileF {t b ρ} : tst Φ t ρ = some false → Run Φ mu (.stmt (.while_ t b)) ρ (.next ρ)
  | whileT {t b ρ ρ' o} : tst Φ t ρ = some true → Run Φ mu (.seq b) ρ (.next ρ') → Run Φ mu (.stmt (.while_ t b)) ρ' o → Run Φ mu (.stmt (.while_ t b)) ρ o
  | whileR {t b ρ d} : tst Φ t ρ = some true → Run Φ mu (.seq b) ρ (.ret d) → Run Φ mu (.stmt (.while_ t b)) ρ (.ret d)
  | ret {e ρ d} : ev Φ e ρ = some d → Run Φ mu (.stmt (.ret e)) ρ (.ret d)

end Mine
namespace Mine
/-- lcs_table: 0 a, 1 b, 2 table, 3 i, 4 j; comprehension slots [5] -/
noncomputable def p_lcs_table : List S := [.mkTab 2 5 (.bin .add (.len (.var 1)) (.int 1)) (.bin .add (.len (.var 0)) (.int 1)),
    .for_ 3 (.range3 (.bin .sub (.len (.var 0)) (.int 1)) (.neg (.int 1)) (.neg (.int 1))) [.for_ 4 (.range3 (.bin .sub (.len (.var 1)) (.int 1)) (.neg (.int 1)) (.neg (.int 1))) [.ite (.e (.cmp .eq (.idx (.var 0) (.var 3)) (.idx (.var 1) (.var 4)))) [.set2 2 (.var 3) (.var 4) (.bin .add (.idx (.idx (.var 2) (.bin .add (.var 3) (.int 1))) (.bin .add (.var 4) (.int 1))) (.int 1))] [.set2 2 (.var 3) (.var 4) (.max (.idx (.idx (.var 2) (.bin .add (.var 3) (.int 1))) (.var 4)) (.idx (.idx (.var 2) (.var 3)) (.bin .add (.var 4) (.int 1))))]]],
    .ret (.var 2)]
/-- lcs_length: 0 a, 1 b -/
noncomputable def p_lcs_length : List S := [.ret (.idx (.idx (.call "lcs_table" (.cons (.var 0) (.cons (.var 1) .nil))) (.int 0)) (.int 0))]
/-- matches_of: 0 a, 1 b, 2 table, 3 matches, 4 i, 5 j -/
noncomputable def p_matches_of : List S := [.assign 2 (.call "lcs_table" (.cons (.var 0) (.cons (.var 1) .nil))),
    .mkNil 3,
    .assign 4 (.int 0),
    .assign 5 (.int 0),
    .while_ (.and (.cons (.e (.cmp .lt (.var 4) (.len (.var 0)))) (.cons (.e (.cmp .lt (.var 5) (.len (.var 1)))) .nil))) [.ite (.e (.cmp .eq (.idx (.var 0) (.var 4)) (.idx (.var 1) (.var 5)))) [.append 3 (.tup (.cons (.var 4) (.cons (.var 5) .nil))),
    .aug 4 (.int 1),
    .aug 5 (.int 1)] [.ite (.e (.cmp .ge (.idx (.idx (.var 2) (.bin .add (.var 4) (.int 1))) (.var 5)) (.idx (.idx (.var 2) (.var 4)) (.bin .add (.var 5) (.int 1))))) [.aug 4 (.int 1)] [.aug 5 (.int 1)]]],
    .ret (.var 3)]
/-- lcs_of: 0 a, 1 b; comprehension slots [2] -/
noncomputable def p_lcs_of : List S := [.ret (.comp (.idx (.var 0) (.idx (.var 2) (.int 0))) 2 (.call "matches_of" (.cons (.var 0) (.cons (.var 1) .nil))))]
/-- is_subsequence: 0 s, 1 a, 2 found, 3 line -/
noncomputable def p_is_subsequence : List S := [.assign 2 (.int 0),
    .for_ 3 (.var 1) [.ite (.and (.cons (.e (.cmp .lt (.var 2) (.len (.var 0)))) (.cons (.e (.cmp .eq (.idx (.var 0) (.var 2)) (.var 3))) .nil))) [.aug 2 (.int 1)] []],
    .ret (.cmp .eq (.var 2) (.len (.var 0)))]
/-- myers_distance: 0 a, 1 b, 2 most, 3 shift, 4 reach, 5 d, 6 k, 7 x -/
noncomputable def p_myers_distance : List S := [.assign 2 (.bin .add (.len (.var 0)) (.len (.var 1))),
    .assign 3 (.bin .add (.var 2) (.int 1)),
    .mkFill 4 (.bin .add (.bin .mul (.int 2) (.var 2)) (.int 3)),
    .for_ 5 (.range1 (.bin .add (.var 2) (.int 1))) [.for_ 6 (.range3 (.neg (.var 5)) (.bin .add (.var 5) (.int 1)) (.int 2)) [.ite (.or (.cons (.e (.cmp .eq (.var 6) (.neg (.var 5)))) (.cons (.and (.cons (.e (.cmp .ne (.var 6) (.var 5))) (.cons (.e (.cmp .lt (.idx (.var 4) (.bin .add (.bin .sub (.var 6) (.int 1)) (.var 3))) (.idx (.var 4) (.bin .add (.bin .add (.var 6) (.int 1)) (.var 3))))) .nil))) .nil))) [.assign 7 (.idx (.var 4) (.bin .add (.bin .add (.var 6) (.int 1)) (.var 3)))] [.assign 7 (.bin .add (.idx (.var 4) (.bin .add (.bin .sub (.var 6) (.int 1)) (.var 3))) (.int 1))],
    .while_ (.and (.cons (.e (.cmp .lt (.var 7) (.len (.var 0)))) (.cons (.e (.cmp .lt (.bin .sub (.var 7) (.var 6)) (.len (.var 1)))) (.cons (.e (.cmp .eq (.idx (.var 0) (.var 7)) (.idx (.var 1) (.bin .sub (.var 7) (.var 6))))) .nil)))) [.aug 7 (.int 1)],
    .set1 4 (.bin .add (.var 6) (.var 3)) (.var 7),
    .ite (.and (.cons (.e (.cmp .ge (.var 7) (.len (.var 0)))) (.cons (.e (.cmp .ge (.bin .sub (.var 7) (.var 6)) (.len (.var 1)))) .nil))) [.ret (.var 5)] []]],
    .ret (.var 2)]
/-- _law_text: 0 cells, 1 size, 2 text, 3 x -/
noncomputable def p_law_text : List S := [.mkNil 2,
    .for_ 3 (.var 0) [.ite (.e (.cmp .lt (.len (.var 2)) (.var 1))) [.append 2 (.idx .lines (.bin .mod (.var 3) (.int 3)))] []],
    .ret (.var 2)]
/-- _law_matchings: 0 a, 1 b, 2 ways, 3 i, 4 j; comprehension slots [5] -/
noncomputable def p_law_matchings : List S := [.assign 2 (.list (.cons (.list .nil) .nil)),
    .for_ 3 (.range1 (.len (.var 0))) [.for_ 4 (.range1 (.len (.var 1))) [.ite (.e (.cmp .eq (.idx (.var 0) (.var 3)) (.idx (.var 1) (.var 4)))) [.assign 2 (.bin .add (.var 2) (.compIf (.bin .add (.var 5) (.list (.cons (.tup (.cons (.var 3) (.cons (.var 4) .nil))) .nil))) 5 (.var 2) (.or (.cons (.e (.cmp .eq (.var 5) (.list .nil))) (.cons (.and (.cons (.e (.cmp .lt (.idx (.idx (.var 5) (.neg (.int 1))) (.int 0)) (.var 3))) (.cons (.e (.cmp .lt (.idx (.idx (.var 5) (.neg (.int 1))) (.int 1)) (.var 4))) .nil))) .nil)))))] []]],
    .ret (.var 2)]
/-- _law_path: 0 way, 1 n, 2 m, 3 path, 4 i, 5 j, 6 pair -/
noncomputable def p_law_path : List S := [.assign 3 (.str []),
    .assign 4 (.int 0),
    .assign 5 (.int 0),
    .for_ 6 (.bin .add (.var 0) (.list (.cons (.tup (.cons (.var 1) (.cons (.var 2) .nil))) .nil))) [.assign 3 (.bin .add (.bin .add (.bin .add (.var 3) (.bin .mul (.str [49]) (.bin .sub (.idx (.var 6) (.int 0)) (.var 4)))) (.bin .mul (.str [50]) (.bin .sub (.idx (.var 6) (.int 1)) (.var 5)))) (.str [48])),
    .assign 4 (.bin .add (.idx (.var 6) (.int 0)) (.int 1)),
    .assign 5 (.bin .add (.idx (.var 6) (.int 1)) (.int 1))],
    .ret (.var 3)]
/-- _law_best: 0 a, 1 b, 2 best, 3 path, 4 way, 5 here -/
noncomputable def p_law_best : List S := [.assign 2 (.list .nil),
    .assign 3 (.call "_law_path" (.cons (.list .nil) (.cons (.len (.var 0)) (.cons (.len (.var 1)) .nil)))),
    .for_ 4 (.call "_law_matchings" (.cons (.var 0) (.cons (.var 1) .nil))) [.assign 5 (.call "_law_path" (.cons (.var 4) (.cons (.len (.var 0)) (.cons (.len (.var 1)) .nil)))),
    .ite (.e (.cmp .lt (.tup (.cons (.len (.var 5)) (.cons (.var 5) .nil))) (.tup (.cons (.len (.var 3)) (.cons (.var 3) .nil))))) [.assign 2 (.var 4),
    .assign 3 (.var 5)] []],
    .ret (.var 2)]
/-- _law_words: 0 a, 1 words, 2 line; comprehension slots [3] -/
noncomputable def p_law_words : List S := [.assign 1 (.list (.cons (.list .nil) .nil)),
    .for_ 2 (.var 0) [.assign 1 (.bin .add (.var 1) (.comp (.bin .add (.var 3) (.list (.cons (.var 2) .nil))) 3 (.var 1)))],
    .ret (.var 1)]
/-- _law_number: 0 got, 1 want -/
noncomputable def p_law_number : List S := [.ite (.not (.e (.cmp .is (.type (.var 0)) (.ty "int")))) [.ret (.bool false)] [],
    .ite (.e (.cmp .ne (.var 0) (.var 1))) [.ret (.bool false)] [],
    .ret (.bool true)]
/-- law: 0 script, 1 n, 2 m, 3 size, 4 a_cells, 5 b_cells, 6 part_cells, 7 a, 8 b, 9 part, 10 a_again, 11 b_again, 12 part_again, 13 best, 14 want, 15 pairs, 16 pair, 17 place, 18 common, 19 table, 20 row, 21 p, 22 q, 23 due, 24 told; comprehension slots [25] -/
noncomputable def p_law : List S := [.ite (.e (.cmp .lt (.len (.var 0)) (.int 18))) [.ret (.bool true)] [],
    .assign 1 (.bin .mod (.idx (.var 0) (.int 0)) (.int 6)),
    .assign 2 (.bin .mod (.idx (.var 0) (.int 1)) (.int 6)),
    .assign 3 (.bin .mod (.idx (.var 0) (.int 12)) (.int 4)),
    .assign 4 (.list (.cons (.idx (.var 0) (.int 2)) (.cons (.idx (.var 0) (.int 3)) (.cons (.idx (.var 0) (.int 4)) (.cons (.idx (.var 0) (.int 5)) (.cons (.idx (.var 0) (.int 6)) .nil)))))),
    .assign 5 (.list (.cons (.idx (.var 0) (.int 7)) (.cons (.idx (.var 0) (.int 8)) (.cons (.idx (.var 0) (.int 9)) (.cons (.idx (.var 0) (.int 10)) (.cons (.idx (.var 0) (.int 11)) .nil)))))),
    .assign 6 (.list (.cons (.idx (.var 0) (.int 13)) (.cons (.idx (.var 0) (.int 14)) (.cons (.idx (.var 0) (.int 15)) .nil)))),
    .assign 7 (.call "_law_text" (.cons (.var 4) (.cons (.var 1) .nil))),
    .assign 8 (.call "_law_text" (.cons (.var 5) (.cons (.var 2) .nil))),
    .assign 9 (.call "_law_text" (.cons (.var 6) (.cons (.var 3) .nil))),
    .assign 10 (.call "_law_text" (.cons (.var 4) (.cons (.var 1) .nil))),
    .assign 11 (.call "_law_text" (.cons (.var 5) (.cons (.var 2) .nil))),
    .assign 12 (.call "_law_text" (.cons (.var 6) (.cons (.var 3) .nil))),
    .assign 13 (.call "_law_best" (.cons (.var 10) (.cons (.var 11) .nil))),
    .assign 14 (.bin .sub (.bin .add (.var 1) (.var 2)) (.bin .mul (.int 2) (.len (.var 13)))),
    .ite (.not (.e (.call "_law_number" (.cons (.call "myers_distance" (.cons (.var 7) (.cons (.var 8) .nil))) (.cons (.var 14) .nil))))) [.ret (.bool false)] [],
    .ite (.not (.e (.call "_law_number" (.cons (.call "myers_distance" (.cons (.var 8) (.cons (.var 7) .nil))) (.cons (.var 14) .nil))))) [.ret (.bool false)] [],
    .ite (.not (.e (.call "_law_number" (.cons (.call "lcs_length" (.cons (.var 7) (.cons (.var 8) .nil))) (.cons (.len (.var 13)) .nil))))) [.ret (.bool false)] [],
    .assign 15 (.call "matches_of" (.cons (.var 7) (.cons (.var 8) .nil))),
    .ite (.not (.e (.cmp .is (.type (.var 15)) (.ty "list")))) [.ret (.bool false)] [],
    .ite (.e (.cmp .ne (.var 15) (.var 13))) [.ret (.bool false)] [],
    .for_ 16 (.var 15) [.ite (.not (.e (.cmp .is (.type (.var 16)) (.ty "tuple")))) [.ret (.bool false)] [],
    .for_ 17 (.var 16) [.ite (.not (.e (.cmp .is (.type (.var 17)) (.ty "int")))) [.ret (.bool false)] []]],
    .assign 18 (.call "lcs_of" (.cons (.var 7) (.cons (.var 8) .nil))),
    .ite (.not (.e (.cmp .is (.type (.var 18)) (.ty "list")))) [.ret (.bool false)] [],
    .ite (.e (.cmp .ne (.var 18) (.comp (.idx (.var 10) (.idx (.var 25) (.int 0))) 25 (.var 13)))) [.ret (.bool false)] [],
    .assign 19 (.call "lcs_table" (.cons (.var 7) (.cons (.var 8) .nil))),
    .ite (.e (.cmp .ne (.len (.var 19)) (.bin .add (.var 1) (.int 1)))) [.ret (.bool false)] [],
    .for_ 20 (.var 19) [.ite (.e (.cmp .ne (.len (.var 20)) (.bin .add (.var 2) (.int 1)))) [.ret (.bool false)] []],
    .assign 21 (.bin .mod (.idx (.var 0) (.int 16)) (.bin .add (.var 1) (.int 1))),
    .assign 22 (.bin .mod (.idx (.var 0) (.int 17)) (.bin .add (.var 2) (.int 1))),
    .ite (.not (.e (.call "_law_number" (.cons (.idx (.idx (.var 19) (.var 21)) (.var 22)) (.cons (.len (.call "_law_best" (.cons (.tail (.var 10) (.var 21)) (.cons (.tail (.var 11) (.var 22)) .nil)))) .nil))))) [.ret (.bool false)] [],
    .assign 23 (.cmp .mem (.var 12) (.call "_law_words" (.cons (.var 10) .nil))),
    .assign 24 (.call "is_subsequence" (.cons (.var 9) (.cons (.var 7) .nil))),
    .ite (.not (.e (.cmp .is (.type (.var 24)) (.ty "bool")))) [.ret (.bool false)] [],
    .ite (.e (.cmp .ne (.var 24) (.var 23))) [.ret (.bool false)] [],
    .ite (.e (.cmp .ne (.var 7) (.var 10))) [.ret (.bool false)] [],
    .ite (.e (.cmp .ne (.var 8) (.var 11))) [.ret (.bool false)] [],
    .ite (.e (.cmp .ne (.var 9) (.var 12))) [.ret (.bool false)] [],
    .ret (.bool true)]
end Mine
/-! Plain mathematics: LCS, matchings, paths, Myers' distance, sub-words. -/
namespace Mine
section
variable {α : Type} [DecidableEq α]

noncomputable def L : List α → List α → Nat
  | x :: xs, y :: ys => if x = y then L xs ys + 1 else Nat.max (L xs (y :: ys)) (L (x :: xs) ys)
  | _, _ => 0
termination_by a b => a.length + b.length

theorem L_nil_left (b : List α) : L ([] : List α) b = 0 := by unfold L; rfl
theorem L_nil_right (a : List α) : L a ([] : List α) = 0 := by
  unfold L; cases a <;> rfl
theorem L_cons (x : α) (xs : List α) (y : α) (ys : List α) :
    L (x :: xs) (y :: ys) = if x = y then L xs ys + 1 else Nat.max (L xs (y :: ys)) (L (x :: xs) ys) := by
  rw [L]

noncomputable def LL (a b : List α) (i j : Nat) : Nat := L (a.drop i) (b.drop j)

theorem LL_out {a b : List α} {i j : Nat} (h : a.length ≤ i ∨ b.length ≤ j) : LL a b i j = 0 := by
  unfold LL
  rcases h with h | h
  · rw [List.drop_eq_nil_of_le h, L_nil_left]
  · rw [List.drop_eq_nil_of_le h, L_nil_right]
theorem LL_eq {a b : List α} {i j : Nat} (hi : i < a.length) (hj : j < b.length) (h : a[i] = b[j]) : LL a b i j = LL a b (i + 1) (j + 1) + 1 := by
  unfold LL
  rw [List.drop_eq_getElem_cons hi, List.drop_eq_getElem_cons hj, L_cons, if_pos h]
theorem LL_ne {a b : List α} {i j : Nat} (hi : i < a.length) (hj : j < b.length) (h : a[i] ≠ b[j]) : LL a b i j = Nat.max (LL a b (i + 1) j) (LL a b i (j + 1)) := by
  unfold LL
  rw [List.drop_eq_getElem_cons hi, List.drop_eq_getElem_cons hj, L_cons, if_neg h]

/-- the greedy matching -/
noncomputable def gm : List α → List α → Nat → Nat → List (Nat × Nat)
  | x :: xs, y :: ys, i, j =>
    if x = y then (i, j) :: gm xs ys (i + 1) (j + 1)
    else if L (x :: xs) ys ≤ L xs (y :: ys) then gm xs (y :: ys) (i + 1) j else gm (x :: xs) ys i (j + 1)
  | _, _, _, _ => []
termination_by a b => a.length + b.length

noncomputable def GM (a b : List α) (i j : Nat) : List (Nat × Nat) := gm (a.drop i) (b.drop j) i j

theorem gm_nil_left (b : List α) (i j : Nat) : gm ([] : List α) b i j = [] := by unfold gm; rfl
theorem gm_nil_right (a : List α) (i j : Nat) : gm a ([] : List α) i j = [] := by
  unfold gm; cases a <;> rfl
theorem GM_out {a b : List α} {i j : Nat} (h : a.length ≤ i ∨ b.length ≤ j) : GM a b i j = [] := by
  unfold GM
  rcases h with h | h
  · rw [List.drop_eq_nil_of_le h, gm_nil_left]
  · rw [List.drop_eq_nil_of_le h, gm_nil_right]
theorem GM_eq {a b : List α} {i j : Nat} (hi : i < a.length) (hj : j < b.length) (h : a[i] = b[j]) : GM a b i j = (i, j) :: GM a b (i + 1) (j + 1) := by
  unfold GM
  rw [List.drop_eq_getElem_cons hi, List.drop_eq_getElem_cons hj, gm, if_pos h]
theorem GM_ne {a b : List α} {i j : Nat} (hi : i < a.length) (hj : j < b.length) (h : a[i] ≠ b[j]) :
    GM a b i j = if LL a b i (j + 1) ≤ LL a b (i + 1) j then GM a b (i + 1) j else GM a b i (j + 1) := by
  unfold GM LL
  rw [List.drop_eq_getElem_cons hi, List.drop_eq_getElem_cons hj, gm, if_neg h]

/-- a rising matching from (i, j) on -/
noncomputable def Val (a b : List α) : Nat → Nat → List (Nat × Nat) → Prop
  | _, _, [] => True
  | i, j, (p, q) :: w => i ≤ p ∧ j ≤ q ∧ (∃ hp : p < a.length, ∃ hq : q < b.length, a[p] = b[q]) ∧ Val a b (p + 1) (q + 1) w

theorem Val.mono {a b : List α} {i j i' j' : Nat} {w : List (Nat × Nat)} (h : Val a b i j w) (hi : i' ≤ i) (hj : j' ≤ j) : Val a b i' j' w := by
  cases w with
  | nil => trivial
  | cons p w => exact ⟨Nat.le_trans hi h.1, Nat.le_trans hj h.2.1, h.2.2⟩

theorem Val.le {a b : List α} : ∀ (k i j : Nat) (w : List (Nat × Nat)), (a.length - i) + (b.length - j) ≤ k → Val a b i j w → w.length ≤ LL a b i j := by
  intro k
  induction k with
  | zero =>
    intro i j w hk h
    cases w with
    | nil => exact Nat.zero_le _
    | cons p w => obtain ⟨h1, h2, ⟨hp, hq, _⟩, _⟩ := h; lia
  | succ k ih =>
    intro i j w hk h
    cases w with
    | nil => exact Nat.zero_le _
    | cons p w =>
      obtain ⟨p, q⟩ := p
      have h' := h
      obtain ⟨h1, h2, ⟨hp, hq, e⟩, hw⟩ := h
      have hi : i < a.length := Nat.lt_of_le_of_lt h1 hp
      have hj : j < b.length := Nat.lt_of_le_of_lt h2 hq
      by_cases hx : a[i] = b[j]
      · rw [LL_eq hi hj hx, List.length_cons]
        have := ih (i + 1) (j + 1) w (by lia) (hw.mono (by lia) (by lia))
        lia
      · rw [LL_ne hi hj hx]
        by_cases hpi : p = i
        · have hqj : q ≠ j := by rintro rfl; subst hpi; exact hx e
          have := ih i (j + 1) ((p, q) :: w) (by lia) ⟨h1, by lia, ⟨hp, hq, e⟩, hw⟩
          exact Nat.le_trans this (Nat.le_max_right _ _)
        · have := ih (i + 1) j ((p, q) :: w) (by lia) ⟨by lia, h2, ⟨hp, hq, e⟩, hw⟩
          exact Nat.le_trans this (Nat.le_max_left _ _)

theorem GM_val {a b : List α} : ∀ (k i j : Nat), (a.length - i) + (b.length - j) ≤ k → Val a b i j (GM a b i j) ∧ (GM a b i j).length = LL a b i j := by
  intro k
  induction k with
  | zero =>
    intro i j hk
    rw [GM_out (by lia), LL_out (by lia)]
    exact ⟨trivial, rfl⟩
  | succ k ih =>
    intro i j hk
    by_cases hi : i < a.length
    · by_cases hj : j < b.length
      · by_cases hx : a[i] = b[j]
        · rw [GM_eq hi hj hx, LL_eq hi hj hx]
          obtain ⟨h1, h2⟩ := ih (i + 1) (j + 1) (by lia)
          exact ⟨⟨Nat.le_refl _, Nat.le_refl _, ⟨hi, hj, hx⟩, h1⟩, by rw [List.length_cons, h2]⟩
        · rw [GM_ne hi hj hx, LL_ne hi hj hx]
          obtain ⟨h1, h2⟩ := ih (i + 1) j (by lia)
          obtain ⟨h3, h4⟩ := ih i (j + 1) (by lia)
          split
          · rename_i hle
            exact ⟨h1.mono (by lia) (by lia), by rw [h2]; exact (Nat.max_eq_left hle).symm⟩
          · rename_i hle
            exact ⟨h3.mono (by lia) (by lia), by rw [h4]; exact (Nat.max_eq_right (by lia)).symm⟩
      · rw [GM_out (by lia), LL_out (by lia)]; exact ⟨trivial, rfl⟩
    · rw [GM_out (by lia), LL_out (by lia)]; exact ⟨trivial, rfl⟩
end

/-- the text of a path: '1' for a line of the first text left out, '2' of the second, '0' for a match -/
noncomputable def pth (n m : Nat) : Nat → Nat → List (Nat × Nat) → List Nat
  | i, j, [] => List.replicate (n - i) 49 ++ (List.replicate (m - j) 50 ++ [48])
  | i, j, (p, q) :: w => List.replicate (p - i) 49 ++ (List.replicate (q - j) 50 ++ 48 :: pth n m (p + 1) (q + 1) w)

theorem rep_pos {c k : Nat} (h : 0 < k) : List.replicate k c = c :: List.replicate (k - 1) c := by
  obtain ⟨m, rfl⟩ : ∃ m, k = m + 1 := ⟨k - 1, by lia⟩
  rfl

section
variable {α : Type} [DecidableEq α] {a b : List α}
theorem pth_len : ∀ (w : List (Nat × Nat)) (i j : Nat), Val a b i j w → i ≤ a.length → j ≤ b.length →
    (pth a.length b.length i j w).length + w.length = (a.length - i) + (b.length - j) + 1 := by
  intro w
  induction w with
  | nil => intro i j _ _ _; simp [pth]; lia
  | cons p w ih =>
    obtain ⟨p, q⟩ := p
    rintro i j ⟨h1, h2, ⟨hp, hq, e⟩, hw⟩ _ _
    have := ih (p + 1) (q + 1) hw hp hq
    simp only [pth, List.length_append, List.length_replicate, List.length_cons]
    lia

/-- the first pair lies past row i (or there is none and rows are left) -/
theorem pth_one {i j : Nat} {w : List (Nat × Nat)} (h : Val a b (i + 1) j w) (hi : i < a.length) : pth a.length b.length i j w = 49 :: pth a.length b.length (i + 1) j w := by
  cases w with
  | nil =>
    simp only [pth]
    rw [rep_pos (by lia : 0 < a.length - i)]
    rfl
  | cons p w =>
    obtain ⟨p, q⟩ := p
    obtain ⟨h1, _⟩ := h
    simp only [pth]
    rw [rep_pos (by lia : 0 < p - i)]
    show 49 :: (List.replicate (p - i - 1) 49 ++ _) = 49 :: (List.replicate (p - (i + 1)) 49 ++ _)
    rw [Nat.sub_sub]
theorem pth_two {i j q : Nat} {w : List (Nat × Nat)} (hq : j < q) : pth a.length b.length i j ((i, q) :: w) = 50 :: pth a.length b.length i (j + 1) ((i, q) :: w) := by
  simp only [pth, Nat.sub_self, List.replicate_zero, List.nil_append]
  rw [rep_pos (by lia : 0 < q - j)]
  show 50 :: (List.replicate (q - j - 1) 50 ++ _) = 50 :: (List.replicate (q - (j + 1)) 50 ++ _)
  rw [Nat.sub_sub]
theorem pth_zero {i j : Nat} {w : List (Nat × Nat)} : pth a.length b.length i j ((i, j) :: w) = 48 :: pth a.length b.length (i + 1) (j + 1) w := by
  simp only [pth, Nat.sub_self, List.replicate_zero, List.nil_append]
end

noncomputable def sLt : List Nat → List Nat → Bool
  | [], [] => false
  | [], _ :: _ => true
  | _ :: _, [] => false
  | x :: xs, y :: ys => if x < y then true else if y < x then false else sLt xs ys

theorem sLt_cons_same (c : Nat) (xs ys : List Nat) : sLt (c :: xs) (c :: ys) = sLt xs ys := by simp [sLt]
theorem sLt_cons_lt {c d : Nat} (h : c < d) (xs ys : List Nat) : sLt (c :: xs) (d :: ys) = true := by simp [sLt, h]
theorem sLt_irrefl (xs : List Nat) : sLt xs xs = false := by
  induction xs with
  | nil => rfl
  | cons x xs ih => simp [sLt, ih]
theorem sLt_asymm : ∀ (xs ys : List Nat), sLt xs ys = true → sLt ys xs = false
  | [], [], h => by simp [sLt] at h
  | [], _ :: _, _ => rfl
  | _ :: _, [], h => by simp [sLt] at h
  | x :: xs, y :: ys, h => by
    simp only [sLt] at h ⊢
    by_cases h1 : x < y
    · have : ¬ y < x := by lia
      simp [this, h1]
    · simp only [if_neg h1] at h
      by_cases h2 : y < x
      · simp [h2] at h
      · simp only [if_neg h2] at h ⊢
        simp only [if_neg h1]
        exact sLt_asymm xs ys h

section
variable {α : Type} [DecidableEq α] {a b : List α}
theorem GM_least : ∀ (k i j : Nat) (w : List (Nat × Nat)), (a.length - i) + (b.length - j) ≤ k → Val a b i j w → w.length = LL a b i j →
    w = GM a b i j ∨ sLt (pth a.length b.length i j (GM a b i j)) (pth a.length b.length i j w) = true := by
  intro k
  induction k with
  | zero =>
    intro i j w hk hv hl
    rw [LL_out (by lia)] at hl
    rw [GM_out (by lia)]
    exact .inl (List.eq_nil_of_length_eq_zero hl)
  | succ k ih =>
    intro i j w hk hv hl
    by_cases hout : a.length ≤ i ∨ b.length ≤ j
    · rw [LL_out hout] at hl
      rw [GM_out hout]
      exact .inl (List.eq_nil_of_length_eq_zero hl)
    have hi : i < a.length := by lia
    have hj : j < b.length := by lia
    by_cases hx : a[i] = b[j]
    · rw [GM_eq hi hj hx, pth_zero]
      rw [LL_eq hi hj hx] at hl
      cases w with
      | nil => simp at hl
      | cons p w =>
        obtain ⟨p, q⟩ := p
        obtain ⟨h1, h2, ⟨hp, hq, e⟩, hw⟩ := hv
        by_cases hpi : p = i
        · subst hpi
          by_cases hqj : q = j
          · subst hqj
            rcases ih (p + 1) (q + 1) w (by lia) hw (by simpa using hl) with h | h
            · exact .inl (by rw [h])
            · right; rw [pth_zero, sLt_cons_same]; exact h
          · right
            rw [pth_two (by lia)]
            exact sLt_cons_lt (by decide) _ _
        · right
          rw [pth_one (w := (p, q) :: w) ⟨by lia, h2, ⟨hp, hq, e⟩, hw⟩ hi]
          exact sLt_cons_lt (by decide) _ _
    · have hE := LL_ne hi hj hx
      rw [GM_ne hi hj hx]
      by_cases hle : LL a b i (j + 1) ≤ LL a b (i + 1) j
      · rw [if_pos hle]
        have hmax : LL a b i j = LL a b (i + 1) j := by rw [hE]; exact Nat.max_eq_left hle
        obtain ⟨gv, gl⟩ := GM_val (a := a) (b := b) _ (i + 1) j (Nat.le_refl _)
        rw [pth_one gv hi]
        by_cases hrow : Val a b (i + 1) j w
        · rcases ih (i + 1) j w (by lia) hrow (by lia) with h | h
          · exact .inl h
          · right; rw [pth_one hrow hi, sLt_cons_same]; exact h
        · cases w with
          | nil => exact absurd trivial hrow
          | cons p w =>
            obtain ⟨p, q⟩ := p
            obtain ⟨h1, h2, ⟨hp, hq, e⟩, hw⟩ := hv
            have hpi : p = i := by
              by_cases hpi : p = i
              · exact hpi
              · exact absurd ⟨by lia, h2, ⟨hp, hq, e⟩, hw⟩ hrow
            subst hpi
            have hqj : q ≠ j := by rintro rfl; exact hx e
            right
            rw [pth_two (by lia)]
            exact sLt_cons_lt (by decide) _ _
      · rw [if_neg hle]
        have hmax : LL a b i j = LL a b i (j + 1) := by rw [hE]; exact Nat.max_eq_right (by lia)
        -- any best matching begins in row i
        have first : ∀ v, Val a b i j v → v.length = LL a b i j → ∃ q v', v = (i, q) :: v' ∧ j < q ∧ Val a b i (j + 1) v := by
          intro v hv hl
          cases v with
          | nil => simp at hl; lia
          | cons p v =>
            obtain ⟨p, q⟩ := p
            obtain ⟨h1, h2, ⟨hp, hq, e⟩, hw⟩ := hv
            have hpi : p = i := by
              by_cases hpi : p = i
              · exact hpi
              · have := Val.le (a := a) (b := b) _ (i + 1) j ((p, q) :: v) (Nat.le_refl _) ⟨by lia, h2, ⟨hp, hq, e⟩, hw⟩
                lia
            subst hpi
            have hqj : q ≠ j := by rintro rfl; exact hx e
            exact ⟨q, v, rfl, by lia, h1, by lia, ⟨hp, hq, e⟩, hw⟩
        obtain ⟨gv, gl⟩ := GM_val (a := a) (b := b) _ i (j + 1) (Nat.le_refl _)
        obtain ⟨q1, g', eg, hq1, _⟩ := first _ (gv.mono (Nat.le_refl _) (Nat.le_succ _)) (by rw [gl]; lia)
        obtain ⟨q2, w', ew, hq2, hwv⟩ := first w hv hl
        rcases ih i (j + 1) w (by lia) hwv (by lia) with h | h
        · exact .inl h
        · right
          rw [eg, ew, pth_two hq1, pth_two hq2, sLt_cons_same, ← eg, ← ew]
          exact h
end

/-- (length, text) below (length, text) -/
noncomputable def kLt (x y : List Nat) : Bool := if (x.length : Int) = y.length then sLt x y else decide ((x.length : Int) < y.length)

theorem kLt_irrefl (x : List Nat) : kLt x x = false := by simp [kLt, sLt_irrefl]
theorem kLt_asymm {x y : List Nat} (h : kLt x y = true) : kLt y x = false := by
  unfold kLt at *
  by_cases e : (x.length : Int) = y.length
  · rw [if_pos e] at h; rw [if_pos e.symm]; exact sLt_asymm _ _ h
  · rw [if_neg e] at h; rw [if_neg (fun q => e q.symm)]
    simp at h ⊢; lia

noncomputable def bestBy {β : Type} (key : β → List Nat) (b : β) (l : List β) : β := l.foldl (fun best w => if kLt (key w) (key best) then w else best) b

theorem bestBy_eq {β : Type} [DecidableEq β] (key : β → List Nat) (g : β) : ∀ (l : List β) (b : β), (∀ w ∈ l, w = g ∨ kLt (key g) (key w) = true) → (b = g ∨ (kLt (key g) (key b) = true ∧ g ∈ l)) → bestBy key b l = g := by
  intro l
  induction l with
  | nil =>
    intro b _ h
    rcases h with h | h
    · exact h
    · cases h.2
  | cons w l ih =>
    intro b hl hb
    show bestBy key (if kLt (key w) (key b) = true then w else b) l = g
    have hl' : ∀ v ∈ l, v = g ∨ kLt (key g) (key v) = true := fun v hv => hl v (List.mem_cons_of_mem _ hv)
    refine ih _ hl' ?_
    by_cases hbg : b = g
    · subst hbg
      rcases hl w List.mem_cons_self with h | h
      · subst h; left; split <;> rfl
      · left; rw [if_neg (by rw [kLt_asymm h]; decide)]
    · obtain ⟨hlt, hmem⟩ := hb.resolve_left hbg
      rcases hl w List.mem_cons_self with h | h
      · subst h; left; rw [if_pos hlt]
      · have hgl : g ∈ l := by
          rcases List.mem_cons.mp hmem with e | e
          · subst e; rw [kLt_irrefl] at h; cases h
          · exact e
        right
        split
        · exact ⟨h, hgl⟩
        · exact ⟨hlt, hgl⟩

/-! the enumeration of all matchings -/
section
variable {α : Type} [DecidableEq α]
noncomputable def okExt (i j : Nat) (w : List (Nat × Nat)) : Bool := match w.getLast? with
  | none => true
  | some p => decide (p.1 < i) && decide (p.2 < j)
noncomputable def ext1 (i j : Nat) (ws : List (List (Nat × Nat))) : List (List (Nat × Nat)) := ws ++ (ws.filter (okExt i j)).map (· ++ [(i, j)])
noncomputable def stepC (a b : List α) (i : Nat) (ws : List (List (Nat × Nat))) (j : Nat) : List (List (Nat × Nat)) := if a[i]? = b[j]? then ext1 i j ws else ws
noncomputable def rowC (a b : List α) (ws : List (List (Nat × Nat))) (i : Nat) : List (List (Nat × Nat)) := (List.range b.length).foldl (stepC a b i) ws
noncomputable def waysOf (a b : List α) : List (List (Nat × Nat)) := (List.range a.length).foldl (rowC a b) [[]]

theorem Val.snoc {a b : List α} : ∀ {w : List (Nat × Nat)} {i j p q : Nat}, Val a b i j w → i ≤ p → j ≤ q → (∀ r, w.getLast? = some r → r.1 < p ∧ r.2 < q) → (∃ hp : p < a.length, ∃ hq : q < b.length, a[p] = b[q]) → Val a b i j (w ++ [(p, q)]) := by
  intro w
  induction w with
  | nil => intro i j p q _ hi hj _ h; exact ⟨hi, hj, h, trivial⟩
  | cons r w ih =>
    obtain ⟨r1, r2⟩ := r
    rintro i j p q ⟨h1, h2, h3, h4⟩ hi hj hlast h
    refine ⟨h1, h2, h3, ?_⟩
    have hr : r1 < p ∧ r2 < q := by
      cases hw : w with
      | nil => subst hw; exact hlast (r1, r2) rfl
      | cons s w' =>
        -- the last one lies past r
        have : ∀ (v : List (Nat × Nat)) (x y : Nat), Val a b x y v → ∀ t, v.getLast? = some t → x ≤ t.1 ∧ y ≤ t.2 := by
          intro v
          induction v with
          | nil => intro x y _ t ht; cases ht
          | cons u v ihv =>
            obtain ⟨u1, u2⟩ := u
            rintro x y ⟨g1, g2, g3, g4⟩ t ht
            cases v with
            | nil => simp at ht; subst ht; exact ⟨g1, g2⟩
            | cons u' v' =>
              rw [List.getLast?_cons_cons] at ht
              have := ihv _ _ g4 t ht
              exact ⟨by lia, by lia⟩
        obtain ⟨t, ht⟩ : ∃ t, w.getLast? = some t := by rw [hw]; exact ⟨_, List.getLast?_eq_some_getLast (by simp)⟩
        have g := this w _ _ h4 t ht
        have hl := hlast t (by rw [hw] at ht ⊢; rw [List.getLast?_cons_cons]; exact ht)
        exact ⟨by lia, by lia⟩
    refine ih h4 (by lia) (by lia) (fun t ht => ?_) h
    refine hlast t ?_
    cases w with
    | nil => cases ht
    | cons s w' => rw [List.getLast?_cons_cons]; exact ht

theorem okExt_iff {i j : Nat} {w : List (Nat × Nat)} : okExt i j w = true ↔ ∀ r, w.getLast? = some r → r.1 < i ∧ r.2 < j := by
  unfold okExt
  cases h : w.getLast? with
  | none => simp
  | some p => simp

/-- every way is a rising matching -/
theorem stepC_val {a b : List α} {i j : Nat} {ws : List (List (Nat × Nat))} (hi : i < a.length) (hj : j < b.length) (h : ∀ w ∈ ws, Val a b 0 0 w) : ∀ w ∈ stepC a b i ws j, Val a b 0 0 w := by
  unfold stepC
  split
  · rename_i e
    rw [List.getElem?_eq_getElem hi, List.getElem?_eq_getElem hj] at e
    intro w hw
    rcases List.mem_append.mp hw with hw | hw
    · exact h w hw
    · obtain ⟨v, hv, rfl⟩ := List.mem_map.mp hw
      obtain ⟨hv1, hv2⟩ := List.mem_filter.mp hv
      exact (h v hv1).snoc (Nat.zero_le _) (Nat.zero_le _) (okExt_iff.mp hv2) ⟨hi, hj, Option.some.inj e⟩
  · exact h

theorem fold_inv {β γ : Type} (P : β → Prop) (f : β → γ → β) (l : List γ) (b : β) (h0 : P b) (hs : ∀ b c, c ∈ l → P b → P (f b c)) : P (l.foldl f b) := by
  induction l generalizing b with
  | nil => exact h0
  | cons c l ih => exact ih _ (hs b c List.mem_cons_self h0) fun b c' hc => hs b c' (List.mem_cons_of_mem _ hc)

theorem waysOf_val (a b : List α) : ∀ w ∈ waysOf a b, Val a b 0 0 w := by
  unfold waysOf
  refine fold_inv (fun ws => ∀ w ∈ ws, Val a b 0 0 w) _ _ _ (by simp [Val]) fun ws i hi h => ?_
  refine fold_inv (fun ws => ∀ w ∈ ws, Val a b 0 0 w) _ _ _ h fun ws j hj h => ?_
  exact stepC_val (List.mem_range.mp hi) (List.mem_range.mp hj) h

/-- all pairs of w come before (i, j) in the order of the loops -/
noncomputable def Bef (i j : Nat) (w : List (Nat × Nat)) : Prop := ∀ r ∈ w, r.1 < i ∨ (r.1 = i ∧ r.2 < j)

theorem stepC_sub {a b : List α} {i j : Nat} {ws : List (List (Nat × Nat))} : ∀ w ∈ ws, w ∈ stepC a b i ws j := by
  intro w hw
  unfold stepC ext1
  split
  · exact List.mem_append_left _ hw
  · exact hw

theorem Val.init {a b : List α} : ∀ {w : List (Nat × Nat)} {i j p q : Nat}, Val a b i j (w ++ [(p, q)]) → Val a b i j w ∧ (∀ r ∈ w, r.1 < p ∧ r.2 < q) ∧ i ≤ p ∧ j ≤ q ∧ ∃ hp : p < a.length, ∃ hq : q < b.length, a[p] = b[q] := by
  intro w
  induction w with
  | nil => rintro i j p q ⟨h1, h2, h3, _⟩; exact ⟨trivial, by simp, h1, h2, h3⟩
  | cons r w ih =>
    obtain ⟨r1, r2⟩ := r
    rintro i j p q ⟨h1, h2, h3, h4⟩
    obtain ⟨g1, g2, g3, g4, g5⟩ := ih h4
    refine ⟨⟨h1, h2, h3, g1⟩, ?_, by lia, by lia, g5⟩
    intro s hs
    rcases List.mem_cons.mp hs with rfl | hs
    · exact ⟨by show r1 < p; lia, by show r2 < q; lia⟩
    · exact g2 s hs

theorem stepC_all {a b : List α} {i j : Nat} {ws : List (List (Nat × Nat))} (hi : i < a.length) (hj : j < b.length) (h : ∀ w, Val a b 0 0 w → Bef i j w → w ∈ ws) :
    ∀ w, Val a b 0 0 w → Bef i (j + 1) w → w ∈ stepC a b i ws j := by
  intro w hv hb
  by_cases hlt : Bef i j w
  · exact stepC_sub w (h w hv hlt)
  · -- the last pair is (i, j)
    rcases List.eq_nil_or_concat w with rfl | ⟨v, r, rfl⟩
    · exact absurd (fun r hr => by cases hr) hlt
    · obtain ⟨p, q⟩ := r
      rw [List.concat_eq_append] at hv hb hlt ⊢
      obtain ⟨g1, g2, g3, g4, hp, hq, e⟩ := hv.init
      have hr := hb (p, q) (by simp)
      have hpq : p = i ∧ q = j := by
        by_cases hc : p < i ∨ (p = i ∧ q < j)
        · exfalso
          apply hlt
          intro s hs
          rcases List.mem_append.mp hs with hs | hs
          · have := g2 s hs; lia
          · rw [List.mem_singleton.mp hs]; exact hc
        · lia
      obtain ⟨rfl, rfl⟩ := hpq
      have hvw : v ∈ ws := h v g1 fun s hs => by have := g2 s hs; exact .inl this.1
      unfold stepC
      rw [if_pos (by rw [List.getElem?_eq_getElem hi, List.getElem?_eq_getElem hj, e])]
      refine List.mem_append_right _ (List.mem_map.mpr ⟨v, List.mem_filter.mpr ⟨hvw, okExt_iff.mpr fun s hs => ?_⟩, rfl⟩)
      exact g2 s (List.mem_of_getLast? hs)

theorem rowC_all {a b : List α} {i : Nat} {ws : List (List (Nat × Nat))} (hi : i < a.length) (h : ∀ w, Val a b 0 0 w → Bef i 0 w → w ∈ ws) :
    ∀ w, Val a b 0 0 w → Bef (i + 1) 0 w → w ∈ rowC a b ws i := by
  have key : ∀ k, k ≤ b.length → ∀ w, Val a b 0 0 w → Bef i k w → w ∈ (List.range k).foldl (stepC a b i) ws := by
    intro k
    induction k with
    | zero => intro _; simpa using h
    | succ k ih =>
      intro hk w hv hb
      rw [List.range_succ, List.foldl_append]
      exact stepC_all hi (by lia) (ih (by lia)) w hv hb
  intro w hv hb
  refine key b.length (Nat.le_refl _) w hv ?_
  -- the second places lie below b.length
  have low : ∀ (v : List (Nat × Nat)) (x y : Nat), Val a b x y v → ∀ r ∈ v, r.2 < b.length := by
    intro v
    induction v with
    | nil => intro _ _ _ r hr; cases hr
    | cons u v ihv =>
      obtain ⟨u1, u2⟩ := u
      rintro x y ⟨_, _, ⟨_, hq, _⟩, g4⟩ r hr
      rcases List.mem_cons.mp hr with rfl | hr
      · exact hq
      · exact ihv _ _ g4 r hr
  intro r hr
  have := hb r hr
  have := low w 0 0 hv r hr
  lia

theorem waysOf_all (a b : List α) : ∀ w, Val a b 0 0 w → w ∈ waysOf a b := by
  have key : ∀ k, k ≤ a.length → ∀ w, Val a b 0 0 w → Bef k 0 w → w ∈ (List.range k).foldl (rowC a b) [[]] := by
    intro k
    induction k with
    | zero =>
      intro _ w _ hb
      cases w with
      | nil => simp
      | cons r w => have := hb r List.mem_cons_self; lia
    | succ k ih =>
      intro hk w hv hb
      rw [List.range_succ, List.foldl_append]
      exact rowC_all (by lia) (ih (by lia)) w hv hb
  intro w hv
  refine key a.length (Nat.le_refl _) w hv ?_
  have low : ∀ (v : List (Nat × Nat)) (x y : Nat), Val a b x y v → ∀ r ∈ v, r.1 < a.length := by
    intro v
    induction v with
    | nil => intro _ _ _ r hr; cases hr
    | cons u v ihv =>
      obtain ⟨u1, u2⟩ := u
      rintro x y ⟨_, _, ⟨hp, _, _⟩, g4⟩ r hr
      rcases List.mem_cons.mp hr with rfl | hr
      · exact hp
      · exact ihv _ _ g4 r hr
  exact fun r hr => .inl (low w 0 0 hv r hr)

/-- what the law's brute force gives -/
noncomputable def bestOf (a b : List α) : List (Nat × Nat) := bestBy (pth a.length b.length 0 0) [] (waysOf a b)

theorem bestOf_eq (a b : List α) : bestOf a b = GM a b 0 0 := by
  obtain ⟨gv, gl⟩ := GM_val (a := a) (b := b) _ 0 0 (Nat.le_refl _)
  have key : ∀ w, Val a b 0 0 w → w = GM a b 0 0 ∨ kLt (pth a.length b.length 0 0 (GM a b 0 0)) (pth a.length b.length 0 0 w) = true := by
    intro w hv
    have h1 := pth_len w 0 0 hv (Nat.zero_le _) (Nat.zero_le _)
    have h2 := pth_len (GM a b 0 0) 0 0 gv (Nat.zero_le _) (Nat.zero_le _)
    have hle := Val.le (a := a) (b := b) _ 0 0 w (Nat.le_refl _) hv
    by_cases hl : w.length = LL a b 0 0
    · rcases GM_least _ 0 0 w (Nat.le_refl _) hv hl with h | h
      · exact .inl h
      · right; unfold kLt; rw [if_pos (by lia)]; exact h
    · right; unfold kLt; rw [if_neg (by lia)]; simp; lia
  unfold bestOf
  refine bestBy_eq _ _ _ _ (fun w hw => key w (waysOf_val a b w hw)) ?_
  rcases key [] trivial with h | h
  · exact .inl h
  · exact .inr ⟨h, waysOf_all a b _ gv⟩

theorem bestOf_len (a b : List α) : (bestOf a b).length = L a b := by
  rw [bestOf_eq, (GM_val (a := a) (b := b) _ 0 0 (Nat.le_refl _)).2]; rfl

/-- how many ways there are -/
theorem rowC_count (a b : List α) (ws : List (List (Nat × Nat))) (i : Nat) (h : ∀ w ∈ ws, ∀ r ∈ w, r.1 < i) :
    (rowC a b ws i).length ≤ (b.length + 1) * ws.length ∧ ∀ w ∈ rowC a b ws i, ∀ r ∈ w, r.1 < i + 1 := by
  have key : ∀ k, ∃ add, (List.range k).foldl (stepC a b i) ws = ws ++ add ∧ add.length ≤ k * ws.length ∧ (∀ w ∈ add, ∃ j, w.getLast? = some (i, j)) ∧ ∀ w ∈ add, ∀ r ∈ w, r.1 < i + 1 := by
    intro k
    induction k with
    | zero => exact ⟨[], by simp, by simp, by simp, by simp⟩
    | succ k ih =>
      obtain ⟨add, e, hl, hlast, hlt⟩ := ih
      rw [List.range_succ, List.foldl_append, e]
      simp only [List.foldl_cons, List.foldl_nil]
      unfold stepC
      split
      · have hf : add.filter (okExt i k) = [] := by
          rw [List.filter_eq_nil_iff]
          intro w hw hok
          obtain ⟨j, hj⟩ := hlast w hw
          have := okExt_iff.mp hok _ hj
          simp at this
        refine ⟨add ++ (ws.filter (okExt i k)).map (· ++ [(i, k)]), ?_, ?_, ?_, ?_⟩
        · unfold ext1; rw [List.filter_append, hf, List.append_nil, List.append_assoc]
        · have := List.length_filter_le (okExt i k) ws
          rw [List.length_append, List.length_map, Nat.succ_mul]; lia
        · intro w hw
          rcases List.mem_append.mp hw with hw | hw
          · exact hlast w hw
          · obtain ⟨v, _, rfl⟩ := List.mem_map.mp hw
            exact ⟨k, by simp⟩
        · intro w hw r hr
          rcases List.mem_append.mp hw with hw | hw
          · exact hlt w hw r hr
          · obtain ⟨v, hv, rfl⟩ := List.mem_map.mp hw
            rcases List.mem_append.mp hr with hr | hr
            · exact Nat.lt_succ_of_lt (h v (List.mem_filter.mp hv).1 r hr)
            · rw [List.mem_singleton.mp hr]; exact Nat.lt_succ_self _
      · exact ⟨add, rfl, by rw [Nat.succ_mul]; lia, hlast, hlt⟩
  obtain ⟨add, e, hl, _, hlt⟩ := key b.length
  unfold rowC
  rw [e]
  refine ⟨by rw [List.length_append, Nat.succ_mul]; lia, fun w hw r hr => ?_⟩
  rcases List.mem_append.mp hw with hw | hw
  · exact Nat.lt_succ_of_lt (h w hw r hr)
  · exact hlt w hw r hr
end

/-! sub-words -/
section
variable {α : Type} [DecidableEq α]
noncomputable def wordsStep (ws : List (List α)) (c : α) : List (List α) := ws ++ ws.map (· ++ [c])
noncomputable def wordsOf (a : List α) : List (List α) := a.foldl wordsStep [[]]

theorem mem_wordsStep {pre : List α} {ws : List (List α)} (h : ∀ w, w ∈ ws ↔ w.Sublist pre) (c : α) : ∀ w, w ∈ wordsStep ws c ↔ w.Sublist (pre ++ [c]) := by
  intro w
  unfold wordsStep
  rw [List.mem_append, List.mem_map, List.sublist_append_iff]
  constructor
  · rintro (hw | ⟨v, hv, rfl⟩)
    · exact ⟨w, [], by simp, (h w).mp hw, by simp⟩
    · exact ⟨v, [c], rfl, (h v).mp hv, List.Sublist.refl _⟩
  · rintro ⟨l1, l2, rfl, h1, h2⟩
    rcases l2 with _ | ⟨x, l2⟩
    · left; simpa using (h l1).mpr h1
    · right
      have hlen := h2.length_le
      have : l2 = [] := List.eq_nil_of_length_eq_zero (by simpa using hlen)
      subst this
      have hx : x = c := by simpa using h2
      subst hx
      exact ⟨l1, (h l1).mpr h1, rfl⟩

theorem mem_wordsOf (a : List α) (w : List α) : w ∈ wordsOf a ↔ w.Sublist a := by
  have key : ∀ (rest pre : List α) (ws : List (List α)), (∀ w, w ∈ ws ↔ w.Sublist pre) → ∀ w, w ∈ rest.foldl wordsStep ws ↔ w.Sublist (pre ++ rest) := by
    intro rest
    induction rest with
    | nil => intro pre ws h w; simpa using h w
    | cons c rest ih =>
      intro pre ws h w
      have := ih (pre ++ [c]) (wordsStep ws c) (mem_wordsStep h c) w
      simpa using this
  have := key a [] [[]] (by intro w; simp) w
  rw [List.nil_append] at this
  exact this


/-- the greedy count -/
noncomputable def foundStep (s : List α) (f : Nat) (c : α) : Nat := if s[f]? = some c then f + 1 else f
theorem found_iff (s : List α) : ∀ (a : List α) (f : Nat), f ≤ s.length → (a.foldl (foundStep s) f ≤ s.length ∧ (a.foldl (foundStep s) f = s.length ↔ (s.drop f).Sublist a)) := by
  intro a
  induction a with
  | nil =>
    intro f hf
    refine ⟨hf, ?_⟩
    simp only [List.foldl_nil, List.sublist_nil, List.drop_eq_nil_iff]
    lia
  | cons c a ih =>
    intro f hf
    rw [List.foldl_cons]
    unfold foundStep
    by_cases hlt : f < s.length
    · rw [List.getElem?_eq_getElem hlt]
      rw [List.drop_eq_getElem_cons hlt]
      by_cases he : s[f] = c
      · rw [if_pos (by rw [he])]
        obtain ⟨h1, h2⟩ := ih (f + 1) hlt
        refine ⟨h1, h2.trans ?_⟩
        rw [he]
        exact List.cons_sublist_cons.symm
      · rw [if_neg (by simpa using he)]
        obtain ⟨h1, h2⟩ := ih f hf
        refine ⟨h1, h2.trans ?_⟩
        rw [List.drop_eq_getElem_cons hlt]
        constructor
        · exact fun h => List.Sublist.cons _ h
        · intro h
          cases h with
          | cons _ h => exact h
          | cons_cons _ h => exact absurd rfl he
    · have hfl : f = s.length := by lia
      subst hfl
      rw [if_neg (by simp)]
      obtain ⟨h1, h2⟩ := ih s.length (Nat.le_refl _)
      refine ⟨h1, h2.trans ?_⟩
      simp
end

/-! Myers' distance: the prefix table -/
noncomputable def dp (mt : Nat → Nat → Bool) : Nat → Nat → Nat
  | 0, _ => 0
  | _ + 1, 0 => 0
  | x + 1, y + 1 => if mt x y then dp mt x y + 1 else Nat.max (dp mt x (y + 1)) (dp mt (x + 1) y)
theorem dp_zl (mt : Nat → Nat → Bool) (y : Nat) : dp mt 0 y = 0 := by unfold dp; rfl
theorem dp_zr (mt : Nat → Nat → Bool) (x : Nat) : dp mt x 0 = 0 := by cases x <;> (unfold dp; rfl)
theorem dp_ss (mt : Nat → Nat → Bool) (x y : Nat) : dp mt (x + 1) (y + 1) = if mt x y then dp mt x y + 1 else Nat.max (dp mt x (y + 1)) (dp mt (x + 1) y) := by
  rw [dp]
theorem dp_steps (mt : Nat → Nat → Bool) : ∀ k x y, x + y ≤ k → dp mt x y ≤ dp mt (x + 1) y ∧ dp mt (x + 1) y ≤ dp mt x y + 1 ∧ dp mt x y ≤ dp mt x (y + 1) ∧ dp mt x (y + 1) ≤ dp mt x y + 1 := by
  intro k
  induction k with
  | zero =>
    intro x y h
    obtain ⟨rfl, rfl⟩ : x = 0 ∧ y = 0 := ⟨by lia, by lia⟩
    simp [dp_zl, dp_zr]
  | succ k ih =>
    intro x y h
    cases x with
    | zero =>
      cases y with
      | zero => simp [dp_zl, dp_zr]
      | succ y =>
        have h1 := ih 0 y (by lia)
        rw [dp_zl, dp_zl, dp_ss, dp_zl, dp_zl]
        simp only [dp_zl] at h1
        refine ⟨by lia, ?_, by lia, by lia⟩
        split
        · lia
        · rw [show Nat.max 0 (dp mt (0 + 1) y) = max 0 (dp mt (0 + 1) y) from rfl]; lia
    | succ x =>
      cases y with
      | zero =>
        have h1 := ih x 0 (by lia)
        rw [dp_zr, dp_zr, dp_ss, dp_zr, dp_zr]
        simp only [dp_zr] at h1
        refine ⟨by lia, by lia, by lia, ?_⟩
        split
        · lia
        · rw [show Nat.max (dp mt x (0 + 1)) 0 = max (dp mt x (0 + 1)) 0 from rfl]; lia
      | succ y =>
        have h1 := ih x (y + 1) (by lia)
        have h2 := ih (x + 1) y (by lia)
        have h3 := ih x y (by lia)
        have e0 := dp_ss mt x y
        have e1 := dp_ss mt (x + 1) y
        have e2 := dp_ss mt x (y + 1)
        simp only [Nat.max_def] at e0 e1 e2
        refine ⟨?_, ?_, ?_, ?_⟩
        all_goals (split at e1 <;> split at e2 <;> split at e0 <;> (try split at e1) <;> (try split at e2) <;> (try split at e0) <;> lia)

theorem dp_mx (mt : Nat → Nat → Bool) (x y : Nat) : dp mt x y ≤ dp mt (x + 1) y := (dp_steps mt _ x y (Nat.le_refl _)).1
theorem dp_my (mt : Nat → Nat → Bool) (x y : Nat) : dp mt x y ≤ dp mt x (y + 1) := (dp_steps mt _ x y (Nat.le_refl _)).2.2.1
theorem dp_diag (mt : Nat → Nat → Bool) (x y : Nat) : dp mt (x + 1) (y + 1) ≤ dp mt x y + 1 := by
  have h := dp_steps mt _ x y (Nat.le_refl _)
  have e := dp_ss mt x y
  simp only [Nat.max_def] at e
  split at e
  · lia
  · split at e <;> lia
/-- where nothing matches the greater of the two -/
theorem dp_no {mt : Nat → Nat → Bool} {x y : Nat} (h : mt x y = false) : dp mt (x + 1) (y + 1) = dp mt x (y + 1) ∨ dp mt (x + 1) (y + 1) = dp mt (x + 1) y := by
  rw [dp_ss, h]
  simp only [Bool.false_eq_true, if_false, Nat.max_def]
  split
  · exact .inr rfl
  · exact .inl rfl
theorem dp_yes {mt : Nat → Nat → Bool} {x y : Nat} (h : mt x y = true) : dp mt (x + 1) (y + 1) = dp mt x y + 1 := by
  rw [dp_ss, h]; rfl

noncomputable def dl (mt : Nat → Nat → Bool) (x y : Nat) : Int := (x : Int) + y - 2 * dp mt x y
theorem dl_diag (mt : Nat → Nat → Bool) (x y : Nat) : dl mt x y ≤ dl mt (x + 1) (y + 1) := by
  have := dp_diag mt x y
  unfold dl; lia
theorem dl_diag_add (mt : Nat → Nat → Bool) (x y t : Nat) : dl mt x y ≤ dl mt (x + t) (y + t) := by
  induction t with
  | zero => exact Int.le_refl _
  | succ t ih => exact Int.le_trans ih (dl_diag mt _ _)
theorem dl_right (mt : Nat → Nat → Bool) (x y : Nat) : dl mt (x + 1) y ≤ dl mt x y + 1 := by
  have := dp_mx mt x y
  unfold dl; lia
theorem dl_down (mt : Nat → Nat → Bool) (x y : Nat) : dl mt x (y + 1) ≤ dl mt x y + 1 := by
  have := dp_my mt x y
  unfold dl; lia
theorem dp_le (mt : Nat → Nat → Bool) : ∀ x y, dp mt x y ≤ x ∧ dp mt x y ≤ y := by
  intro x y
  constructor
  · induction x with
    | zero => rw [dp_zl]; lia
    | succ x ih => have := (dp_steps mt _ x y (Nat.le_refl _)).2.1; lia
  · induction y with
    | zero => rw [dp_zr]; lia
    | succ y ih => have := (dp_steps mt _ x y (Nat.le_refl _)).2.2.2; lia
theorem dl_abs (mt : Nat → Nat → Bool) (x y : Nat) : (x : Int) - y ≤ dl mt x y ∧ (y : Int) - x ≤ dl mt x y := by
  have := dp_le mt x y
  unfold dl; lia
theorem dl_no {mt : Nat → Nat → Bool} {x y : Nat} (h : mt x y = false) : dl mt (x + 1) (y + 1) = dl mt x (y + 1) + 1 ∨ dl mt (x + 1) (y + 1) = dl mt (x + 1) y + 1 := by
  unfold dl
  rcases dp_no h with e | e <;> rw [e]
  · left; lia
  · right; lia
theorem dl_yes {mt : Nat → Nat → Bool} {x y : Nat} (h : mt x y = true) : dl mt (x + 1) (y + 1) = dl mt x y := by
  unfold dl; rw [dp_yes h]; lia

/-- x is the furthest place on diagonal k with at most d edits -/
noncomputable def Far (mt : Nat → Nat → Bool) (d k : Int) (x : Nat) : Prop := ∃ y : Nat, (x : Int) - y = k ∧ dl mt x y ≤ d ∧ d < dl mt (x + 1) (y + 1)

theorem Far.le {mt : Nat → Nat → Bool} {d k : Int} {x : Nat} (h : Far mt d k x) {x' y' : Nat} (hk : (x' : Int) - y' = k) (hd : dl mt x' y' ≤ d) : x' ≤ x := by
  obtain ⟨y, e, _, h2⟩ := h
  by_cases hc : x' ≤ x
  · exact hc
  · exfalso
    have := dl_diag_add mt (x + 1) (y + 1) (x' - (x + 1))
    rw [show x + 1 + (x' - (x + 1)) = x' by lia, show y + 1 + (x' - (x + 1)) = y' by lia] at this
    lia

/-- a round's step: the start, then the matches, then no match -/
theorem Far.step {mt : Nat → Nat → Bool} {d k : Int} {x y : Nat} (hk : (x : Int) - y = k) (hd : dl mt x y ≤ d) (hno : mt x y = false)
    (hL : ∀ x' y' : Nat, (x' : Int) - y' = k - 1 → dl mt x' y' ≤ d - 1 → x' + 1 ≤ x) (hR : ∀ x' y' : Nat, (x' : Int) - y' = k + 1 → dl mt x' y' ≤ d - 1 → x' ≤ x) : Far mt d k x := by
  refine ⟨y, hk, hd, ?_⟩
  by_cases hc : d < dl mt (x + 1) (y + 1)
  · exact hc
  · exfalso
    rcases dl_no hno with e | e
    · have := hL x (y + 1) (by lia) (by lia); lia
    · have := hR (x + 1) y (by lia) (by lia); lia

section
variable {α : Type} [DecidableEq α]
noncomputable def mtOf (a b : List α) (x y : Nat) : Bool := decide (x < a.length) && decide (y < b.length) && decide (a[x]? = b[y]?)
theorem mtOf_iff {a b : List α} {x y : Nat} : mtOf a b x y = true ↔ ∃ hx : x < a.length, ∃ hy : y < b.length, a[x] = b[y] := by
  unfold mtOf
  simp only [Bool.and_eq_true, decide_eq_true_eq]
  constructor
  · rintro ⟨⟨h1, h2⟩, e⟩
    rw [List.getElem?_eq_getElem h1, List.getElem?_eq_getElem h2] at e
    exact ⟨h1, h2, Option.some.inj e⟩
  · rintro ⟨h1, h2, e⟩
    refine ⟨⟨h1, h2⟩, ?_⟩
    rw [List.getElem?_eq_getElem h1, List.getElem?_eq_getElem h2, e]

theorem dp_past_x {a b : List α} : ∀ (y x : Nat), a.length ≤ x → dp (mtOf a b) (x + 1) y = dp (mtOf a b) x y := by
  intro y
  induction y with
  | zero => intro x _; rw [dp_zr, dp_zr]
  | succ y ih =>
    intro x hx
    have hno : mtOf a b x y = false := by
      cases h : mtOf a b x y with
      | false => rfl
      | true => obtain ⟨h1, _⟩ := mtOf_iff.mp h; lia
    have h1 := dp_mx (mtOf a b) x (y + 1)
    have h2 := dp_my (mtOf a b) x y
    have h3 := ih x hx
    rcases dp_no hno with e | e <;> lia
theorem dp_past_y {a b : List α} : ∀ (x y : Nat), b.length ≤ y → dp (mtOf a b) x (y + 1) = dp (mtOf a b) x y := by
  intro x
  induction x with
  | zero => intro y _; rw [dp_zl, dp_zl]
  | succ x ih =>
    intro y hy
    have hno : mtOf a b x y = false := by
      cases h : mtOf a b x y with
      | false => rfl
      | true => obtain ⟨_, h1, _⟩ := mtOf_iff.mp h; lia
    have h1 := dp_my (mtOf a b) (x + 1) y
    have h2 := dp_mx (mtOf a b) x y
    have h3 := ih y hy
    rcases dp_no hno with e | e <;> lia
theorem dp_past {a b : List α} {x y : Nat} (hx : a.length ≤ x) (hy : b.length ≤ y) : dp (mtOf a b) x y = dp (mtOf a b) a.length b.length := by
  have h1 : ∀ t, dp (mtOf a b) (a.length + t) y = dp (mtOf a b) a.length y := by
    intro t
    induction t with
    | zero => rfl
    | succ t ih => rw [← ih]; exact dp_past_x y (a.length + t) (by lia)
  have h2 : ∀ t, dp (mtOf a b) a.length (b.length + t) = dp (mtOf a b) a.length b.length := by
    intro t
    induction t with
    | zero => rfl
    | succ t ih => rw [← ih]; exact dp_past_y a.length (b.length + t) (by lia)
  have e1 := h1 (x - a.length)
  have e2 := h2 (y - b.length)
  rw [show a.length + (x - a.length) = x by lia] at e1
  rw [show b.length + (y - b.length) = y by lia] at e2
  rw [e1, e2]

/-- a matching within [0, x) and [0, y) is no longer than dp x y -/
theorem Val.le_dp {a b : List α} : ∀ (k : Nat) (w : List (Nat × Nat)) (x y : Nat), w.length ≤ k → Val a b 0 0 w → (∀ r ∈ w, r.1 < x ∧ r.2 < y) → w.length ≤ dp (mtOf a b) x y := by
  intro k
  induction k with
  | zero => intro w x y hk _ _; lia
  | succ k ih =>
    intro w x y hk hv hb
    rcases List.eq_nil_or_concat w with rfl | ⟨v, r, rfl⟩
    · exact Nat.zero_le _
    · obtain ⟨p, q⟩ := r
      rw [List.concat_eq_append] at hv hb hk ⊢
      obtain ⟨g1, g2, g3, g4, hp, hq, e⟩ := hv.init
      have hpq := hb (p, q) (by simp)
      simp only at hpq
      have h1 := ih v p q (by simp at hk; lia) g1 g2
      have h2 : dp (mtOf a b) (p + 1) (q + 1) = dp (mtOf a b) p q + 1 := dp_yes (mtOf_iff.mpr ⟨hp, hq, e⟩)
      have mono : ∀ s t, dp (mtOf a b) (p + 1) (q + 1) ≤ dp (mtOf a b) (p + 1 + s) (q + 1 + t) := by
        intro s t
        have m1 : ∀ s, dp (mtOf a b) (p + 1) (q + 1) ≤ dp (mtOf a b) (p + 1 + s) (q + 1) := by
          intro s
          induction s with
          | zero => exact Nat.le_refl _
          | succ s ih => exact Nat.le_trans ih (dp_mx _ _ _)
        have m2 : ∀ t, dp (mtOf a b) (p + 1 + s) (q + 1) ≤ dp (mtOf a b) (p + 1 + s) (q + 1 + t) := by
          intro t
          induction t with
          | zero => exact Nat.le_refl _
          | succ t ih => exact Nat.le_trans ih (dp_my _ _ _)
        exact Nat.le_trans (m1 s) (m2 t)
      have := mono (x - (p + 1)) (y - (q + 1))
      rw [show p + 1 + (x - (p + 1)) = x by lia, show q + 1 + (y - (q + 1)) = y by lia] at this
      simp only [List.length_append, List.length_cons, List.length_nil]
      lia

theorem dp_has {a b : List α} : ∀ (k x y : Nat), x + y ≤ k → ∃ w, Val a b 0 0 w ∧ (∀ r ∈ w, r.1 < x ∧ r.2 < y) ∧ w.length = dp (mtOf a b) x y := by
  intro k
  induction k with
  | zero =>
    intro x y h
    obtain ⟨rfl, rfl⟩ : x = 0 ∧ y = 0 := ⟨by lia, by lia⟩
    exact ⟨[], trivial, by simp, by rw [dp_zl]; rfl⟩
  | succ k ih =>
    intro x y h
    cases x with
    | zero => exact ⟨[], trivial, by simp, by rw [dp_zl]; rfl⟩
    | succ x =>
      cases y with
      | zero => exact ⟨[], trivial, by simp, by rw [dp_zr]; rfl⟩
      | succ y =>
        cases hm : mtOf a b x y with
        | true =>
          obtain ⟨w, h1, h2, h3⟩ := ih x y (by lia)
          refine ⟨w ++ [(x, y)], h1.snoc (Nat.zero_le _) (Nat.zero_le _) (fun r hr => h2 r (List.mem_of_getLast? hr)) (mtOf_iff.mp hm), ?_, by rw [dp_yes hm, ← h3]; simp⟩
          intro r hr
          rcases List.mem_append.mp hr with hr | hr
          · have := h2 r hr; lia
          · rw [List.mem_singleton.mp hr]; exact ⟨Nat.lt_succ_self _, Nat.lt_succ_self _⟩
        | false =>
          rcases dp_no hm with e | e
          · obtain ⟨w, h1, h2, h3⟩ := ih x (y + 1) (by lia)
            exact ⟨w, h1, fun r hr => by have := h2 r hr; lia, by rw [e, h3]⟩
          · obtain ⟨w, h1, h2, h3⟩ := ih (x + 1) y (by lia)
            exact ⟨w, h1, fun r hr => by have := h2 r hr; lia, by rw [e, h3]⟩

theorem dp_L (a b : List α) : dp (mtOf a b) a.length b.length = L a b := by
  refine Nat.le_antisymm ?_ ?_
  · obtain ⟨w, h1, _, h3⟩ := dp_has (a := a) (b := b) _ a.length b.length (Nat.le_refl _)
    rw [← h3]
    exact Val.le _ 0 0 w (Nat.le_refl _) h1
  · obtain ⟨gv, gl⟩ := GM_val (a := a) (b := b) _ 0 0 (Nat.le_refl _)
    have : (GM a b 0 0).length ≤ dp (mtOf a b) a.length b.length := by
      refine Val.le_dp _ _ _ _ (Nat.le_refl _) gv ?_
      have low : ∀ (v : List (Nat × Nat)) (x y : Nat), Val a b x y v → ∀ r ∈ v, r.1 < a.length ∧ r.2 < b.length := by
        intro v
        induction v with
        | nil => intro _ _ _ r hr; cases hr
        | cons u v ihv =>
          obtain ⟨u1, u2⟩ := u
          rintro x y ⟨_, _, ⟨hp, hq, _⟩, g4⟩ r hr
          rcases List.mem_cons.mp hr with rfl | hr
          · exact ⟨hp, hq⟩
          · exact ihv _ _ g4 r hr
      exact low _ 0 0 gv
    rw [gl] at this
    exact this

theorem dp_swap (a b : List α) : ∀ x y, dp (mtOf a b) x y = dp (mtOf b a) y x := by
  intro x
  induction x with
  | zero => intro y; rw [dp_zl, dp_zr]
  | succ x ihx =>
    intro y
    induction y with
    | zero => rw [dp_zl, dp_zr]
    | succ y ihy =>
      have hm : mtOf a b x y = mtOf b a y x := by
        unfold mtOf
        rw [Bool.and_comm (decide (x < a.length)), show decide (a[x]? = b[y]?) = decide (b[y]? = a[x]?) from by simp [eq_comm]]
      rw [dp_ss, dp_ss, hm, ihx, ihx, ihy]
      split
      · rfl
      · exact Nat.max_comm _ _
theorem L_swap (a b : List α) : L a b = L b a := by rw [← dp_L, dp_swap, dp_L]

/-- the edit distance -/
noncomputable def dist (a b : List α) : Int := (a.length : Int) + b.length - 2 * L a b
theorem dist_dl (a b : List α) : dist a b = dl (mtOf a b) a.length b.length := by unfold dist dl; rw [dp_L]
theorem dist_swap (a b : List α) : dist a b = dist b a := by unfold dist; rw [L_swap]; lia
/-- a place past both ends costs no less -/
theorem dist_past {a b : List α} {x y : Nat} (hx : a.length ≤ x) (hy : b.length ≤ y) : dist a b ≤ dl (mtOf a b) x y := by
  unfold dist dl
  rw [dp_past hx hy, dp_L]; lia
end
end Mine
namespace Mine
/-! encodings -/
noncomputable abbrev Ln := List Nat
noncomputable def eS (a : List Ln) : D := .list (a.map .str)
noncomputable def eI (a : List Int) : D := .list (a.map .int)
noncomputable def eP (p : Nat × Nat) : D := .tup [.int p.1, .int p.2]
noncomputable def eW (w : List (Nat × Nat)) : D := .list (w.map eP)
noncomputable def eWs (ws : List (List (Nat × Nat))) : D := .list (ws.map eW)
noncomputable def eR (m : Nat) (f : Nat → Int) : D := .list ((List.range (m + 1)).map fun q => .int (f q))
noncomputable def eT (n m : Nat) (f : Nat → Nat → Int) : D := .list ((List.range (n + 1)).map fun p => eR m (f p))

theorem getL_nat (l : List D) (n : Nat) : getL l (n : Int) = l[n]? := by simp [getL]
theorem getL_nat1 (l : List D) (n : Nat) : getL l ((n : Int) + 1) = l[n + 1]? := by
  have := getL_nat l (n + 1)
  simpa using this
theorem getL_in {l : List D} {i : Int} {n : Nat} (h : i = n) : getL l i = l[n]? := by subst h; exact getL_nat l n

theorem idx_S {a : List Ln} {k : Nat} (h : k < a.length) : idxD (eS a) (.int k) = some (.str a[k]) := by
  simp [idxD, eS, getL_nat, h]
theorem idx_T {n m p : Nat} {f : Nat → Nat → Int} (h : p ≤ n) : idxD (eT n m f) (.int p) = some (eR m (f p)) := by
  have : p < n + 1 := by lia
  simp [idxD, eT, getL_nat, this]
theorem idx_R {m q : Nat} {f : Nat → Int} (h : q ≤ m) : idxD (eR m f) (.int q) = some (.int (f q)) := by
  have : q < m + 1 := by lia
  simp [idxD, eR, getL_nat, this]

theorem rep_map {β : Type} (c : β) (n : Nat) : List.replicate n c = (List.range n).map fun _ => c := by
  induction n with
  | zero => rfl
  | succ n ih => rw [List.replicate_succ', ih, List.range_succ, List.map_append]; rfl
theorem map_set {β : Type} (g : Nat → β) (n k : Nat) (v : β) : ((List.range n).map g).set k v = (List.range n).map fun p => if p = k then v else g p := by
  apply List.ext_getElem
  · simp
  · intro i h1 h2
    simp only [List.getElem_set, List.getElem_map, List.getElem_range]
    by_cases h : k = i
    · subst h; simp
    · rw [if_neg h, if_neg (fun e => h e.symm)]

noncomputable def down (k : Nat) : List Int := (List.range k).map fun (i : Nat) => (k : Int) - 1 - i
theorem down_succ (k : Nat) : down (k + 1) = (k : Int) :: down k := by
  unfold down
  rw [List.range_succ_eq_map]
  simp only [List.map_cons, List.map_map]
  congr 1
  · simp
  · apply List.map_congr_left
    intro i _
    simp only [Function.comp]
    push_cast
    lia
theorem rngL_down (n : Nat) : rngL ((n : Int) - 1) (-1) (-1) = down n := by
  unfold rngL down rngN
  simp only [show ¬ (0 : Int) < -1 by decide, if_false]
  have : (((n : Int) - 1 - -1 + - -1 - 1) / - -1).toNat = n := by
    rw [show - (-1 : Int) = 1 from rfl, Int.ediv_one]; lia
  rw [this]
  apply List.map_congr_left
  intro i _
  lia
noncomputable def up (k n : Nat) : List Int := (List.range n).map fun (i : Nat) => (k : Int) + i
theorem up_succ (k n : Nat) : up k (n + 1) = (k : Int) :: up (k + 1) n := by
  unfold up
  rw [List.range_succ_eq_map]
  simp only [List.map_cons, List.map_map]
  rw [show ((k : Int) + (0 : Nat)) = k by simp]
  congr 1
  apply List.map_congr_left
  intro i _
  simp only [Function.comp]
  push_cast
  lia
theorem rngL_up (n : Nat) : rngL 0 (n : Int) 1 = up 0 n := by
  unfold rngL up rngN
  simp only [show (0 : Int) < 1 by decide, if_true]
  have : (((n : Int) - 0 + 1 - 1) / 1).toNat = n := by rw [Int.ediv_one]; lia
  rw [this]
  apply List.map_congr_left
  intro i _
  simp

theorem small_of {i : Int} (h1 : -1000 ≤ i) (h2 : i ≤ 1000) : small i = true := by unfold small; simp; lia
theorem rangeD_of {a b c : Int} (ha : -1000 ≤ a ∧ a ≤ 1000) (hb : -1000 ≤ b ∧ b ≤ 1000) (hc : -1000 ≤ c ∧ c ≤ 1000) (h0 : c ≠ 0) : rangeD a b c = some (.rng (rngL a b c)) := by
  unfold rangeD
  rw [small_of ha.1 ha.2, small_of hb.1 hb.2, small_of hc.1 hc.2]
  simp [h0]

/-- after a statement the rest -/
theorem Run.then {Φ : Phi} {mu : Nat} {s : S} {l : List S} {ρ ρ' : Rho} {o : Out} (h1 : Run Φ mu (.stmt s) ρ (.next ρ')) (h2 : Run Φ mu (.seq l) ρ' o) : Run Φ mu (.seq (s :: l)) ρ o := .cons h1 h2
theorem Run.one {Φ : Phi} {mu : Nat} {s : S} {ρ : Rho} {o : Out} (h1 : Run Φ mu (.stmt s) ρ o) : Run Φ mu (.seq [s]) ρ o := by
  cases o with
  | next ρ' => exact .cons h1 .nil
  | ret d => exact .stop h1

noncomputable abbrev F0 : Phi := fun _ _ => none

/-! lcs_table -/
noncomputable def tabD (a b : List Ln) : D := eT a.length b.length fun p q => (LL a b p q : Int)

section
variable (a b : List Ln)
noncomputable def hh (k l p q : Nat) : Int := if k < p ∨ (p = k ∧ l ≤ q) then (LL a b p q : Int) else 0

theorem hh_top (k : Nat) : hh a b k b.length = hh a b (k + 1) 0 := by
  funext p q
  unfold hh
  by_cases h1 : k < p
  · rw [if_pos (.inl h1), if_pos]
    by_cases h2 : k + 1 < p
    · exact .inl h2
    · exact .inr ⟨by lia, Nat.zero_le _⟩
  · rw [if_neg (show ¬ (k + 1 < p ∨ p = k + 1 ∧ 0 ≤ q) by lia)]
    split
    · rw [LL_out (by lia)]; rfl
    · rfl
theorem hh_set (k l : Nat) : (fun p q => if p = k then (if q = l then (LL a b k l : Int) else hh a b k (l + 1) k q) else hh a b k (l + 1) p q) = hh a b k l := by
  funext p q
  unfold hh
  by_cases hp : p = k
  · subst hp
    rw [if_pos rfl]
    by_cases hq : q = l
    · subst hq; rw [if_pos rfl, if_pos (.inr ⟨rfl, Nat.le_refl _⟩)]
    · rw [if_neg hq]
      by_cases h : l ≤ q
      · rw [if_pos (.inr ⟨rfl, by lia⟩), if_pos (.inr ⟨rfl, h⟩)]
      · rw [if_neg (by lia), if_neg (by lia)]
  · rw [if_neg hp]
    by_cases h : k < p
    · rw [if_pos (.inl h), if_pos (.inl h)]
    · rw [if_neg (by lia), if_neg (by lia)]

theorem eT_set (n m k l : Nat) (f : Nat → Nat → Int) (v : Int) :
    D.list (((List.range (n + 1)).map fun p => eR m (f p)).set k (.list (((List.range (m + 1)).map fun q => D.int (f k q)).set l (.int v)))) =
      eT n m fun p q => if p = k then (if q = l then v else f k q) else f p q := by
  rw [map_set, map_set]
  unfold eT
  congr 1
  apply List.map_congr_left
  intro p _
  by_cases h : p = k
  · subst h
    simp only [if_true, eR]
    congr 1
    apply List.map_congr_left
    intro q _
    by_cases h2 : q = l <;> simp [h2]
  · simp [h]

noncomputable def bodyJ : List S := [.ite (.e (.cmp .eq (.idx (.var 0) (.var 3)) (.idx (.var 1) (.var 4)))) [.set2 2 (.var 3) (.var 4) (.bin .add (.idx (.idx (.var 2) (.bin .add (.var 3) (.int 1))) (.bin .add (.var 4) (.int 1))) (.int 1))] [.set2 2 (.var 3) (.var 4) (.max (.idx (.idx (.var 2) (.bin .add (.var 3) (.int 1))) (.var 4)) (.idx (.idx (.var 2) (.var 3)) (.bin .add (.var 4) (.int 1))))]]

theorem run_cell {k l : Nat} (hk : k < a.length) (hl : l < b.length) (o5 : Option D) :
    Run F0 2 (.seq bodyJ) [some (eS a), some (eS b), some (eT a.length b.length (hh a b k (l + 1))), some (.int k), some (.int l), o5]
      (.next [some (eS a), some (eS b), some (eT a.length b.length (hh a b k l)), some (.int k), some (.int l), o5]) := by
  have c1 : ((k : Int) + 1) = ((k + 1 : Nat) : Int) := by push_cast; rfl
  have c2 : ((l : Int) + 1) = ((l + 1 : Nat) : Int) := by push_cast; rfl
  have v1 : hh a b k (l + 1) (k + 1) (l + 1) = (LL a b (k + 1) (l + 1) : Int) := by unfold hh; rw [if_pos (.inl (Nat.lt_succ_self _))]
  have v2 : hh a b k (l + 1) (k + 1) l = (LL a b (k + 1) l : Int) := by unfold hh; rw [if_pos (.inl (Nat.lt_succ_self _))]
  have v3 : hh a b k (l + 1) k (l + 1) = (LL a b k (l + 1) : Int) := by unfold hh; rw [if_pos (.inr ⟨rfl, Nat.le_refl _⟩)]
  have setv : ∀ v : Int, v = (LL a b k l : Int) → D.list (((List.range (a.length + 1)).map fun p => eR b.length (hh a b k (l + 1) p)).set k (.list (((List.range (b.length + 1)).map fun q => D.int (hh a b k (l + 1) k q)).set l (.int v)))) = eT a.length b.length (hh a b k l) := by
    intro v hv
    rw [eT_set, hv, hh_set]
  refine Run.one ?_
  by_cases hx : a[k] = b[l]
  · refine .iteT (by simp [tst, ev, cmpD, Rho.get, idx_S hk, idx_S hl, eqT, hx]) (Run.one ?_)
    have := Run.set2 (Φ := F0) (mu := 2) (i := .var 3) (j := .var 4) (e := .bin .add (.idx (.idx (.var 2) (.bin .add (.var 3) (.int 1))) (.bin .add (.var 4) (.int 1))) (.int 1))
      (ρ := [some (eS a), some (eS b), some (eT a.length b.length (hh a b k (l + 1))), some (.int k), some (.int l), o5])
      (k := k) (n := l) (d := .int (LL a b (k + 1) (l + 1) + 1)) (l := (List.range (a.length + 1)).map fun p => eR b.length (hh a b k (l + 1) p)) (r := (List.range (b.length + 1)).map fun q => D.int (hh a b k (l + 1) k q))
      rfl rfl (by lia) (by simp [show k < a.length + 1 by lia, eR]) rfl (by lia) (by simp; lia)
      (by simp only [ev, Rho.get]; simp only [List.getElem?_cons_succ, List.getElem?_cons_zero, Option.join_some, binD, c1, c2, idx_T (show k + 1 ≤ a.length by lia), idx_R (show l + 1 ≤ b.length by lia), v1]) rfl
    rw [Int.toNat_natCast, Int.toNat_natCast, setv _ (by rw [LL_eq hk hl hx]; push_cast; rfl)] at this
    exact this
  · refine .iteF (by simp [tst, ev, cmpD, Rho.get, idx_S hk, idx_S hl, eqT, hx]) (Run.one ?_)
    have := Run.set2 (Φ := F0) (mu := 2) (i := .var 3) (j := .var 4) (e := .max (.idx (.idx (.var 2) (.bin .add (.var 3) (.int 1))) (.var 4)) (.idx (.idx (.var 2) (.var 3)) (.bin .add (.var 4) (.int 1))))
      (ρ := [some (eS a), some (eS b), some (eT a.length b.length (hh a b k (l + 1))), some (.int k), some (.int l), o5])
      (k := k) (n := l) (d := .int (if (LL a b (k + 1) l : Int) < (LL a b k (l + 1) : Int) then (LL a b k (l + 1) : Int) else (LL a b (k + 1) l : Int))) (l := (List.range (a.length + 1)).map fun p => eR b.length (hh a b k (l + 1) p)) (r := (List.range (b.length + 1)).map fun q => D.int (hh a b k (l + 1) k q))
      rfl rfl (by lia) (by simp [show k < a.length + 1 by lia, eR]) rfl (by lia) (by simp; lia)
      (by simp only [ev, Rho.get]; simp only [List.getElem?_cons_succ, List.getElem?_cons_zero, Option.join_some, binD, c1, c2, idx_T (show k + 1 ≤ a.length by lia), idx_T (show k ≤ a.length by lia), idx_R (show l + 1 ≤ b.length by lia), idx_R (show l ≤ b.length by lia), v2, v3, maxD]) rfl
    rw [Int.toNat_natCast, Int.toNat_natCast, setv _ (by rw [LL_ne hk hl hx, show Nat.max (LL a b (k + 1) l) (LL a b k (l + 1)) = max (LL a b (k + 1) l) (LL a b k (l + 1)) from rfl]; split <;> lia)] at this
    exact this

noncomputable def bodyI : List S := [.for_ 4 (.range3 (.bin .sub (.len (.var 1)) (.int 1)) (.neg (.int 1)) (.neg (.int 1))) bodyJ]

theorem run_row {k : Nat} (hk : k < a.length) (o5 : Option D) : ∀ (l : Nat) (o4 : Option D), l ≤ b.length →
    ∃ o4', Run F0 2 (.loop 4 ((down l).map .int) bodyJ) [some (eS a), some (eS b), some (eT a.length b.length (hh a b k l)), some (.int k), o4, o5]
      (.next [some (eS a), some (eS b), some (eT a.length b.length (hh a b k 0)), some (.int k), o4', o5]) := by
  intro l
  induction l with
  | zero => intro o4 _; exact ⟨o4, .loopNil⟩
  | succ l ih =>
    intro o4 hl
    obtain ⟨o4', h⟩ := ih (some (.int l)) (by lia)
    refine ⟨o4', ?_⟩
    rw [down_succ, List.map_cons]
    exact .loopCons (run_cell a b hk hl o5) h

theorem run_rows (hb : b.length ≤ 900) (o5 : Option D) : ∀ (k : Nat) (o3 o4 : Option D), k ≤ a.length →
    ∃ o3' o4', Run F0 2 (.loop 3 ((down k).map .int) bodyI) [some (eS a), some (eS b), some (eT a.length b.length (hh a b k 0)), o3, o4, o5]
      (.next [some (eS a), some (eS b), some (eT a.length b.length (hh a b 0 0)), o3', o4', o5]) := by
  intro k
  induction k with
  | zero => intro o3 o4 _; exact ⟨o3, o4, .loopNil⟩
  | succ k ih =>
    intro o3 o4 hk
    obtain ⟨o4', h1⟩ := run_row a b hk o5 b.length o4 (Nat.le_refl _)
    obtain ⟨o3', o4'', h2⟩ := ih (some (.int k)) o4' (by lia)
    refine ⟨o3', o4'', ?_⟩
    rw [down_succ, List.map_cons]
    refine .loopCons (ρ' := [some (eS a), some (eS b), some (eT a.length b.length (hh a b k 0)), some (.int k), o4', o5]) (Run.one ?_) h2
    rw [← hh_top]
    refine .for_ (d := .rng (down b.length)) (by decide) ?_ (by decide) rfl h1
    rw [← rngL_down]
    simp only [ev, Rho.get, Rho.put, List.set, List.getElem?_cons_succ, List.getElem?_cons_zero, Option.join_some, lenD, eS, List.length_map, binD]
    exact rangeD_of ⟨by lia, by lia⟩ (by decide) (by decide) (by decide)

theorem run_table (ha : a.length ≤ 900) (hb : b.length ≤ 900) : Run F0 2 (.seq p_lcs_table) [some (eS a), some (eS b), none, none, none, none] (.ret (tabD a b)) := by
  obtain ⟨o3, o4, h⟩ := run_rows a b hb none a.length none none (Nat.le_refl _)
  unfold p_lcs_table
  have e0 : (D.list (List.replicate (((a.length : Int) + 1).toNat) (.list (List.replicate (((b.length : Int) + 1).toNat) (.int 0))))) = eT a.length b.length (hh a b a.length 0) := by
    have c1 : ((a.length : Int) + 1).toNat = a.length + 1 := by lia
    have c2 : ((b.length : Int) + 1).toNat = b.length + 1 := by lia
    rw [c1, c2, rep_map _ (a.length + 1), rep_map _ (b.length + 1)]
    unfold eT eR
    congr 1
    apply List.map_congr_left
    intro p hp
    congr 1
    apply List.map_congr_left
    intro q hq
    unfold hh
    split
    · rw [LL_out (by lia)]; rfl
    · rfl
  refine Run.then (ρ' := [some (eS a), some (eS b), some (eT a.length b.length (hh a b a.length 0)), none, none, none]) ?_ ?_
  · rw [← e0]
    refine Run.mkTab (Φ := F0) (mu := 2) (by simp) rfl (by decide) (by decide) (by decide) (by decide) (k := (b.length : Int) + 1) ?_ (by lia) (by lia) (n := (a.length : Int) + 1) ?_ (by lia) (by lia)
    · simp [ev, Rho.get, lenD, eS, binD]
    · simp [ev, Rho.get, lenD, eS, binD]
  · refine Run.then (ρ' := [some (eS a), some (eS b), some (eT a.length b.length (hh a b 0 0)), o3, o4, none]) ?_ (Run.one (.ret ?_))
    · refine .for_ (d := .rng (down a.length)) (by decide) ?_ (by decide) rfl h
      rw [← rngL_down]
      simp only [ev, Rho.get, List.getElem?_cons_succ, List.getElem?_cons_zero, Option.join_some, lenD, eS, List.length_map, binD]
      exact rangeD_of ⟨by lia, by lia⟩ (by decide) (by decide) (by decide)
    · have : hh a b 0 0 = fun p q => (LL a b p q : Int) := by
        funext p q; unfold hh; rw [if_pos (by lia)]
      rw [this]
      rfl
end
end Mine
namespace Mine

theorem strLt_eq : ∀ x y, strLt x y = sLt x y
  | [], [] => rfl
  | [], _ :: _ => rfl
  | _ :: _, [] => rfl
  | x :: xs, y :: ys => by simp only [strLt, sLt, strLt_eq xs ys]

/-! decoding -/
noncomputable def oAll {β : Type} (f : D → Option β) : List D → Option (List β)
  | [] => some []
  | x :: xs => match f x, oAll f xs with
    | some y, some ys => some (y :: ys)
    | _, _ => none
theorem oAll_map {β : Type} (f : D → Option β) (g : β → D) (h : ∀ y, f (g y) = some y) (l : List β) : oAll f (l.map g) = some l := by
  induction l with
  | nil => rfl
  | cons y l ih => simp [oAll, h, ih]
theorem oAll_inv {β : Type} (f : D → Option β) (g : β → D) (h : ∀ d y, f d = some y → d = g y) : ∀ (l : List D) (ys : List β), oAll f l = some ys → l = ys.map g := by
  intro l
  induction l with
  | nil => intro ys e; simp [oAll] at e; subst e; rfl
  | cons x l ih =>
    intro ys e
    simp only [oAll] at e
    split at e
    · rename_i y ys' h1 h2
      cases e
      rw [h x y h1, ih _ h2]; rfl
    · cases e
noncomputable def dStr : D → Option Ln
  | .str s => some s
  | _ => none
noncomputable def dInt : D → Option Int
  | .int s => some s
  | _ => none
noncomputable def dNat : D → Option Nat
  | .int s => if 0 ≤ s then some s.toNat else none
  | _ => none
noncomputable def dS : D → Option (List Ln)
  | .list l => oAll dStr l
  | _ => none
noncomputable def dI : D → Option (List Int)
  | .list l => oAll dInt l
  | _ => none
noncomputable def dP : D → Option (Nat × Nat)
  | .tup [a, b] => (match dNat a, dNat b with
    | some a, some b => some (a, b)
    | _, _ => none)
  | _ => none
noncomputable def dW : D → Option (List (Nat × Nat))
  | .list l => oAll dP l
  | _ => none
theorem dStr_inv (d : D) (y : Ln) (h : dStr d = some y) : d = .str y := by
  cases d <;> simp [dStr] at h; subst h; rfl
theorem dInt_inv (d : D) (y : Int) (h : dInt d = some y) : d = .int y := by
  cases d <;> simp [dInt] at h; subst h; rfl
theorem dNat_inv (d : D) (y : Nat) (h : dNat d = some y) : d = .int y := by
  cases d <;> simp [dNat] at h
  obtain ⟨h1, h2⟩ := h
  rw [← h2, Int.toNat_of_nonneg h1]
theorem dNat_nat (n : Nat) : dNat (.int n) = some n := by simp [dNat]
theorem dS_eS (a : List Ln) : dS (eS a) = some a := by unfold dS eS; exact oAll_map dStr .str (fun _ => rfl) a
theorem dI_eI (a : List Int) : dI (eI a) = some a := by unfold dI eI; exact oAll_map dInt .int (fun _ => rfl) a
theorem dP_eP (p : Nat × Nat) : dP (eP p) = some p := by
  unfold dP eP; simp [dNat_nat]
theorem dW_eW (w : List (Nat × Nat)) : dW (eW w) = some w := by unfold dW eW; exact oAll_map _ _ dP_eP w
theorem dS_inv {d : D} {a : List Ln} (h : dS d = some a) : d = eS a := by
  unfold dS at h
  split at h
  · unfold eS; rw [oAll_inv _ _ dStr_inv _ _ h]
  · cases h
theorem dI_inv {d : D} {a : List Int} (h : dI d = some a) : d = eI a := by
  unfold dI at h
  split at h
  · unfold eI; rw [oAll_inv _ _ dInt_inv _ _ h]
  · cases h
theorem dP_inv (d : D) (p : Nat × Nat) (h : dP d = some p) : d = eP p := by
  unfold dP at h
  split at h
  · split at h
    · rename_i h1 h2
      cases h
      rw [dNat_inv _ _ h1, dNat_inv _ _ h2]; rfl
    · cases h
  · cases h
theorem dW_inv {d : D} {w : List (Nat × Nat)} (h : dW d = some w) : d = eW w := by
  unfold dW at h
  split at h
  · unfold eW; rw [oAll_inv _ _ dP_inv _ _ h]
  · cases h

/-- a def of two texts of at most five lines -/
noncomputable def text2 (g : List Ln → List Ln → D) : List D → Option D
  | [a, b] => match dS a, dS b with
    | some a, some b => if a.length ≤ 5 ∧ b.length ≤ 5 then some (g a b) else none
    | _, _ => none
  | _ => none
theorem text2_of (g : List Ln → List Ln → D) {a b : List Ln} (ha : a.length ≤ 5) (hb : b.length ≤ 5) : text2 g [eS a, eS b] = some (g a b) := by
  simp [text2, dS_eS, ha, hb]
theorem text2_inv {g : List Ln → List Ln → D} {ds : List D} {d : D} (h : text2 g ds = some d) : ∃ a b, ds = [eS a, eS b] ∧ a.length ≤ 5 ∧ b.length ≤ 5 ∧ d = g a b := by
  unfold text2 at h
  split at h
  · split at h
    · rename_i h1 h2
      split at h
      · rename_i h3
        cases h
        exact ⟨_, _, by rw [dS_inv h1, dS_inv h2], h3.1, h3.2, rfl⟩
      · cases h
    · cases h
  · cases h

noncomputable def lcsD (a b : List Ln) : D := eS ((GM a b 0 0).map fun p => a.getD p.1 [])
noncomputable def subD (s a : List Ln) : D := .bool (decide (a.foldl (foundStep s) 0 = s.length))
noncomputable def rise (n m : Nat) : Nat → Nat → List (Nat × Nat) → Bool
  | i, j, [] => decide (i ≤ n) && decide (j ≤ m)
  | i, j, (p, q) :: w => decide (i ≤ p) && decide (j ≤ q) && rise n m (p + 1) (q + 1) w
noncomputable def fPath : List D → Option D
  | [w, n, m] => match dW w, dNat n, dNat m with
    | some w, some n, some m => if n ≤ 5 ∧ m ≤ 5 ∧ rise n m 0 0 w = true then some (.str (pth n m 0 0 w)) else none
    | _, _, _ => none
  | _ => none
noncomputable def ln (r : Int) : Ln := if r = 0 then [] else if r = 1 then [112] else [112, 113]
noncomputable def textStep (size : Nat) (acc : List Ln) (x : Int) : List Ln := if acc.length < size then acc ++ [ln (x % 3)] else acc
noncomputable def textOf (cells : List Int) (size : Nat) : List Ln := cells.foldl (textStep size) []
noncomputable def fText : List D → Option D
  | [c, n] => match dI c, dNat n with
    | some c, some n => if c.length ≤ 5 ∧ n ≤ 5 then some (eS (textOf c n)) else none
    | _, _ => none
  | _ => none
noncomputable def eSs (ws : List (List Ln)) : D := .list (ws.map eS)
noncomputable def fWords : List D → Option D
  | [a] => match dS a with
    | some a => if a.length ≤ 5 then some (eSs (wordsOf a)) else none
    | none => none
  | _ => none
noncomputable def fNumber : List D → Option D
  | [.int a, .int b] => some (.bool (decide (a = b)))
  | _ => none

noncomputable def F1 : Phi := fun f ds =>
  if f = "lcs_table" then text2 tabD ds
  else if f = "is_subsequence" then text2 subD ds
  else if f = "myers_distance" then text2 (fun a b => .int (dist a b)) ds
  else if f = "_law_text" then fText ds
  else if f = "_law_matchings" then text2 (fun a b => eWs (waysOf a b)) ds
  else if f = "_law_path" then fPath ds
  else if f = "_law_words" then fWords ds
  else if f = "_law_number" then fNumber ds
  else none
noncomputable def F2 : Phi := fun f ds =>
  if f = "lcs_length" then text2 (fun a b => .int (L a b)) ds
  else if f = "matches_of" then text2 (fun a b => eW (GM a b 0 0)) ds
  else if f = "_law_best" then text2 (fun a b => eW (bestOf a b)) ds
  else F1 f ds
noncomputable def F3 : Phi := fun f ds =>
  if f = "lcs_of" then text2 lcsD ds else F2 f ds

/-! lcs_length -/
theorem run_length (a b : List Ln) (ha : a.length ≤ 5) (hb : b.length ≤ 5) : Run F1 99 (.seq p_lcs_length) [some (eS a), some (eS b)] (.ret (.int (L a b))) := by
  refine Run.one (.ret ?_)
  have h1 : F1 "lcs_table" [eS a, eS b] = some (tabD a b) := by simp [F1, text2_of _ ha hb]
  have h2 := idx_T (n := a.length) (m := b.length) (p := 0) (f := fun p q => (LL a b p q : Int)) (Nat.zero_le _)
  have h3 := idx_R (m := b.length) (q := 0) (f := fun q => (LL a b 0 q : Int)) (Nat.zero_le _)
  simp only [Int.natCast_zero] at h2 h3
  simp only [ev, evs, Rho.get, List.getElem?_cons_succ, List.getElem?_cons_zero, Option.join_some, Option.map, h1]
  unfold tabD
  rw [h2]
  dsimp only
  rw [h3]
  rfl

/-! matches_of -/
section
variable (a b : List Ln)
noncomputable def tW : T := (.and (.cons (.e (.cmp .lt (.var 4) (.len (.var 0)))) (.cons (.e (.cmp .lt (.var 5) (.len (.var 1)))) .nil)))
noncomputable def bW : List S := [.ite (.e (.cmp .eq (.idx (.var 0) (.var 4)) (.idx (.var 1) (.var 5)))) [.append 3 (.tup (.cons (.var 4) (.cons (.var 5) .nil))),
    .aug 4 (.int 1),
    .aug 5 (.int 1)] [.ite (.e (.cmp .ge (.idx (.idx (.var 2) (.bin .add (.var 4) (.int 1))) (.var 5)) (.idx (.idx (.var 2) (.var 4)) (.bin .add (.var 5) (.int 1))))) [.aug 4 (.int 1)] [.aug 5 (.int 1)]]]
theorem eW_snoc (acc : List (Nat × Nat)) (p : Nat × Nat) : D.list (acc.map eP ++ [eP p]) = eW (acc ++ [p]) := by simp [eW]
theorem run_while (ha : a.length ≤ 5) : ∀ (k i j : Nat) (acc : List (Nat × Nat)), (a.length - i) + (b.length - j) ≤ k → i ≤ a.length → acc.length ≤ i →
    ∃ i' j' : Nat, Run F1 3 (.stmt (.while_ tW bW)) [some (eS a), some (eS b), some (tabD a b), some (eW acc), some (.int i), some (.int j)]
      (.next [some (eS a), some (eS b), some (tabD a b), some (eW (acc ++ GM a b i j)), some (.int i'), some (.int j')]) := by
  intro k
  induction k with
  | zero =>
    intro i j acc hk hia hacc
    rw [GM_out (by lia), List.append_nil]
    refine ⟨i, j, .whileF ?_⟩
    by_cases hi : i < a.length
    · simp [tW, tst, tand, ev, Rho.get, cmpD, ltD, ltFlat, lenD, eS, hi]; lia
    · simp [tW, tst, tand, ev, Rho.get, cmpD, ltD, ltFlat, lenD, eS, hi]
  | succ k ih =>
    intro i j acc hk hia hacc
    by_cases hi0 : a.length ≤ i
    · rw [GM_out (by lia), List.append_nil]
      have hi : ¬ i < a.length := by lia
      refine ⟨i, j, .whileF ?_⟩
      simp [tW, tst, tand, ev, Rho.get, cmpD, ltD, ltFlat, lenD, eS, hi]
    have hi : i < a.length := by lia
    by_cases hj0 : b.length ≤ j
    · rw [GM_out (by lia), List.append_nil]
      have hj : ¬ j < b.length := by lia
      refine ⟨i, j, .whileF ?_⟩
      simp [tW, tst, tand, ev, Rho.get, cmpD, ltD, ltFlat, lenD, eS, hi, hj]
    have hj : j < b.length := by lia
    have ht : ∀ o3, tst F1 tW [some (eS a), some (eS b), some (tabD a b), o3, some (.int i), some (.int j)] = some true := by
      intro o3
      simp [tW, tst, tand, ev, Rho.get, cmpD, ltD, ltFlat, lenD, eS, hi, hj]
    have c1 : ((i : Int) + 1) = ((i + 1 : Nat) : Int) := by push_cast; rfl
    have c2 : ((j : Int) + 1) = ((j + 1 : Nat) : Int) := by push_cast; rfl
    by_cases hx : a[i] = b[j]
    · obtain ⟨i', j', h⟩ := ih (i + 1) (j + 1) (acc ++ [(i, j)]) (by lia) (by lia) (by simp; lia)
      rw [GM_eq hi hj hx]
      refine ⟨i', j', .whileT (ht _) (ρ' := [some (eS a), some (eS b), some (tabD a b), some (eW (acc ++ [(i, j)])), some (.int (i + 1 : Nat)), some (.int (j + 1 : Nat))]) (Run.one (.iteT ?_ ?_)) ?_⟩
      · simp [tst, ev, Rho.get, cmpD, idx_S hi, idx_S hj, eqT, hx]
      · refine Run.then (ρ' := [some (eS a), some (eS b), some (tabD a b), some (eW (acc ++ [(i, j)])), some (.int i), some (.int j)]) ?_ ?_
        · rw [← eW_snoc]
          refine Run.append (mu := 3) (l := acc.map eP) (d := eP (i, j)) rfl ?_ rfl (by simp only [cap, List.length_map]; lia)
          simp [ev, evs, Rho.get, eP]
        · refine Run.then (ρ' := [some (eS a), some (eS b), some (tabD a b), some (eW (acc ++ [(i, j)])), some (.int (i + 1 : Nat)), some (.int j)]) ?_ ?_
          · rw [← c1]; exact Run.aug (by decide) rfl rfl
          · rw [← c2]; exact Run.one (Run.aug (by decide) rfl rfl)
      · have e : acc ++ (i, j) :: GM a b (i + 1) (j + 1) = acc ++ [(i, j)] ++ GM a b (i + 1) (j + 1) := by simp
        rw [e]
        exact h
    · rw [GM_ne hi hj hx]
      have v1 : ∀ o3, ev F1 (.idx (.idx (.var 2) (.bin .add (.var 4) (.int 1))) (.var 5)) [some (eS a), some (eS b), some (tabD a b), o3, some (.int i), some (.int j)] = some (.int (LL a b (i + 1) j)) := by
        intro o3
        simp only [ev, Rho.get, List.getElem?_cons_succ, List.getElem?_cons_zero, Option.join_some, binD, c1]
        unfold tabD
        rw [idx_T (by lia)]
        dsimp only
        rw [idx_R (by lia)]
      have v2 : ∀ o3, ev F1 (.idx (.idx (.var 2) (.var 4)) (.bin .add (.var 5) (.int 1))) [some (eS a), some (eS b), some (tabD a b), o3, some (.int i), some (.int j)] = some (.int (LL a b i (j + 1))) := by
        intro o3
        simp only [ev, Rho.get, List.getElem?_cons_succ, List.getElem?_cons_zero, Option.join_some, binD, c2]
        unfold tabD
        rw [idx_T (by lia)]
        dsimp only
        rw [idx_R (by lia)]
      have hf : ∀ o3, tst F1 (.e (.cmp .eq (.idx (.var 0) (.var 4)) (.idx (.var 1) (.var 5)))) [some (eS a), some (eS b), some (tabD a b), o3, some (.int i), some (.int j)] = some false := by
        intro o3; simp [tst, ev, Rho.get, cmpD, idx_S hi, idx_S hj, eqT, hx]
      by_cases hle : LL a b i (j + 1) ≤ LL a b (i + 1) j
      · rw [if_pos hle]
        obtain ⟨i', j', h⟩ := ih (i + 1) j acc (by lia) (by lia) (by lia)
        refine ⟨i', j', .whileT (ht _) (Run.one (.iteF (hf _) (Run.one (.iteT ?_ (Run.one (Run.aug (by decide) rfl rfl)))))) h⟩
        simp only [tst]
        rw [ev, v1, v2]
        simp only [cmpD, Option.map]
        simp; lia
      · rw [if_neg hle]
        obtain ⟨i', j', h⟩ := ih i (j + 1) acc (by lia) (by lia) (by lia)
        refine ⟨i', j', .whileT (ht _) (Run.one (.iteF (hf _) (Run.one (.iteF ?_ (Run.one (Run.aug (by decide) rfl rfl)))))) h⟩
        simp only [tst]
        rw [ev, v1, v2]
        simp only [cmpD, Option.map]
        simp; lia

theorem run_matches (ha : a.length ≤ 5) (hb : b.length ≤ 5) : Run F1 3 (.seq p_matches_of) [some (eS a), some (eS b), none, none, none, none] (.ret (eW (GM a b 0 0))) := by
  have h1 : F1 "lcs_table" [eS a, eS b] = some (tabD a b) := by simp [F1, text2_of _ ha hb]
  obtain ⟨i', j', h⟩ := run_while a b ha _ 0 0 [] (Nat.le_refl _) (Nat.zero_le _) (Nat.zero_le _)
  unfold p_matches_of
  refine Run.then (Run.assign (d := tabD a b) (by decide) ?_ rfl) ?_
  · simp [ev, evs, Rho.get, h1]
  refine Run.then (Run.mkNil (by simp [Rho.put]) rfl) ?_
  refine Run.then (Run.assign (d := .int 0) (by decide) rfl (by decide)) ?_
  refine Run.then (Run.assign (d := .int 0) (by decide) rfl (by decide)) ?_
  exact Run.then h (Run.one (.ret rfl))
end

/-! lcs_of -/
theorem run_lcs_of (a b : List Ln) (ha : a.length ≤ 5) (hb : b.length ≤ 5) : Run F2 99 (.seq p_lcs_of) [some (eS a), some (eS b), none] (.ret (lcsD a b)) := by
  have h1 : F2 "matches_of" [eS a, eS b] = some (eW (GM a b 0 0)) := by simp [F2, text2_of _ ha hb]
  obtain ⟨gv, _⟩ := GM_val (a := a) (b := b) _ 0 0 (Nat.le_refl _)
  have key : ∀ (w : List (Nat × Nat)) (i j : Nat), Val a b i j w → omap (fun y => ev F2 (.idx (.var 0) (.idx (.var 2) (.int 0))) (Rho.put [some (eS a), some (eS b), none] 2 y)) (w.map eP) = some (w.map fun p => .str (a.getD p.1 [])) := by
    intro w
    induction w with
    | nil => intro _ _ _; rfl
    | cons p w ih =>
      obtain ⟨p, q⟩ := p
      rintro i j ⟨_, _, ⟨hp, hq, e⟩, hw⟩
      simp only [List.map_cons, omap]
      rw [ih _ _ hw]
      have : ev F2 (.idx (.var 0) (.idx (.var 2) (.int 0))) (Rho.put [some (eS a), some (eS b), none] 2 (eP (p, q))) = some (.str (a.getD p [])) := by
        simp only [ev, Rho.get, Rho.put, List.set, List.getElem?_cons_succ, List.getElem?_cons_zero, Option.join_some, eP, idxD, getL]
        simp [eS, hp]
      rw [this]
      rfl
  refine Run.one (.ret ?_)
  have h2 : ev F2 (.call "matches_of" (.cons (.var 0) (.cons (.var 1) .nil))) [some (eS a), some (eS b), none] = some (eW (GM a b 0 0)) := by
    simp [ev, evs, Rho.get, h1]
  rw [ev, h2]
  simp only [items, eW]
  rw [key _ 0 0 gv]
  simp [lcsD, eS]

/-! is_subsequence -/
section
variable (s : List Ln)
noncomputable def bSub : List S := [.ite (.and (.cons (.e (.cmp .lt (.var 2) (.len (.var 0)))) (.cons (.e (.cmp .eq (.idx (.var 0) (.var 2)) (.var 3))) .nil))) [.aug 2 (.int 1)] []]
theorem run_subloop (x : Option D) : ∀ (l : List Ln) (f : Nat) (o : Option D), ∃ o', Run F0 99 (.loop 3 (l.map .str) bSub) [some (eS s), x, some (.int f), o] (.next [some (eS s), x, some (.int (l.foldl (foundStep s) f : Nat)), o']) := by
  intro l
  induction l with
  | nil => intro f o; exact ⟨o, .loopNil⟩
  | cons c l ih =>
    intro f o
    obtain ⟨o', h⟩ := ih (foundStep s f c) (some (.str c))
    refine ⟨o', .loopCons (ρ' := [some (eS s), x, some (.int (foundStep s f c : Nat)), some (.str c)]) (Run.one ?_) h⟩
    unfold foundStep
    by_cases hf : f < s.length
    · rw [List.getElem?_eq_getElem hf]
      by_cases he : s[f] = c
      · rw [if_pos (by rw [he])]
        refine .iteT ?_ (Run.one (Run.aug (x := 2) (mu := 99) (i := f) (j := 1) (by decide) rfl rfl))
        simp only [tst, tand, ev, Rho.get, Rho.put, List.set, List.getElem?_cons_succ, List.getElem?_cons_zero, Option.join_some, idx_S hf, cmpD, ltD, ltFlat, eqT]
        simp [lenD, eS, hf, he]
      · rw [if_neg (by simpa using he)]
        refine .iteF ?_ .nil
        simp only [tst, tand, ev, Rho.get, Rho.put, List.set, List.getElem?_cons_succ, List.getElem?_cons_zero, Option.join_some, idx_S hf, cmpD, ltD, ltFlat, eqT]
        have hb : (s[f] == c) = false := beq_eq_false_iff_ne.mpr he
        simp [lenD, eS, hf, hb]
    · rw [if_neg (by simp [hf])]
      refine .iteF ?_ .nil
      simp only [tst, tand, ev, Rho.get, Rho.put, List.set, List.getElem?_cons_succ, List.getElem?_cons_zero, Option.join_some, cmpD, ltD, ltFlat, eqT]
      simp [lenD, eS, hf]
theorem run_sub (a : List Ln) : Run F0 99 (.seq p_is_subsequence) [some (eS s), some (eS a), none, none] (.ret (subD s a)) := by
  obtain ⟨o', h⟩ := run_subloop s (some (eS a)) a 0 none
  refine Run.then (Run.assign (d := .int 0) (by decide) rfl (by decide)) ?_
  refine Run.then (.for_ (d := eS a) (by decide) rfl (by decide) rfl h) ?_
  refine Run.one (.ret ?_)
  simp only [ev, Rho.get, List.getElem?_cons_succ, List.getElem?_cons_zero, Option.join_some, lenD, eS, cmpD, eqT, List.length_map, Option.map, subD]
  congr 2
  rw [Bool.eq_iff_iff]; simp; lia
end

/-! _law_text -/
section
variable (cells : List Int) (size : Nat)
noncomputable def bText : List S := [.ite (.e (.cmp .lt (.len (.var 2)) (.var 1))) [.append 2 (.idx .lines (.bin .mod (.var 3) (.int 3)))] []]
theorem ev_line (x : Int) (ρ : Rho) (h : ρ.get 3 = some (.int x)) : ev F0 (.idx .lines (.bin .mod (.var 3) (.int 3))) ρ = some (.str (ln (x % 3))) := by
  simp only [ev, h, binD, linesD, idxD]
  have h1 : 0 ≤ x % 3 := Int.emod_nonneg _ (by decide)
  have h2 : x % 3 < 3 := Int.emod_lt_of_pos _ (by decide)
  have : x % 3 = 0 ∨ x % 3 = 1 ∨ x % 3 = 2 := by lia
  rcases this with e | e | e <;> simp [e, getL, ln]
theorem run_textloop (x : Option D) : ∀ (l : List Int) (acc : List Ln) (o : Option D), acc.length + l.length ≤ 1000 → ∃ o', Run F0 2 (.loop 3 (l.map .int) bText) [x, some (.int size), some (eS acc), o] (.next [x, some (.int size), some (eS (l.foldl (textStep size) acc)), o']) := by
  intro l
  induction l with
  | nil => intro acc o _; exact ⟨o, .loopNil⟩
  | cons c l ih =>
    intro acc o hl
    simp only [List.length_cons] at hl
    obtain ⟨o', h⟩ := ih (textStep size acc c) (some (.int c)) (by unfold textStep; split <;> (try simp only [List.length_append, List.length_cons, List.length_nil]) <;> lia)
    refine ⟨o', .loopCons (ρ' := [x, some (.int size), some (eS (textStep size acc c)), some (.int c)]) (Run.one ?_) h⟩
    unfold textStep
    by_cases hs : acc.length < size
    · rw [if_pos hs]
      refine .iteT ?_ (Run.one ?_)
      · simp [tst, ev, Rho.get, Rho.put, cmpD, ltD, ltFlat, lenD, eS, hs]
      · rw [show eS (acc ++ [ln (c % 3)]) = D.list (acc.map .str ++ [.str (ln (c % 3))]) by simp [eS]]
        exact Run.append (mu := 2) (l := acc.map .str) rfl (ev_line c _ rfl) rfl (by simp only [cap, List.length_map]; lia)
    · rw [if_neg hs]
      refine .iteF ?_ .nil
      simp [tst, ev, Rho.get, Rho.put, cmpD, ltD, ltFlat, lenD, eS, hs]
theorem run_text (hc : cells.length ≤ 900) : Run F0 2 (.seq p_law_text) [some (eI cells), some (.int size), none, none] (.ret (eS (textOf cells size))) := by
  obtain ⟨o', h⟩ := run_textloop size (some (eI cells)) cells [] none (by simp; lia)
  refine Run.then (Run.mkNil (by simp) rfl) ?_
  refine Run.then (.for_ (d := eI cells) (by decide) rfl (by decide) rfl h) ?_
  exact Run.one (.ret rfl)
end

/-! _law_number -/
theorem run_number (x y : Int) : Run F0 99 (.seq p_law_number) [some (.int x), some (.int y)] (.ret (.bool (decide (x = y)))) := by
  refine Run.then (ρ' := [some (.int x), some (.int y)]) (.iteF rfl .nil) ?_
  by_cases h : x = y
  · refine Run.then (ρ' := [some (.int x), some (.int y)]) (.iteF ?_ .nil) ?_
    · simp [tst, ev, Rho.get, cmpD, eqT, h]
    · refine Run.one (.ret ?_)
      simp [ev, h]
  · refine Run.stop (.iteT ?_ (Run.one (.ret ?_)))
    · simp [tst, ev, Rho.get, cmpD, eqT, h]
    · simp [ev, h]
end Mine
namespace Mine

theorem L_le (a b : List Ln) : L a b ≤ a.length := by rw [← dp_L]; exact (dp_le _ _ _).1

/-! _law_path -/
noncomputable def pthAll : Nat → Nat → List (Nat × Nat) → List Nat
  | _, _, [] => []
  | i, j, (p, q) :: w => List.replicate (p - i) 49 ++ (List.replicate (q - j) 50 ++ 48 :: pthAll (p + 1) (q + 1) w)
theorem pthAll_eq (n m : Nat) : ∀ (w : List (Nat × Nat)) (i j : Nat), pthAll i j (w ++ [(n, m)]) = pth n m i j w
  | [], i, j => by simp [pthAll, pth]
  | (p, q) :: w, i, j => by simp only [List.cons_append, pthAll, pth, pthAll_eq n m w]
noncomputable def riseAll : Nat → Nat → List (Nat × Nat) → Prop
  | _, _, [] => True
  | i, j, (p, q) :: w => i ≤ p ∧ j ≤ q ∧ p ≤ 5 ∧ q ≤ 5 ∧ riseAll (p + 1) (q + 1) w
theorem rise_le {n m : Nat} : ∀ {w : List (Nat × Nat)} {i j : Nat}, rise n m i j w = true → i ≤ n ∧ j ≤ m
  | [], i, j, h => by simpa [rise] using h
  | (p, q) :: w, i, j, h => by
    simp only [rise, Bool.and_eq_true, decide_eq_true_eq] at h
    have := rise_le h.2
    lia
theorem riseAll_of {n m : Nat} (hn : n ≤ 5) (hm : m ≤ 5) : ∀ (w : List (Nat × Nat)) (i j : Nat), rise n m i j w = true → riseAll i j (w ++ [(n, m)])
  | [], i, j, h => by
    have := rise_le h
    exact ⟨this.1, this.2, hn, hm, trivial⟩
  | (p, q) :: w, i, j, h => by
    simp only [rise, Bool.and_eq_true, decide_eq_true_eq] at h
    have := rise_le h.2
    exact ⟨h.1.1, h.1.2, by lia, by lia, riseAll_of hn hm w _ _ h.2⟩
theorem rise_len {n m : Nat} : ∀ {w : List (Nat × Nat)} {i j : Nat}, rise n m i j w = true → w.length + i ≤ n
  | [], i, j, h => by have := rise_le h; simp; lia
  | (p, q) :: w, i, j, h => by
    simp only [rise, Bool.and_eq_true, decide_eq_true_eq] at h
    have := rise_len h.2
    simp only [List.length_cons]; lia

theorem flat_rep (c k : Nat) : (List.replicate k [c]).flatten = List.replicate k c := by
  induction k with
  | zero => rfl
  | succ k ih => rw [List.replicate_succ, List.flatten_cons, ih]; rfl
theorem mul_str {c : Nat} {x y : Int} {p i : Nat} (hx : x = p) (hy : y = i) (h : i ≤ p) (hp : p ≤ 5) : binD .mul (.str [c]) (.int (x - y)) = some (.str (List.replicate (p - i) c)) := by
  subst hx hy
  have e : ((p : Int) - i).toNat = p - i := by lia
  simp only [binD]
  rw [if_pos ⟨by lia, by lia, by simp⟩, e, flat_rep]
theorem add_str {x y : Ln} (h : x.length + y.length ≤ 5000) : binD .add (.str x) (.str y) = some (.str (x ++ y)) := by
  simp only [binD]
  rw [if_pos (by unfold cap; lia)]

noncomputable def bPath : List S := [.assign 3 (.bin .add (.bin .add (.bin .add (.var 3) (.bin .mul (.str [49]) (.bin .sub (.idx (.var 6) (.int 0)) (.var 4)))) (.bin .mul (.str [50]) (.bin .sub (.idx (.var 6) (.int 1)) (.var 5)))) (.str [48])),
    .assign 4 (.bin .add (.idx (.var 6) (.int 0)) (.int 1)),
    .assign 5 (.bin .add (.idx (.var 6) (.int 1)) (.int 1))]
theorem idx_P0 (p q : Nat) : idxD (eP (p, q)) (.int 0) = some (.int p) := by simp [idxD, eP, getL]
theorem idx_P1 (p q : Nat) : idxD (eP (p, q)) (.int 1) = some (.int q) := by simp [idxD, eP, getL]

theorem run_pathloop (x y z : Option D) : ∀ (l : List (Nat × Nat)) (i j : Nat) (acc : Ln) (o : Option D), riseAll i j l → acc.length + 11 * l.length ≤ 1000 →
    ∃ i' j' o', Run F0 99 (.loop 6 (l.map eP) bPath) [x, y, z, some (.str acc), some (.int i), some (.int j), o] (.next [x, y, z, some (.str (acc ++ pthAll i j l)), i', j', o']) := by
  intro l
  induction l with
  | nil => intro i j acc o _ _; exact ⟨_, _, _, by simpa [pthAll] using Run.loopNil⟩
  | cons r l ih =>
    obtain ⟨p, q⟩ := r
    rintro i j acc o ⟨h1, h2, h3, h4, hr⟩ hsz
    simp only [List.length_cons] at hsz
    obtain ⟨i', j', o', h⟩ := ih (p + 1) (q + 1) (acc ++ List.replicate (p - i) 49 ++ List.replicate (q - j) 50 ++ [48]) (some (eP (p, q))) hr (by simp only [List.length_append, List.length_replicate, List.length_cons, List.length_nil]; lia)
    refine ⟨i', j', o', ?_⟩
    rw [List.map_cons]
    refine .loopCons (ρ' := [x, y, z, some (.str (acc ++ List.replicate (p - i) 49 ++ List.replicate (q - j) 50 ++ [48])), some (.int (p + 1 : Nat)), some (.int (q + 1 : Nat)), some (eP (p, q))]) ?_ ?_
    · refine Run.then (ρ' := [x, y, z, some (.str (acc ++ List.replicate (p - i) 49 ++ List.replicate (q - j) 50 ++ [48])), some (.int i), some (.int j), some (eP (p, q))]) (Run.assign (by decide) ?_ rfl) ?_
      · simp only [ev, Rho.get, Rho.put, List.set, List.getElem?_cons_succ, List.getElem?_cons_zero, Option.join_some, idx_P0, idx_P1]
        have s1 : binD .sub (.int (p : Int)) (.int i) = some (.int ((p : Int) - i)) := rfl
        have s2 : binD .sub (.int (q : Int)) (.int j) = some (.int ((q : Int) - j)) := rfl
        rw [s1, s2]
        dsimp only
        rw [mul_str rfl rfl h1 h3, mul_str rfl rfl h2 h4]
        dsimp only
        rw [add_str (by simp; lia)]
        dsimp only
        rw [add_str (by simp; lia)]
        dsimp only
        rw [add_str (by simp; lia)]
      · refine Run.then (ρ' := [x, y, z, some (.str (acc ++ List.replicate (p - i) 49 ++ List.replicate (q - j) 50 ++ [48])), some (.int (p + 1 : Nat)), some (.int j), some (eP (p, q))]) (Run.assign (by decide) ?_ rfl) (Run.one (Run.assign (d := .int (q + 1 : Nat)) (by decide) ?_ rfl))
        · simp [ev, Rho.get, idx_P0, binD]
        · simp [ev, Rho.get, idx_P1, binD]
    · have e : acc ++ pthAll i j ((p, q) :: l) = acc ++ List.replicate (p - i) 49 ++ List.replicate (q - j) 50 ++ [48] ++ pthAll (p + 1) (q + 1) l := by
        simp [pthAll]
      rw [e]
      exact h

theorem run_path (w : List (Nat × Nat)) (n m : Nat) (hn : n ≤ 5) (hm : m ≤ 5) (hw : rise n m 0 0 w = true) :
    Run F0 99 (.seq p_law_path) [some (eW w), some (.int n), some (.int m), none, none, none, none] (.ret (.str (pth n m 0 0 w))) := by
  have hl := rise_len hw
  obtain ⟨i', j', o', h⟩ := run_pathloop (some (eW w)) (some (.int n)) (some (.int m)) (w ++ [(n, m)]) 0 0 [] none (riseAll_of hn hm w 0 0 hw) (by simp; lia)
  refine Run.then (Run.assign (d := .str []) (by decide) rfl rfl) ?_
  refine Run.then (Run.assign (d := .int 0) (by decide) rfl rfl) ?_
  refine Run.then (Run.assign (d := .int 0) (by decide) rfl rfl) ?_
  refine Run.then (.for_ (d := .list ((w ++ [(n, m)]).map eP)) (by decide) ?_ rfl rfl h) (Run.one (.ret ?_))
  · simp only [ev, evs, Rho.get, Rho.put, List.set, List.getElem?_cons_succ, List.getElem?_cons_zero, Option.join_some, Option.map, eW, binD]
    rw [if_pos (by simp [cap]; lia)]
    simp [eP]
  · rw [pthAll_eq]; rfl

theorem Val.rise {a b : List Ln} : ∀ {w : List (Nat × Nat)} {i j : Nat}, Val a b i j w → i ≤ a.length → j ≤ b.length → rise a.length b.length i j w = true
  | [], i, j, _, hi, hj => by simp [Mine.rise, hi, hj]
  | (p, q) :: w, i, j, ⟨h1, h2, ⟨hp, hq, _⟩, hw⟩, _, _ => by
    simp only [Mine.rise, Bool.and_eq_true, decide_eq_true_eq]
    exact ⟨⟨h1, h2⟩, hw.rise hp hq⟩

/-! _law_best -/
section
variable (a b : List Ln)
noncomputable def bBest : List S := [.assign 5 (.call "_law_path" (.cons (.var 4) (.cons (.len (.var 0)) (.cons (.len (.var 1)) .nil)))),
    .ite (.e (.cmp .lt (.tup (.cons (.len (.var 5)) (.cons (.var 5) .nil))) (.tup (.cons (.len (.var 3)) (.cons (.var 3) .nil))))) [.assign 2 (.var 4),
    .assign 3 (.var 5)] []]
theorem path_call {w : List (Nat × Nat)} (ha : a.length ≤ 5) (hb : b.length ≤ 5) (hw : Val a b 0 0 w) : F1 "_law_path" [eW w, .int a.length, .int b.length] = some (.str (pth a.length b.length 0 0 w)) := by
  simp [F1, fPath, dW_eW, dNat_nat, ha, hb, hw.rise (Nat.zero_le _) (Nat.zero_le _)]
theorem run_bestloop (ha : a.length ≤ 5) (hb : b.length ≤ 5) : ∀ (l : List (List (Nat × Nat))) (best : List (Nat × Nat)) (o4 o5 : Option D), (∀ w ∈ l, Val a b 0 0 w) →
    ∃ o4' o5' p', Run F1 99 (.loop 4 (l.map eW) bBest) [some (eS a), some (eS b), some (eW best), some (.str (pth a.length b.length 0 0 best)), o4, o5]
      (.next [some (eS a), some (eS b), some (eW (bestBy (pth a.length b.length 0 0) best l)), p', o4', o5']) := by
  intro l
  induction l with
  | nil => intro best o4 o5 _; exact ⟨_, _, _, .loopNil⟩
  | cons w l ih =>
    intro best o4 o5 hl
    have hw := hl w List.mem_cons_self
    obtain ⟨o4', o5', p', h⟩ := ih (if kLt (pth a.length b.length 0 0 w) (pth a.length b.length 0 0 best) = true then w else best) (some (eW w)) (some (.str (pth a.length b.length 0 0 w))) fun v hv => hl v (List.mem_cons_of_mem _ hv)
    refine ⟨o4', o5', p', ?_⟩
    rw [List.map_cons]
    refine .loopCons ?_ h
    refine Run.then (ρ' := [some (eS a), some (eS b), some (eW best), some (.str (pth a.length b.length 0 0 best)), some (eW w), some (.str (pth a.length b.length 0 0 w))]) (Run.assign (d := .str (pth a.length b.length 0 0 w)) (by decide) ?_ rfl) (Run.one ?_)
    · have := path_call a b ha hb hw
      simp only [ev, evs, Rho.get, Rho.put, List.set, List.getElem?_cons_succ, List.getElem?_cons_zero, Option.join_some, Option.map, lenD]
      simp only [eS, List.length_map]
      exact this
    · have ht : ∀ x, x = kLt (pth a.length b.length 0 0 w) (pth a.length b.length 0 0 best) → tst F1 (.e (.cmp .lt (.tup (.cons (.len (.var 5)) (.cons (.var 5) .nil))) (.tup (.cons (.len (.var 3)) (.cons (.var 3) .nil))))) [some (eS a), some (eS b), some (eW best), some (.str (pth a.length b.length 0 0 best)), some (eW w), some (.str (pth a.length b.length 0 0 w))] = some x := by
        rintro x rfl
        simp only [tst, ev, evs, Rho.get, List.getElem?_cons_succ, List.getElem?_cons_zero, Option.join_some, Option.map, lenD, cmpD, ltD, strLt_eq]
        rfl
      cases hk : kLt (pth a.length b.length 0 0 w) (pth a.length b.length 0 0 best) with
      | true =>
        refine .iteT (ht _ hk.symm) ?_
        simp only [if_true]
        refine Run.then (ρ' := [some (eS a), some (eS b), some (eW w), some (.str (pth a.length b.length 0 0 best)), some (eW w), some (.str (pth a.length b.length 0 0 w))]) (Run.assign (d := eW w) (by decide) rfl rfl) (Run.one (Run.assign (d := .str (pth a.length b.length 0 0 w)) (by decide) rfl rfl))
      | false =>
        refine .iteF (ht _ hk.symm) ?_
        simp only [Bool.false_eq_true, if_false]
        exact .nil

theorem run_best (ha : a.length ≤ 5) (hb : b.length ≤ 5) : Run F1 99 (.seq p_law_best) [some (eS a), some (eS b), none, none, none, none] (.ret (eW (bestOf a b))) := by
  obtain ⟨o4', o5', p', h⟩ := run_bestloop a b ha hb (waysOf a b) [] none none (waysOf_val a b)
  refine Run.then (Run.assign (d := eW []) (by decide) rfl rfl) ?_
  refine Run.then (Run.assign (d := .str (pth a.length b.length 0 0 [])) (by decide) ?_ rfl) ?_
  · have := path_call a b ha hb (w := []) trivial
    simp only [ev, evs, Rho.get, Rho.put, List.set, List.getElem?_cons_succ, List.getElem?_cons_zero, Option.join_some, Option.map, lenD]
    simp only [eS, List.length_map]
    exact this
  refine Run.then (.for_ (d := eWs (waysOf a b)) (by decide) ?_ rfl rfl h) (Run.one (.ret rfl))
  have h1 : F1 "_law_matchings" [eS a, eS b] = some (eWs (waysOf a b)) := by simp [F1, text2_of _ ha hb]
  simp only [ev, evs, Rho.get, Rho.put, List.set, List.getElem?_cons_succ, List.getElem?_cons_zero, Option.join_some, Option.map]
  exact h1
end

/-! _law_words -/
noncomputable def bWords : List S := [.assign 1 (.bin .add (.var 1) (.comp (.bin .add (.var 3) (.list (.cons (.var 2) .nil))) 3 (.var 1)))]
theorem eS_snoc (w : List Ln) (c : Ln) : D.list (w.map .str ++ [.str c]) = eS (w ++ [c]) := by simp [eS]
theorem run_wordsloop (x : Option D) : ∀ (l : List Ln) (ws : List (List Ln)) (n : Nat) (o2 : Option D), (∀ w ∈ ws, w.length ≤ n) → n + l.length ≤ 1000 → ws.length * 2 ^ l.length ≤ 100000 →
    ∃ o2', Run F0 99 (.loop 2 (l.map .str) bWords) [x, some (eSs ws), o2, none] (.next [x, some (eSs (l.foldl wordsStep ws)), o2', none]) := by
  intro l
  induction l with
  | nil => intro ws n o2 _ _ _; exact ⟨_, .loopNil⟩
  | cons c l ih =>
    intro ws n o2 hw hn hsz
    simp only [List.length_cons, Nat.pow_succ] at hn hsz
    have hlen : (wordsStep ws c).length = ws.length * 2 := by simp [wordsStep]; lia
    have hpos : 1 ≤ 2 ^ l.length := Nat.one_le_two_pow
    have hws : ws.length * 2 ≤ 100000 := by
      have : ws.length * 2 * 1 ≤ ws.length * 2 * 2 ^ l.length := Nat.mul_le_mul_left _ hpos
      have e : ws.length * (2 ^ l.length * 2) = ws.length * 2 * 2 ^ l.length := by ac_rfl
      lia
    obtain ⟨o2', h⟩ := ih (wordsStep ws c) (n + 1) (some (.str c)) (by
      intro w hw'
      unfold wordsStep at hw'
      rcases List.mem_append.mp hw' with h | h
      · have := hw w h; lia
      · obtain ⟨v, hv, rfl⟩ := List.mem_map.mp h
        have := hw v hv; simp; lia) (by lia) (by rw [hlen]; have e : ws.length * (2 ^ l.length * 2) = ws.length * 2 * 2 ^ l.length := (by ac_rfl); lia)
    refine ⟨o2', ?_⟩
    rw [List.map_cons]
    refine .loopCons (ρ' := [x, some (eSs (wordsStep ws c)), some (.str c), none]) (Run.one (Run.assign (d := eSs (wordsStep ws c)) (by decide) ?_ rfl)) h
    have key : ∀ (vs : List (List Ln)), (∀ w ∈ vs, w.length ≤ n) → omap (fun y => ev F0 (.bin .add (.var 3) (.list (.cons (.var 2) .nil))) (Rho.put [x, some (eSs ws), some (.str c), none] 3 y)) (vs.map eS) = some (vs.map fun w => eS (w ++ [c])) := by
      intro vs
      induction vs with
      | nil => intro _; rfl
      | cons w vs ihv =>
        intro hv
        have hwl := hv w List.mem_cons_self
        simp only [List.map_cons, omap]
        rw [ihv fun v hv' => hv v (List.mem_cons_of_mem _ hv')]
        have : ev F0 (.bin .add (.var 3) (.list (.cons (.var 2) .nil))) (Rho.put [x, some (eSs ws), some (.str c), none] 3 (eS w)) = some (eS (w ++ [c])) := by
          simp only [ev, evs, Rho.get, Rho.put, List.set, List.getElem?_cons_succ, List.getElem?_cons_zero, Option.join_some, Option.map, eS, binD]
          rw [if_pos (by simp [cap]; lia)]
          simp
        rw [this]
        rfl
    have hcomp : ev F0 (.comp (.bin .add (.var 3) (.list (.cons (.var 2) .nil))) 3 (.var 1)) [x, some (eSs ws), some (.str c), none] = some (.list (ws.map fun w => eS (w ++ [c]))) := by
      rw [ev]
      have : ev F0 (.var 1) [x, some (eSs ws), some (.str c), none] = some (eSs ws) := rfl
      rw [this]
      simp only [items, eSs]
      have := key ws hw
      simp only [eSs] at this
      rw [this]
      rfl
    show ev F0 _ [x, some (eSs ws), some (.str c), none] = _
    rw [ev, hcomp]
    have : ev F0 (.var 1) [x, some (eSs ws), some (.str c), none] = some (eSs ws) := rfl
    rw [this]
    simp only [eSs, binD]
    rw [if_pos (by simp [cap]; lia)]
    simp [wordsStep, Function.comp_def]

theorem run_words (a : List Ln) (ha : a.length ≤ 5) : Run F0 99 (.seq p_law_words) [some (eS a), none, none, none] (.ret (eSs (wordsOf a))) := by
  have hp : 2 ^ a.length ≤ 32 := by
    have := Nat.pow_le_pow_right (n := 2) (by decide) ha
    simpa using this
  obtain ⟨o2', h⟩ := run_wordsloop (some (eS a)) a [[]] 0 none (by simp) (by lia) (by simp; lia)
  refine Run.then (Run.assign (d := eSs [[]]) (by decide) rfl rfl) ?_
  exact Run.then (.for_ (d := eS a) (by decide) rfl rfl rfl h) (Run.one (.ret rfl))

theorem sh2_nil : sh2 (.list []) = true := rfl
theorem sh2_W' (w : List (Nat × Nat)) : sh2 (.list (w.map eP)) = true := by simp [sh2, eP, sh1, sh0]
/-! _law_matchings -/
section
variable (a b : List Ln)
noncomputable def cM : T := (.or (.cons (.e (.cmp .eq (.var 5) (.list .nil))) (.cons (.and (.cons (.e (.cmp .lt (.idx (.idx (.var 5) (.neg (.int 1))) (.int 0)) (.var 3))) (.cons (.e (.cmp .lt (.idx (.idx (.var 5) (.neg (.int 1))) (.int 1)) (.var 4))) .nil))) .nil)))
noncomputable def eM : E := (.bin .add (.var 5) (.list (.cons (.tup (.cons (.var 3) (.cons (.var 4) .nil))) .nil)))
noncomputable def bM : List S := [.ite (.e (.cmp .eq (.idx (.var 0) (.var 3)) (.idx (.var 1) (.var 4)))) [.assign 2 (.bin .add (.var 2) (.compIf eM 5 (.var 2) cM))] []]
theorem tst_cM (x y z : Option D) (i j : Nat) (w : List (Nat × Nat)) : tst F0 cM [x, y, z, some (.int i), some (.int j), some (eW w)] = some (okExt i j w) := by
  rcases List.eq_nil_or_concat w with rfl | ⟨v, r, rfl⟩
  · simp [cM, tst, tor, ev, evs, Rho.get, eW, cmpD, eqT, sh2, eqD, eqL, okExt]
  · obtain ⟨p, q⟩ := r
    have hne : eqL ((v ++ [(p, q)]).map eP) [] = some false := by
      cases v <;> rfl
    have hl : idxD (eW (v ++ [(p, q)])) (.int (-1)) = some (eP (p, q)) := by
      have hlen : (v.map eP ++ [eP (p, q)]).length = v.length + 1 := by simp
      simp only [idxD, eW, List.map_append, List.map_cons, List.map_nil, getL]
      rw [if_neg (by decide), if_pos (by rw [hlen]; lia), hlen]
      rw [show ((-1 : Int) + ((v.length + 1 : Nat) : Int)).toNat = v.length by lia]
      simp
    simp only [List.concat_eq_append]
    simp only [cM, tst, tor, tand, ev, evs, Rho.get, List.getElem?_cons_succ, List.getElem?_cons_zero, Option.join_some, Option.map]
    rw [show cmpD .eq (eW (v ++ [(p, q)])) (.list []) = some false by simp only [cmpD, eqT, eW, sh2_nil, sh2_W', Bool.and_self, if_true]; exact hne]
    dsimp only
    rw [hl]
    dsimp only
    rw [idx_P0, idx_P1]
    simp only [cmpD, ltD, ltFlat, okExt, List.getLast?_append, List.getLast?_singleton, Option.some_or]
    have e1 : decide ((p : Int) < i) = decide (p < i) := by simp
    have e2 : decide ((q : Int) < j) = decide (q < j) := by simp
    rw [e1, e2]
    cases decide (p < i) <;> cases decide (q < j) <;> rfl
theorem ev_eM (x y z : Option D) (i j : Nat) (w : List (Nat × Nat)) (hw : w.length ≤ 900) : ev F0 eM [x, y, z, some (.int i), some (.int j), some (eW w)] = some (eW (w ++ [(i, j)])) := by
  simp only [eM, ev, evs, Rho.get, List.getElem?_cons_succ, List.getElem?_cons_zero, Option.join_some, Option.map, eW, binD]
  rw [if_pos (by simp [cap]; lia)]
  simp [eP]
theorem ev_compM (x y : Option D) (i j : Nat) (ws : List (List (Nat × Nat))) (hw : ∀ w ∈ ws, w.length ≤ 900) (hc : (ext1 i j ws).length ≤ 100000) :
    ev F0 (.bin .add (.var 2) (.compIf eM 5 (.var 2) cM)) [x, y, some (eWs ws), some (.int i), some (.int j), none] = some (eWs (ext1 i j ws)) := by
  have key : ∀ (vs : List (List (Nat × Nat))), (∀ w ∈ vs, w.length ≤ 900) → ofilt (fun d => tst F0 cM (Rho.put [x, y, some (eWs ws), some (.int i), some (.int j), none] 5 d)) (fun d => ev F0 eM (Rho.put [x, y, some (eWs ws), some (.int i), some (.int j), none] 5 d)) (vs.map eW) = some ((vs.filter (okExt i j)).map fun w => eW (w ++ [(i, j)])) := by
    intro vs
    induction vs with
    | nil => intro _; rfl
    | cons w vs ihv =>
      intro hv
      have hwl := hv w List.mem_cons_self
      simp only [List.map_cons, ofilt]
      rw [ihv fun v hv' => hv v (List.mem_cons_of_mem _ hv')]
      have h1 : tst F0 cM (Rho.put [x, y, some (eWs ws), some (.int i), some (.int j), none] 5 (eW w)) = some (okExt i j w) := tst_cM x y _ i j w
      have h2 : ev F0 eM (Rho.put [x, y, some (eWs ws), some (.int i), some (.int j), none] 5 (eW w)) = some (eW (w ++ [(i, j)])) := ev_eM x y _ i j w hwl
      rw [h1, h2, List.filter_cons]
      cases okExt i j w <;> rfl
  have hcomp : ev F0 (.compIf eM 5 (.var 2) cM) [x, y, some (eWs ws), some (.int i), some (.int j), none] = some (.list ((ws.filter (okExt i j)).map fun w => eW (w ++ [(i, j)]))) := by
    rw [ev]
    have : ev F0 (.var 2) [x, y, some (eWs ws), some (.int i), some (.int j), none] = some (eWs ws) := rfl
    rw [this]
    have h := key ws hw
    simp only [items, eWs] at h ⊢
    rw [h]
    rfl
  rw [ev, hcomp]
  have : ev F0 (.var 2) [x, y, some (eWs ws), some (.int i), some (.int j), none] = some (eWs ws) := rfl
  rw [this]
  unfold ext1 at hc ⊢
  simp only [List.length_append, List.length_map] at hc
  simp only [eWs, binD]
  rw [if_pos (by simp [cap]; lia)]
  simp [Function.comp_def]

theorem stepC_len {i j : Nat} {ws : List (List (Nat × Nat))} : ws.length ≤ (stepC a b i ws j).length := by
  unfold stepC ext1; split
  · simp
  · exact Nat.le_refl _
theorem foldC_len {i : Nat} : ∀ (l : List Nat) (ws : List (List (Nat × Nat))), ws.length ≤ (l.foldl (stepC a b i) ws).length := by
  intro l
  induction l with
  | nil => intro ws; exact Nat.le_refl _
  | cons j l ih => intro ws; exact Nat.le_trans (stepC_len a b) (ih _)
theorem foldR_len : ∀ (l : List Nat) (ws : List (List (Nat × Nat))), ws.length ≤ (l.foldl (rowC a b) ws).length := by
  intro l
  induction l with
  | nil => intro ws; exact Nat.le_refl _
  | cons j l ih => intro ws; exact Nat.le_trans (foldC_len a b _ _) (ih _)

theorem run_colloop (ha : a.length ≤ 5) {i : Nat} (hi : i < a.length) : ∀ (c j : Nat) (ws : List (List (Nat × Nat))) (o4 : Option D), j + c ≤ b.length → (∀ w ∈ ws, Val a b 0 0 w) → ((List.range' j c).foldl (stepC a b i) ws).length ≤ 100000 →
    ∃ o4', Run F0 99 (.loop 4 ((up j c).map .int) bM) [some (eS a), some (eS b), some (eWs ws), some (.int i), o4, none]
      (.next [some (eS a), some (eS b), some (eWs ((List.range' j c).foldl (stepC a b i) ws)), some (.int i), o4', none]) := by
  intro c
  induction c with
  | zero => intro j ws o4 _ _ _; exact ⟨_, .loopNil⟩
  | succ c ih =>
    intro j ws o4 hj hv hc
    rw [List.range'_succ, List.foldl_cons] at hc ⊢
    have hjb : j < b.length := by lia
    obtain ⟨o4', h⟩ := ih (j + 1) (stepC a b i ws j) (some (.int j)) (by lia) (stepC_val hi hjb hv) hc
    refine ⟨o4', ?_⟩
    rw [up_succ, List.map_cons]
    refine .loopCons (Run.one ?_) h
    unfold stepC
    rw [List.getElem?_eq_getElem hi, List.getElem?_eq_getElem hjb]
    by_cases hx : a[i] = b[j]
    · rw [if_pos (by rw [hx])]
      refine .iteT ?_ (Run.one (Run.assign (d := eWs (ext1 i j ws)) (by decide) ?_ rfl))
      · simp [tst, ev, Rho.get, Rho.put, cmpD, idx_S hi, idx_S hjb, eqT, hx]
      · refine ev_compM _ _ i j ws (fun w hw => ?_) ?_
        · have h1 := Val.le (a := a) (b := b) _ 0 0 w (Nat.le_refl _) (hv w hw)
          have h2 : LL a b 0 0 ≤ a.length := L_le a b
          lia
        · have h1 := foldC_len a b (i := i) (List.range' (j + 1) c) (stepC a b i ws j)
          have e : stepC a b i ws j = ext1 i j ws := by unfold stepC; rw [List.getElem?_eq_getElem hi, List.getElem?_eq_getElem hjb, if_pos (by rw [hx])]
          rw [e] at h1 hc
          lia
    · rw [if_neg (by simpa using hx)]
      refine .iteF ?_ .nil
      simp [tst, ev, Rho.get, Rho.put, cmpD, idx_S hi, idx_S hjb, eqT, hx]

noncomputable def bMi : List S := [.for_ 4 (.range1 (.len (.var 1))) bM]
theorem run_rowloop (ha : a.length ≤ 5) (hb : b.length ≤ 5) : ∀ (c i : Nat) (ws : List (List (Nat × Nat))) (o3 o4 : Option D), i + c ≤ a.length → (∀ w ∈ ws, Val a b 0 0 w) → ((List.range' i c).foldl (rowC a b) ws).length ≤ 100000 →
    ∃ o3' o4', Run F0 99 (.loop 3 ((up i c).map .int) bMi) [some (eS a), some (eS b), some (eWs ws), o3, o4, none]
      (.next [some (eS a), some (eS b), some (eWs ((List.range' i c).foldl (rowC a b) ws)), o3', o4', none]) := by
  intro c
  induction c with
  | zero => intro i ws o3 o4 _ _ _; exact ⟨_, _, .loopNil⟩
  | succ c ih =>
    intro i ws o3 o4 hi hv hc
    rw [List.range'_succ, List.foldl_cons] at hc ⊢
    have hia : i < a.length := by lia
    have hlen := foldR_len a b (List.range' (i + 1) c) (rowC a b ws i)
    have hval : ∀ w ∈ rowC a b ws i, Val a b 0 0 w := fold_inv (fun ws => ∀ w ∈ ws, Val a b 0 0 w) _ _ _ hv fun ws j hj h => stepC_val hia (List.mem_range.mp hj) h
    have hr : rowC a b ws i = (List.range' 0 b.length).foldl (stepC a b i) ws := by unfold rowC; rw [List.range_eq_range']
    obtain ⟨o4', h1⟩ := run_colloop a b ha hia b.length 0 ws o4 (by lia) hv (by rw [← hr]; lia)
    obtain ⟨o3', o4'', h2⟩ := ih (i + 1) (rowC a b ws i) (some (.int i)) o4' (by lia) hval hc
    refine ⟨o3', o4'', ?_⟩
    rw [up_succ, List.map_cons]
    refine .loopCons (Run.one ?_) h2
    rw [hr]
    refine .for_ (d := .rng (up 0 b.length)) (by decide) ?_ rfl rfl h1
    rw [← rngL_up]
    simp only [ev, Rho.get, Rho.put, List.set, List.getElem?_cons_succ, List.getElem?_cons_zero, Option.join_some, lenD, eS, List.length_map]
    exact rangeD_of (by decide) ⟨by lia, by lia⟩ (by decide) (by decide)

theorem waysOf_count (ha : a.length ≤ 5) (hb : b.length ≤ 5) : (waysOf a b).length ≤ 7776 := by
  have key : ∀ k, ((List.range k).foldl (rowC a b) [[]]).length ≤ 6 ^ k ∧ ∀ w ∈ (List.range k).foldl (rowC a b) [[]], ∀ r ∈ w, r.1 < k := by
    intro k
    induction k with
    | zero => simp
    | succ k ih =>
      rw [List.range_succ, List.foldl_append]
      obtain ⟨h1, h2⟩ := ih
      obtain ⟨g1, g2⟩ := rowC_count a b _ k h2
      refine ⟨Nat.le_trans g1 ?_, g2⟩
      rw [Nat.pow_succ, Nat.mul_comm (6 ^ k)]
      exact Nat.mul_le_mul (by lia) h1
  refine Nat.le_trans (key a.length).1 ?_
  have := Nat.pow_le_pow_right (n := 6) (by decide) ha
  simpa using this

theorem run_matchings (ha : a.length ≤ 5) (hb : b.length ≤ 5) : Run F0 99 (.seq p_law_matchings) [some (eS a), some (eS b), none, none, none, none] (.ret (eWs (waysOf a b))) := by
  have hw : waysOf a b = (List.range' 0 a.length).foldl (rowC a b) [[]] := by unfold waysOf; rw [List.range_eq_range']
  have hc := waysOf_count a b ha hb
  obtain ⟨o3, o4, h⟩ := run_rowloop a b ha hb a.length 0 [[]] none none (by lia) (by simp [Val]) (by rw [← hw]; lia)
  rw [← hw] at h
  refine Run.then (Run.assign (d := eWs [[]]) (by decide) rfl rfl) ?_
  refine Run.then (.for_ (d := .rng (up 0 a.length)) (by decide) ?_ rfl rfl h) (Run.one (.ret rfl))
  rw [← rngL_up]
  simp only [ev, Rho.get, Rho.put, List.set, List.getElem?_cons_succ, List.getElem?_cons_zero, Option.join_some, lenD, eS, List.length_map]
  exact rangeD_of (by decide) ⟨by lia, by lia⟩ (by decide) (by decide)
end
end Mine
namespace Mine
section
variable (a b : List Ln)
noncomputable def most : Nat := a.length + b.length
noncomputable def stM (r : List Int) (d : Nat) (k x : Option D) : Rho := [some (eS a), some (eS b), some (.int (most a b)), some (.int ((most a b : Int) + 1)), some (eI r), some (.int d), k, x]

theorem idx_I {r : List Int} {i v : Int} (h0 : 0 ≤ i) (h : r[i.toNat]? = some v) : idxD (eI r) (.int i) = some (.int v) := by
  simp [idxD, eI, getL, h0, h]

noncomputable def steps (k : Int) : Nat → List Int
  | 0 => []
  | c + 1 => k :: steps (k + 2) c
theorem steps_eq (c : Nat) : ∀ k : Int, steps k c = (List.range c).map fun (i : Nat) => k + (i : Int) * 2 := by
  induction c with
  | zero => intro k; rfl
  | succ c ih =>
    intro k
    rw [steps, ih, List.range_succ_eq_map]
    simp only [List.map_cons, List.map_map]
    rw [show k + ((0 : Nat) : Int) * 2 = k by simp]
    congr 1
    apply List.map_congr_left
    intro i _
    simp only [Function.comp]
    push_cast
    lia
theorem rngL_steps (d : Nat) : rngL (-(d : Int)) ((d : Int) + 1) 2 = steps (-(d : Int)) (d + 1) := by
  rw [steps_eq]
  unfold rngL rngN
  simp only [show (0 : Int) < 2 by decide, if_true]
  have : (((d : Int) + 1 - -(d : Int) + 2 - 1) / 2).toNat = d + 1 := by lia
  rw [this]

/-! the snake -/
noncomputable def tSn : T := (.and (.cons (.e (.cmp .lt (.var 7) (.len (.var 0)))) (.cons (.e (.cmp .lt (.bin .sub (.var 7) (.var 6)) (.len (.var 1)))) (.cons (.e (.cmp .eq (.idx (.var 0) (.var 7)) (.idx (.var 1) (.bin .sub (.var 7) (.var 6))))) .nil))))
noncomputable def sSn : S := .while_ tSn [.aug 7 (.int 1)]
theorem tst_sn (r : List Int) (d : Nat) (k : Int) (x y : Nat) (hk : (x : Int) - y = k) : tst F0 tSn (stM a b r d (some (.int k)) (some (.int x))) = some (mtOf a b x y) := by
  have e : (x : Int) - k = y := by lia
  simp only [tSn, tst, tand, ev, Rho.get, stM, List.getElem?_cons_succ, List.getElem?_cons_zero, Option.join_some, Option.map, lenD, cmpD, binD, e]
  rw [show (eS a) = .list (a.map .str) from rfl, show (eS b) = .list (b.map .str) from rfl]
  dsimp only [lenD]
  simp only [ltD, ltFlat, List.length_map]
  by_cases hx : x < a.length
  · by_cases hy : y < b.length
    · have h1 := idx_S hx
      have h2 := idx_S hy
      unfold eS at h1 h2
      rw [h1, h2]
      simp only [eqT]
      have hm : mtOf a b x y = (a[x] == b[y]) := by
        unfold mtOf
        rw [List.getElem?_eq_getElem hx, List.getElem?_eq_getElem hy, Bool.eq_iff_iff]
        simp [hx, hy]
      rw [hm]
      simp only [show decide ((x : Int) < (a.length : Int)) = true by simp [hx], show decide ((y : Int) < (b.length : Int)) = true by simp [hy]]
      cases a[x] == b[y] <;> rfl
    · have hm : mtOf a b x y = false := by unfold mtOf; simp [hy]
      rw [hm]
      simp [hx, hy]
  · have hm : mtOf a b x y = false := by unfold mtOf; simp [hx]
    rw [hm]
    simp [hx]
theorem run_snake (r : List Int) (d : Nat) (k : Int) : ∀ (t x y : Nat), a.length - x ≤ t → (x : Int) - y = k → dl (mtOf a b) x y ≤ d →
    ∃ x' y' : Nat, x ≤ x' ∧ (x' : Int) - y' = k ∧ dl (mtOf a b) x' y' ≤ d ∧ mtOf a b x' y' = false ∧ x' ≤ x + t ∧
      Run F0 4 (.stmt sSn) (stM a b r d (some (.int k)) (some (.int x))) (.next (stM a b r d (some (.int k)) (some (.int x')))) := by
  intro t
  induction t with
  | zero =>
    intro x y ht hk hd
    have hm : mtOf a b x y = false := by
      cases h : mtOf a b x y with
      | false => rfl
      | true => obtain ⟨h1, _⟩ := mtOf_iff.mp h; lia
    exact ⟨x, y, Nat.le_refl _, hk, hd, hm, Nat.le_refl _, .whileF (by rw [tst_sn a b r d k x y hk, hm])⟩
  | succ t ih =>
    intro x y ht hk hd
    cases hm : mtOf a b x y with
    | false => exact ⟨x, y, Nat.le_refl _, hk, hd, hm, by lia, .whileF (by rw [tst_sn a b r d k x y hk, hm])⟩
    | true =>
      obtain ⟨x', y', h1, h2, h3, h4, h5, h6⟩ := ih (x + 1) (y + 1) (by lia) (by lia) (by rw [dl_yes hm]; exact hd)
      refine ⟨x', y', by lia, h2, h3, h4, by lia, .whileT (by rw [tst_sn a b r d k x y hk, hm]) (Run.one ?_) h6⟩
      exact Run.aug (x := 7) (mu := 4) (i := x) (j := 1) (by decide) rfl rfl

/-- what the array holds in round d ahead of diagonal k -/
structure RI (r : List Int) (d : Nat) (k : Int) : Prop where
  len : r.length = 2 * most a b + 3
  old : ∀ k' : Int, -((d : Int) - 1) ≤ k' → k' ≤ (d : Int) - 1 → (k' - ((d : Int) - 1)) % 2 = 0 → ∃ x : Nat, r[(k' + (most a b + 1)).toNat]? = some (x : Int) ∧ Far (mtOf a b) ((d : Int) - 1) k' x
  new : ∀ k' : Int, -(d : Int) ≤ k' → k' < k → (k' - (d : Int)) % 2 = 0 → ∃ x : Nat, r[(k' + (most a b + 1)).toNat]? = some (x : Int) ∧ Far (mtOf a b) d k' x ∧ ¬ (a.length ≤ x ∧ (b.length : Int) ≤ (x : Int) - k')
  nul : d = 0 → r[(1 + ((most a b : Int) + 1)).toNat]? = some 0
  most_le : (d : Int) ≤ most a b
  le : (d : Int) ≤ dist a b

noncomputable def sStart : S := .ite (.or (.cons (.e (.cmp .eq (.var 6) (.neg (.var 5)))) (.cons (.and (.cons (.e (.cmp .ne (.var 6) (.var 5))) (.cons (.e (.cmp .lt (.idx (.var 4) (.bin .add (.bin .sub (.var 6) (.int 1)) (.var 3))) (.idx (.var 4) (.bin .add (.bin .add (.var 6) (.int 1)) (.var 3))))) .nil))) .nil))) [.assign 7 (.idx (.var 4) (.bin .add (.bin .add (.var 6) (.int 1)) (.var 3)))] [.assign 7 (.bin .add (.idx (.var 4) (.bin .add (.bin .sub (.var 6) (.int 1)) (.var 3))) (.int 1))]

theorem ev_up (r : List Int) (d : Nat) (k v : Int) (o : Option D) (h0 : 0 ≤ k + 1 + ((most a b : Int) + 1)) (h : r[(k + 1 + ((most a b : Int) + 1)).toNat]? = some v) :
    ev F0 (.idx (.var 4) (.bin .add (.bin .add (.var 6) (.int 1)) (.var 3))) (stM a b r d (some (.int k)) o) = some (.int v) := by
  simp only [ev, Rho.get, stM, List.getElem?_cons_succ, List.getElem?_cons_zero, Option.join_some, binD]
  exact idx_I h0 h
theorem ev_dn (r : List Int) (d : Nat) (k v : Int) (o : Option D) (h0 : 0 ≤ k - 1 + ((most a b : Int) + 1)) (h : r[(k - 1 + ((most a b : Int) + 1)).toNat]? = some v) :
    ev F0 (.idx (.var 4) (.bin .add (.bin .sub (.var 6) (.int 1)) (.var 3))) (stM a b r d (some (.int k)) o) = some (.int v) := by
  simp only [ev, Rho.get, stM, List.getElem?_cons_succ, List.getElem?_cons_zero, Option.join_some, binD]
  exact idx_I h0 h
theorem dl_nonneg (mt : Nat → Nat → Bool) (x y : Nat) : 0 ≤ dl mt x y := by have := dl_abs mt x y; lia

theorem put7 (r : List Int) (d : Nat) (k : Option D) (o : Option D) (v : D) : Rho.put (stM a b r d k o) 7 v = stM a b r d k (some v) := rfl

theorem run_start (r : List Int) (d : Nat) (k : Int) (o : Option D) (I : RI a b r d k) (h1 : -(d : Int) ≤ k) (h2 : k ≤ d) (hpar : (k - (d : Int)) % 2 = 0) :
    ∃ x0 y0 : Nat, (x0 : Int) - y0 = k ∧ dl (mtOf a b) x0 y0 ≤ d ∧ (∀ x' y' : Nat, (x' : Int) - y' = k - 1 → dl (mtOf a b) x' y' ≤ (d : Int) - 1 → x' + 1 ≤ x0) ∧ (∀ x' y' : Nat, (x' : Int) - y' = k + 1 → dl (mtOf a b) x' y' ≤ (d : Int) - 1 → x' ≤ x0) ∧
      Run F0 4 (.stmt sStart) (stM a b r d (some (.int k)) o) (.next (stM a b r d (some (.int k)) (some (.int x0)))) := by
  have hml := I.most_le
  have t1 : ∀ v, tst F0 (.e (.cmp .eq (.var 6) (.neg (.var 5)))) (stM a b r d (some (.int k)) o) = some v ↔ decide (k = -(d : Int)) = v := by
    intro v
    simp only [tst, ev, Rho.get, stM, List.getElem?_cons_succ, List.getElem?_cons_zero, Option.join_some, cmpD, eqT, Option.map]
    rw [Option.some.injEq]
    rw [show (k == -(d : Int)) = decide (k = -(d : Int)) by rw [Bool.eq_iff_iff]; simp]
  have t2 : ∀ v, tst F0 (.e (.cmp .ne (.var 6) (.var 5))) (stM a b r d (some (.int k)) o) = some v ↔ decide (k ≠ (d : Int)) = v := by
    intro v
    simp only [tst, ev, Rho.get, stM, List.getElem?_cons_succ, List.getElem?_cons_zero, Option.join_some, cmpD, eqT, Option.map]
    rw [Option.some.injEq]
    rw [show (!(k == (d : Int))) = decide (k ≠ (d : Int)) by rw [Bool.eq_iff_iff]; simp]
  by_cases hkd : k = -(d : Int)
  · -- the lowest diagonal
    have test : tst F0 (.or (.cons (.e (.cmp .eq (.var 6) (.neg (.var 5)))) (.cons (.and (.cons (.e (.cmp .ne (.var 6) (.var 5))) (.cons (.e (.cmp .lt (.idx (.var 4) (.bin .add (.bin .sub (.var 6) (.int 1)) (.var 3))) (.idx (.var 4) (.bin .add (.bin .add (.var 6) (.int 1)) (.var 3))))) .nil))) .nil))) (stM a b r d (some (.int k)) o) = some true := by
      rw [tst, tor, (t1 true).mpr (by simp [hkd])]
    by_cases hd0 : d = 0
    · have hk0 : k = 0 := by lia
      refine ⟨0, 0, by lia, by unfold dl; rw [dp_zl]; lia, fun x' y' _ h => by have := dl_nonneg (mtOf a b) x' y'; lia, fun x' y' _ h => by have := dl_nonneg (mtOf a b) x' y'; lia, ?_⟩
      refine .iteT test (Run.one (Run.assign (d := .int 0) (by decide) ?_ rfl))
      refine ev_up a b r d k 0 o (by lia) ?_
      rw [hk0]; exact I.nul hd0
    · obtain ⟨x1, hx1, hf⟩ := I.old (k + 1) (by lia) (by lia) (by lia)
      have hle := fun x' y' e h => hf.le (x' := x') (y' := y') e h
      obtain ⟨y1, e1, e2, e3⟩ := hf
      refine ⟨x1, y1 + 1, by push_cast; lia, by have := dl_down (mtOf a b) x1 y1; lia, fun x' y' e h => ?_, hle, ?_⟩
      · have := dl_abs (mtOf a b) x' y'; lia
      · exact .iteT test (Run.one (Run.assign (d := .int x1) (by decide) (ev_up a b r d k x1 o (by lia) hx1) rfl))
  · by_cases hkD : k = (d : Int)
    · -- the highest diagonal
      have test : tst F0 (.or (.cons (.e (.cmp .eq (.var 6) (.neg (.var 5)))) (.cons (.and (.cons (.e (.cmp .ne (.var 6) (.var 5))) (.cons (.e (.cmp .lt (.idx (.var 4) (.bin .add (.bin .sub (.var 6) (.int 1)) (.var 3))) (.idx (.var 4) (.bin .add (.bin .add (.var 6) (.int 1)) (.var 3))))) .nil))) .nil))) (stM a b r d (some (.int k)) o) = some false := by
        rw [tst, tor, (t1 false).mpr (by simp [hkd])]
        dsimp only
        rw [tor, tst, tand, (t2 false).mpr (by simp [hkD])]
        rfl
      obtain ⟨x1, hx1, hf⟩ := I.old (k - 1) (by lia) (by lia) (by lia)
      have hle := fun x' y' e h => hf.le (x' := x') (y' := y') e h
      obtain ⟨y1, e1, e2, e3⟩ := hf
      refine ⟨x1 + 1, y1, by push_cast; lia, by have := dl_right (mtOf a b) x1 y1; lia, fun x' y' e h => by have := hle x' y' e h; lia, fun x' y' e h => ?_, ?_⟩
      · have := dl_abs (mtOf a b) x' y'; lia
      · refine .iteF test (Run.one (Run.assign (d := .int (x1 + 1 : Nat)) (by decide) ?_ rfl))
        rw [ev, ev_dn a b r d k x1 o (by lia) hx1]
        rfl
    · obtain ⟨x1, hx1, hf1⟩ := I.old (k - 1) (by lia) (by lia) (by lia)
      obtain ⟨x2, hx2, hf2⟩ := I.old (k + 1) (by lia) (by lia) (by lia)
      have hle1 := fun x' y' e h => hf1.le (x' := x') (y' := y') e h
      have hle2 := fun x' y' e h => hf2.le (x' := x') (y' := y') e h
      obtain ⟨y1, e1, e2, e3⟩ := hf1
      obtain ⟨y2, g1, g2, g3⟩ := hf2
      have v1 := ev_dn a b r d k x1 o (by lia) hx1
      have v2 := ev_up a b r d k x2 o (by lia) hx2
      have test : ∀ v, decide ((x1 : Int) < x2) = v → tst F0 (.or (.cons (.e (.cmp .eq (.var 6) (.neg (.var 5)))) (.cons (.and (.cons (.e (.cmp .ne (.var 6) (.var 5))) (.cons (.e (.cmp .lt (.idx (.var 4) (.bin .add (.bin .sub (.var 6) (.int 1)) (.var 3))) (.idx (.var 4) (.bin .add (.bin .add (.var 6) (.int 1)) (.var 3))))) .nil))) .nil))) (stM a b r d (some (.int k)) o) = some v := by
        intro v hv
        rw [tst, tor, (t1 false).mpr (by simp [hkd])]
        dsimp only
        rw [tor, tst, tand, (t2 true).mpr (by simp [hkD])]
        dsimp only
        rw [tand, tst, ev, v1, v2]
        simp only [cmpD, ltD, ltFlat, Option.map, hv]
        cases v <;> rfl
      by_cases hlt : x1 < x2
      · refine ⟨x2, y2 + 1, by push_cast; lia, by have := dl_down (mtOf a b) x2 y2; lia, fun x' y' e h => by have := hle1 x' y' e h; lia, hle2, ?_⟩
        exact .iteT (test true (by simp [hlt])) (Run.one (Run.assign (d := .int x2) (by decide) v2 rfl))
      · refine ⟨x1 + 1, y1, by push_cast; lia, by have := dl_right (mtOf a b) x1 y1; lia, fun x' y' e h => by have := hle1 x' y' e h; lia, fun x' y' e h => by have := hle2 x' y' e h; lia, ?_⟩
        refine .iteF (test false (by simp; lia)) (Run.one (Run.assign (d := .int (x1 + 1 : Nat)) (by decide) ?_ rfl))
        rw [ev, v1]
        rfl

noncomputable def tEnd : T := (.and (.cons (.e (.cmp .ge (.var 7) (.len (.var 0)))) (.cons (.e (.cmp .ge (.bin .sub (.var 7) (.var 6)) (.len (.var 1)))) .nil)))
noncomputable def bK : List S := [sStart, sSn, .set1 4 (.bin .add (.var 6) (.var 3)) (.var 7), .ite tEnd [.ret (.var 5)] []]
theorem tst_end (r : List Int) (d : Nat) (k : Int) (x : Nat) : tst F0 tEnd (stM a b r d (some (.int k)) (some (.int x))) = some (decide (a.length ≤ x ∧ (b.length : Int) ≤ (x : Int) - k)) := by
  simp only [tEnd, tst, tand, ev, Rho.get, stM, List.getElem?_cons_succ, List.getElem?_cons_zero, Option.join_some, Option.map, binD]
  rw [show (eS a) = .list (a.map .str) from rfl, show (eS b) = .list (b.map .str) from rfl]
  simp only [lenD, cmpD, List.length_map]
  by_cases h1 : a.length ≤ x
  · by_cases h2 : (b.length : Int) ≤ (x : Int) - k
    · simp [h1, h2]
    · simp [h1, h2]
  · simp [h1]

theorem eI_set (r : List Int) (i : Nat) (v : Int) : D.list ((r.map D.int).set i (.int v)) = eI (r.set i v) := by simp [eI, List.map_set]

/-- one diagonal -/
theorem run_diag (r : List Int) (d : Nat) (k : Int) (ok o : Option D) (I : RI a b r d k) (h1 : -(d : Int) ≤ k) (h2 : k ≤ d) (hpar : (k - (d : Int)) % 2 = 0) :
    Run F0 4 (.seq bK) (stM a b r d (some (.int k)) o) (.ret (.int (dist a b))) ∨
    ∃ r' o', RI a b r' d (k + 2) ∧ Run F0 4 (.seq bK) (stM a b r d (some (.int k)) o) (.next (stM a b r' d (some (.int k)) o')) := by
  have hml := I.most_le
  obtain ⟨x0, y0, hk0, hd0, hL, hR, hrun⟩ := run_start a b r d k o I h1 h2 hpar
  obtain ⟨x, y, hx, hk, hd, hm, _, hsn⟩ := run_snake a b r d k _ x0 y0 (Nat.le_refl _) hk0 hd0
  have far : Far (mtOf a b) d k x := Far.step hk hd hm (fun x' y' e h => by have := hL x' y' e h; lia) (fun x' y' e h => by have := hR x' y' e h; lia)
  have hi0 : 0 ≤ k + ((most a b : Int) + 1) := by lia
  have hset : Run F0 4 (.stmt (.set1 4 (.bin .add (.var 6) (.var 3)) (.var 7))) (stM a b r d (some (.int k)) (some (.int x))) (.next (stM a b (r.set (k + ((most a b : Int) + 1)).toNat x) d (some (.int k)) (some (.int x)))) := by
    have := Run.set1 (Φ := F0) (mu := 4) (i := .bin .add (.var 6) (.var 3)) (e := .var 7) (ρ := stM a b r d (some (.int k)) (some (.int x))) (k := k + ((most a b : Int) + 1)) (d := .int x) (l := r.map .int)
      rfl rfl hi0 (by rw [List.length_map, I.len]; push_cast; lia) rfl rfl
    rw [eI_set] at this
    exact this
  by_cases hend : a.length ≤ x ∧ (b.length : Int) ≤ (x : Int) - k
  · left
    have hdist : dist a b = d := by
      have := dist_past (a := a) (b := b) hend.1 (show b.length ≤ y by lia)
      have := I.le
      lia
    refine Run.then hrun (Run.then hsn (Run.then hset (Run.one (.iteT ?_ (Run.one (.ret ?_))))))
    · rw [tst_end]; simp [hend]
    · rw [hdist]; rfl
  · right
    refine ⟨_, _, ?_, Run.then hrun (Run.then hsn (Run.then hset (Run.one (.iteF ?_ .nil))))⟩
    · have look : ∀ k' : Int, k' ≠ k → 0 ≤ k' + ((most a b : Int) + 1) → (r.set (k + ((most a b : Int) + 1)).toNat (x : Int))[(k' + ((most a b : Int) + 1)).toNat]? = r[(k' + ((most a b : Int) + 1)).toNat]? := by
        intro k' hne h0
        rw [List.getElem?_set_ne]
        lia
      refine ⟨by rw [List.length_set]; exact I.len, fun k' g1 g2 g3 => ?_, fun k' g1 g2 g3 => ?_, fun h0 => ?_, hml, I.le⟩
      · rw [look k' (by lia) (by lia)]
        exact I.old k' g1 g2 g3
      · by_cases hkk : k' = k
        · subst hkk
          refine ⟨x, ?_, far, hend⟩
          rw [List.getElem?_set_self]
          rw [I.len]; lia
        · rw [look k' hkk (by lia)]
          exact I.new k' g1 (by lia) g3
      · rw [look 1 (by lia) (by lia)]
        exact I.nul h0
    · rw [tst_end]; simp [hend]

theorem run_diags (d : Nat) : ∀ (c : Nat) (k : Int) (r : List Int) (ok o : Option D), RI a b r d k → -(d : Int) ≤ k → k + 2 * c = d + 2 →
    Run F0 4 (.loop 6 ((steps k c).map .int) bK) (stM a b r d ok o) (.ret (.int (dist a b))) ∨
    ∃ r' ok' o', RI a b r' d (d + 2) ∧ Run F0 4 (.loop 6 ((steps k c).map .int) bK) (stM a b r d ok o) (.next (stM a b r' d ok' o')) := by
  intro c
  induction c with
  | zero =>
    intro k r ok o I h1 h2
    right
    have : k = (d : Int) + 2 := by lia
    subst this
    exact ⟨r, ok, o, I, .loopNil⟩
  | succ c ih =>
    intro k r ok o I h1 h2
    have hput : Rho.put (stM a b r d ok o) 6 (.int k) = stM a b r d (some (.int k)) o := rfl
    rcases run_diag a b r d k ok o I h1 (by lia) (by lia) with h | ⟨r', o', I', h⟩
    · left
      exact .loopStop (by rw [hput]; exact h)
    · rcases ih (k + 2) r' (some (.int k)) o' I' (by lia) (by lia) with g | ⟨r'', ok'', o'', I'', g⟩
      · left; exact .loopCons (by rw [hput]; exact h) g
      · right; exact ⟨r'', ok'', o'', I'', .loopCons (by rw [hput]; exact h) g⟩

noncomputable def bD : List S := [.for_ 6 (.range3 (.neg (.var 5)) (.bin .add (.var 5) (.int 1)) (.int 2)) bK]

theorem run_rounds (hsz : most a b ≤ 100) : ∀ (c d : Nat) (r : List Int) (od ok o : Option D), d + c = most a b + 1 →
    r.length = 2 * most a b + 3 → ((d : Int) ≤ dist a b) → (d = 0 → r[(1 + ((most a b : Int) + 1)).toNat]? = some 0) →
    (∀ k' : Int, -((d : Int) - 1) ≤ k' → k' ≤ (d : Int) - 1 → (k' - ((d : Int) - 1)) % 2 = 0 → ∃ x : Nat, r[(k' + (most a b + 1)).toNat]? = some (x : Int) ∧ Far (mtOf a b) ((d : Int) - 1) k' x) →
    Run F0 4 (.loop 5 ((up d c).map .int) bD) [some (eS a), some (eS b), some (.int (most a b)), some (.int ((most a b : Int) + 1)), some (eI r), od, ok, o] (.ret (.int (dist a b))) := by
  intro c
  induction c with
  | zero =>
    intro d r od ok o hc hlen hle _ _
    exfalso
    have : dist a b ≤ most a b := by unfold dist most; lia
    lia
  | succ c ih =>
    intro d r od ok o hc hlen hle hnul hold
    rw [up_succ, List.map_cons]
    have I : RI a b r d (-(d : Int)) := ⟨hlen, hold, fun k' g1 g2 _ => by lia, hnul, by lia, hle⟩
    have hev : ev F0 (.range3 (.neg (.var 5)) (.bin .add (.var 5) (.int 1)) (.int 2)) (stM a b r d ok o) = some (.rng (steps (-(d : Int)) (d + 1))) := by
      rw [← rngL_steps]
      simp only [ev, Rho.get, stM, List.getElem?_cons_succ, List.getElem?_cons_zero, Option.join_some, binD]
      exact rangeD_of ⟨by lia, by lia⟩ ⟨by lia, by lia⟩ (by decide) (by decide)
    rcases run_diags a b d (d + 1) (-(d : Int)) r ok o I (Int.le_refl _) (by push_cast; lia) with h | ⟨r', ok', o', I', h⟩
    · exact .loopStop (Run.one (.for_ (d := .rng (steps (-(d : Int)) (d + 1))) (by decide) hev rfl rfl h))
    · refine .loopCons (ρ' := stM a b r' d ok' o') (Run.one (.for_ (d := .rng (steps (-(d : Int)) (d + 1))) (by decide) hev rfl rfl h)) ?_
      refine ih (d + 1) r' (some (.int d)) ok' o' (by lia) I'.len ?_ (fun h0 => by lia) ?_
      · -- round d was not the last one
        have hne : (d : Int) ≠ dist a b := by
          intro hd
          have hdd := hd
          unfold dist at hdd
          have hLa : L a b ≤ a.length := by rw [← dp_L]; exact (dp_le _ _ _).1
          have hLb : L a b ≤ b.length := by rw [← dp_L]; exact (dp_le _ _ _).2
          obtain ⟨x, _, hf, hno⟩ := I'.new ((a.length : Int) - b.length) (by lia) (by lia) (by lia)
          obtain ⟨y, e1, e2, e3⟩ := hf
          have hxn : x < a.length := by lia
          have := dl_diag_add (mtOf a b) (x + 1) (y + 1) (a.length - (x + 1))
          rw [show x + 1 + (a.length - (x + 1)) = a.length by lia, show y + 1 + (a.length - (x + 1)) = b.length by lia, ← dist_dl] at this
          lia
        push_cast
        lia
      · intro k' g1 g2 g3
        obtain ⟨x, hx, hf, _⟩ := I'.new k' (by lia) (by lia) (by lia)
        refine ⟨x, hx, ?_⟩
        rw [show (((d + 1 : Nat) : Int) - 1) = d by push_cast; lia]
        exact hf

theorem run_myers (ha : a.length ≤ 5) (hb : b.length ≤ 5) : Run F0 4 (.seq p_myers_distance) [some (eS a), some (eS b), none, none, none, none, none, none] (.ret (.int (dist a b))) := by
  have hm : most a b ≤ 10 := by unfold most; lia
  have hd0 : 0 ≤ dist a b := by rw [dist_dl]; exact dl_nonneg _ _ _
  have h := run_rounds a b (by lia) (most a b + 1) 0 (List.replicate (2 * most a b + 3) 0) none none none (by lia) (by simp) (by simpa using hd0)
    (fun _ => by rw [List.getElem?_replicate, if_pos (by lia)]) (fun k' g1 g2 _ => by lia)
  refine Run.then (ρ' := [some (eS a), some (eS b), some (.int (most a b)), none, none, none, none, none]) (Run.assign (d := .int (most a b)) (by decide) ?_ rfl) ?_
  · simp [ev, Rho.get, lenD, eS, binD, most]
  refine Run.then (ρ' := [some (eS a), some (eS b), some (.int (most a b)), some (.int ((most a b : Int) + 1)), none, none, none, none]) (Run.assign (d := .int ((most a b : Int) + 1)) (by decide) rfl rfl) ?_
  refine Run.then (ρ' := [some (eS a), some (eS b), some (.int (most a b)), some (.int ((most a b : Int) + 1)), some (eI (List.replicate (2 * most a b + 3) 0)), none, none, none]) ?_ ?_
  · have e : eI (List.replicate (2 * most a b + 3) 0) = D.list (List.replicate ((2 * (most a b : Int) + 3).toNat) (.int 0)) := by
      rw [show (2 * (most a b : Int) + 3).toNat = 2 * most a b + 3 by lia]
      simp [eI]
    rw [e]
    refine Run.mkFill (mu := 4) (by simp) rfl (k := 2 * (most a b : Int) + 3) ?_ (by lia) (by lia)
    simp only [ev, Rho.get, List.getElem?_cons_succ, List.getElem?_cons_zero, Option.join_some, binD]
    rw [small_of (by decide) (by decide), small_of (by lia) (by lia)]
    rfl
  refine Run.stop (.for_ (d := .rng (up 0 (most a b + 1))) (by decide) ?_ rfl rfl h)
  rw [← rngL_up]
  simp only [ev, Rho.get, List.getElem?_cons_succ, List.getElem?_cons_zero, Option.join_some, binD]
  rw [show ((most a b + 1 : Nat) : Int) = (most a b : Int) + 1 by push_cast; rfl]
  exact rangeD_of (by decide) ⟨by lia, by lia⟩ (by decide) (by decide)
end
end Mine
namespace Mine

theorem eqL_map {β : Type} [DecidableEq β] (g : β → D) (h : ∀ x y, eqD (g x) (g y) = some (decide (x = y))) : ∀ l l' : List β, eqL (l.map g) (l'.map g) = some (decide (l = l')) := by
  intro l
  induction l with
  | nil => intro l'; cases l' <;> simp [eqL]
  | cons x l ih =>
    intro l'
    cases l' with
    | nil => simp [eqL]
    | cons y l' =>
      simp only [List.map_cons, eqL, h, ih]
      by_cases hxy : x = y
      · subst hxy; simp
      · simp [hxy]
theorem eqD_S (a b : List Ln) : eqD (eS a) (eS b) = some (decide (a = b)) := by
  simp only [eS, eqD]
  exact eqL_map _ (fun x y => by simp only [eqD]; congr 1; rw [Bool.eq_iff_iff]; simp) a b
theorem eqD_P (p q : Nat × Nat) : eqD (eP p) (eP q) = some (decide (p = q)) := by
  obtain ⟨p1, p2⟩ := p
  obtain ⟨q1, q2⟩ := q
  simp only [eP, eqD, eqL]
  have e1 : ((p1 : Int) == q1) = decide (p1 = q1) := by rw [Bool.eq_iff_iff]; simp; lia
  have e2 : ((p2 : Int) == q2) = decide (p2 = q2) := by rw [Bool.eq_iff_iff]; simp; lia
  rw [e1, e2]
  by_cases h1 : p1 = q1
  · by_cases h2 : p2 = q2
    · simp [h1, h2]
    · simp [h1, h2]
  · simp [h1]
theorem eqD_W (w v : List (Nat × Nat)) : eqD (eW w) (eW v) = some (decide (w = v)) := by
  simp only [eW, eqD]
  exact eqL_map _ eqD_P w v
theorem memD_S (p : List Ln) : ∀ ws : List (List Ln), memD (eS p) (ws.map eS) = some (decide (p ∈ ws)) := by
  intro ws
  induction ws with
  | nil => simp [memD]
  | cons w ws ih =>
    simp only [List.map_cons, memD, eqD_S, ih]
    by_cases h : p = w
    · simp [h]
    · simp [h]

theorem eqT_S (a b : List Ln) : eqT (eS a) (eS b) = some (decide (a = b)) := by
  rw [← eqD_S]
  simp [eqT, eS, sh2, sh1, sh0]
theorem eqT_W (a b : List (Nat × Nat)) : eqT (eW a) (eW b) = some (decide (a = b)) := by
  rw [← eqD_W]
  simp only [eqT, eW, sh2_W', Bool.and_self, if_true]
theorem memT_S (p : List Ln) (ws : List (List Ln)) : memT (eS p) (ws.map eS) = some (decide (p ∈ ws)) := by
  rw [← memD_S]
  simp [memT, eS, sh1, sh0]
theorem textFold_len (size : Nat) : ∀ (l : List Int) (acc : List Ln), acc.length ≤ size → (l.foldl (textStep size) acc).length = min size (acc.length + l.length) := by
  intro l
  induction l with
  | nil => intro acc h; simp; lia
  | cons c l ih =>
    intro acc h
    rw [List.foldl_cons, ih]
    · unfold textStep
      split
      · simp; lia
      · simp; lia
    · unfold textStep
      split
      · simp; lia
      · exact h
theorem textOf_len (l : List Int) (n : Nat) (h : n ≤ l.length) : (textOf l n).length = n := by
  unfold textOf
  rw [textFold_len n l [] (Nat.zero_le _)]
  simp; lia

theorem cons_pos (s : List Int) (h : 0 < s.length) : ∃ x r, s = x :: r := by
  cases s with
  | nil => cases h
  | cons x r => exact ⟨x, r, rfl⟩
theorem split18 (s : List Int) (h : 18 ≤ s.length) : ∃ x0 x1 x2 x3 x4 x5 x6 x7 x8 x9 x10 x11 x12 x13 x14 x15 x16 x17 r, s = x0 :: x1 :: x2 :: x3 :: x4 :: x5 :: x6 :: x7 :: x8 :: x9 :: x10 :: x11 :: x12 :: x13 :: x14 :: x15 :: x16 :: x17 :: r := by
  obtain ⟨x0, s, rfl⟩ := cons_pos s (by lia)
  obtain ⟨x1, s, rfl⟩ := cons_pos s (by simp only [List.length_cons] at h; lia)
  obtain ⟨x2, s, rfl⟩ := cons_pos s (by simp only [List.length_cons] at h; lia)
  obtain ⟨x3, s, rfl⟩ := cons_pos s (by simp only [List.length_cons] at h; lia)
  obtain ⟨x4, s, rfl⟩ := cons_pos s (by simp only [List.length_cons] at h; lia)
  obtain ⟨x5, s, rfl⟩ := cons_pos s (by simp only [List.length_cons] at h; lia)
  obtain ⟨x6, s, rfl⟩ := cons_pos s (by simp only [List.length_cons] at h; lia)
  obtain ⟨x7, s, rfl⟩ := cons_pos s (by simp only [List.length_cons] at h; lia)
  obtain ⟨x8, s, rfl⟩ := cons_pos s (by simp only [List.length_cons] at h; lia)
  obtain ⟨x9, s, rfl⟩ := cons_pos s (by simp only [List.length_cons] at h; lia)
  obtain ⟨x10, s, rfl⟩ := cons_pos s (by simp only [List.length_cons] at h; lia)
  obtain ⟨x11, s, rfl⟩ := cons_pos s (by simp only [List.length_cons] at h; lia)
  obtain ⟨x12, s, rfl⟩ := cons_pos s (by simp only [List.length_cons] at h; lia)
  obtain ⟨x13, s, rfl⟩ := cons_pos s (by simp only [List.length_cons] at h; lia)
  obtain ⟨x14, s, rfl⟩ := cons_pos s (by simp only [List.length_cons] at h; lia)
  obtain ⟨x15, s, rfl⟩ := cons_pos s (by simp only [List.length_cons] at h; lia)
  obtain ⟨x16, s, rfl⟩ := cons_pos s (by simp only [List.length_cons] at h; lia)
  obtain ⟨x17, s, rfl⟩ := cons_pos s (by simp only [List.length_cons] at h; lia)
  exact ⟨x0, x1, x2, x3, x4, x5, x6, x7, x8, x9, x10, x11, x12, x13, x14, x15, x16, x17, s, rfl⟩

theorem mod_nat (x : Int) (k : Nat) (h : 0 < k) : ∃ n : Nat, x % (k : Int) = (n : Int) ∧ n < k := by
  have h1 : 0 ≤ x % (k : Int) := Int.emod_nonneg _ (by lia)
  have h2 : x % (k : Int) < k := Int.emod_lt_of_pos _ (by lia)
  exact ⟨(x % (k : Int)).toNat, by lia, by lia⟩

section
variable (o0 o1 o2 o3 o4 o5 o6 o7 o8 o9 o10 o11 o12 o13 o14 o15 o18 o19 o21 o22 o23 o24 o25 : Option D)
noncomputable def bPl : List S := [.ite (.not (.e (.cmp .is (.type (.var 17)) (.ty "int")))) [.ret (.bool false)] []]
noncomputable def bPr : List S := [.ite (.not (.e (.cmp .is (.type (.var 16)) (.ty "tuple")))) [.ret (.bool false)] [], .for_ 17 (.var 16) bPl]
theorem run_prs : ∀ (w : List (Nat × Nat)) (o16 o17 o20 : Option D), ∃ o16' o17', Run F3 99 (.loop 16 (w.map eP) bPr)
    [o0, o1, o2, o3, o4, o5, o6, o7, o8, o9, o10, o11, o12, o13, o14, o15, o16, o17, o18, o19, o20, o21, o22, o23, o24, o25]
    (.next [o0, o1, o2, o3, o4, o5, o6, o7, o8, o9, o10, o11, o12, o13, o14, o15, o16', o17', o18, o19, o20, o21, o22, o23, o24, o25]) := by
  intro w
  induction w with
  | nil => intro o16 o17 o20; exact ⟨_, _, .loopNil⟩
  | cons p w ih =>
    obtain ⟨p, q⟩ := p
    intro o16 o17 o20
    obtain ⟨o16', o17', h⟩ := ih (some (eP (p, q))) (some (.int q)) o20
    refine ⟨o16', o17', .loopCons ?_ h⟩
    refine Run.then (.iteF rfl .nil) (Run.one ?_)
    refine .for_ (d := eP (p, q)) (by decide) rfl rfl rfl ?_
    exact .loopCons (Run.one (.iteF rfl .nil)) (.loopCons (Run.one (.iteF rfl .nil)) .loopNil)

noncomputable def bRw : List S := [.ite (.e (.cmp .ne (.len (.var 20)) (.bin .add (.var 2) (.int 1)))) [.ret (.bool false)] []]
theorem run_rws (m : Nat) (f : Nat → Nat → Int) : ∀ (l : List Nat) (o16 o17 o20 : Option D), ∃ o20', Run F3 99 (.loop 20 (l.map fun p => eR m (f p)) bRw)
    [o0, o1, some (.int m), o3, o4, o5, o6, o7, o8, o9, o10, o11, o12, o13, o14, o15, o16, o17, o18, o19, o20, o21, o22, o23, o24, o25]
    (.next [o0, o1, some (.int m), o3, o4, o5, o6, o7, o8, o9, o10, o11, o12, o13, o14, o15, o16, o17, o18, o19, o20', o21, o22, o23, o24, o25]) := by
  intro l
  induction l with
  | nil => intro o16 o17 o20; exact ⟨_, .loopNil⟩
  | cons p l ih =>
    intro o16 o17 o20
    obtain ⟨o20', h⟩ := ih o16 o17 (some (eR m (f p)))
    refine ⟨o20', .loopCons (Run.one (.iteF ?_ .nil)) h⟩
    simp [tst, ev, Rho.get, Rho.put, List.set, eR, lenD, binD, cmpD, eqT]
end

theorem ev_again (A : List Ln) (ρ : Rho) (w : List (Nat × Nat)) (B : List Ln) (h10 : ρ.get 10 = some (eS A)) (hl : ρ.length = 26) : ∀ (w : List (Nat × Nat)) (i j : Nat), Val A B i j w →
    omap (fun y => ev F3 (.idx (.var 10) (.idx (.var 25) (.int 0))) (ρ.put 25 y)) (w.map eP) = some (w.map fun p => .str (A.getD p.1 [])) := by
  intro w
  induction w with
  | nil => intro _ _ _; rfl
  | cons p w ih =>
    obtain ⟨p, q⟩ := p
    rintro i j ⟨_, _, ⟨hp, hq, e⟩, hw⟩
    simp only [List.map_cons, omap]
    rw [ih _ _ hw]
    have : ev F3 (.idx (.var 10) (.idx (.var 25) (.int 0))) (ρ.put 25 (eP (p, q))) = some (.str (A.getD p [])) := by
      have g10 : (ρ.put 25 (eP (p, q))).get 10 = some (eS A) := by
        rw [← h10]; unfold Rho.get Rho.put; rw [List.getElem?_set_ne (by decide)]
      have g25 : (ρ.put 25 (eP (p, q))).get 25 = some (eP (p, q)) := by
        unfold Rho.get Rho.put; rw [List.getElem?_set_self (by lia)]; rfl
      simp only [ev, g10, g25, idx_P0]
      rw [idx_S hp]
      simp [List.getD, hp]
    rw [this]
    rfl

theorem tst_common (A B : List Ln) (ρ : Rho) (g18 : ρ.get 18 = some (lcsD A B)) (g13 : ρ.get 13 = some (eW (bestOf A B))) (g10 : ρ.get 10 = some (eS A)) (gl : ρ.length = 26) :
    tst F3 (.e (.cmp .ne (.var 18) (.comp (.idx (.var 10) (.idx (.var 25) (.int 0))) 25 (.var 13)))) ρ = some false := by
  obtain ⟨gv, _⟩ := GM_val (a := A) (b := B) _ 0 0 (Nat.le_refl _)
  have hc : ev F3 (.comp (.idx (.var 10) (.idx (.var 25) (.int 0))) 25 (.var 13)) ρ = some (lcsD A B) := by
    have hv : ev F3 (.var 13) ρ = some (eW (bestOf A B)) := by rw [ev]; exact g13
    rw [ev, hv, bestOf_eq]
    simp only [items, eW]
    rw [ev_again A ρ [] B g10 gl _ 0 0 gv]
    simp [lcsD, eS]
  rw [tst, ev, hc]
  have hv : ev F3 (.var 18) ρ = some (lcsD A B) := by rw [ev]; exact g18
  rw [hv]
  simp only [lcsD, cmpD, eqT_S, decide_true, Option.map, Bool.not_true]

theorem run_law (s : List Int) (hs : s.length ≤ 1000) :
    Run F3 99 (.seq p_law) [some (eI s), none, none, none, none, none, none, none, none, none, none, none, none, none, none, none, none, none, none, none, none, none, none, none, none, none] (.ret (.bool true)) := by
  unfold p_law
  by_cases h18 : s.length < 18
  · refine Run.stop (.iteT ?_ (Run.one (.ret rfl)))
    simp [tst, ev, Rho.get, lenD, eI, cmpD, ltD, ltFlat]; lia
  obtain ⟨x0, x1, x2, x3, x4, x5, x6, x7, x8, x9, x10, x11, x12, x13, x14, x15, x16, x17, r, rfl⟩ := split18 s (by lia)
  generalize hS : eI (x0 :: x1 :: x2 :: x3 :: x4 :: x5 :: x6 :: x7 :: x8 :: x9 :: x10 :: x11 :: x12 :: x13 :: x14 :: x15 :: x16 :: x17 :: r) = SC
  have i0 : idxD SC (.int 0) = some (.int x0) := by rw [← hS]; rfl
  have i1 : idxD SC (.int 1) = some (.int x1) := by rw [← hS]; rfl
  have i2 : idxD SC (.int 2) = some (.int x2) := by rw [← hS]; rfl
  have i3 : idxD SC (.int 3) = some (.int x3) := by rw [← hS]; rfl
  have i4 : idxD SC (.int 4) = some (.int x4) := by rw [← hS]; rfl
  have i5 : idxD SC (.int 5) = some (.int x5) := by rw [← hS]; rfl
  have i6 : idxD SC (.int 6) = some (.int x6) := by rw [← hS]; rfl
  have i7 : idxD SC (.int 7) = some (.int x7) := by rw [← hS]; rfl
  have i8 : idxD SC (.int 8) = some (.int x8) := by rw [← hS]; rfl
  have i9 : idxD SC (.int 9) = some (.int x9) := by rw [← hS]; rfl
  have i10 : idxD SC (.int 10) = some (.int x10) := by rw [← hS]; rfl
  have i11 : idxD SC (.int 11) = some (.int x11) := by rw [← hS]; rfl
  have i12 : idxD SC (.int 12) = some (.int x12) := by rw [← hS]; rfl
  have i13 : idxD SC (.int 13) = some (.int x13) := by rw [← hS]; rfl
  have i14 : idxD SC (.int 14) = some (.int x14) := by rw [← hS]; rfl
  have i15 : idxD SC (.int 15) = some (.int x15) := by rw [← hS]; rfl
  have i16 : idxD SC (.int 16) = some (.int x16) := by rw [← hS]; rfl
  have i17 : idxD SC (.int 17) = some (.int x17) := by rw [← hS]; rfl
  obtain ⟨n, hn, hn6⟩ := mod_nat x0 6 (by decide)
  obtain ⟨m, hm, hm6⟩ := mod_nat x1 6 (by decide)
  obtain ⟨z, hz, hz4⟩ := mod_nat x12 4 (by decide)
  obtain ⟨p, hp, hpn⟩ := mod_nat x16 (n + 1) (by lia)
  obtain ⟨q, hq, hqm⟩ := mod_nat x17 (m + 1) (by lia)
  push_cast at hn hm hz hp hq
  generalize hA : textOf [x2, x3, x4, x5, x6] n = A
  generalize hB : textOf [x7, x8, x9, x10, x11] m = B
  generalize hC : textOf [x13, x14, x15] z = P
  have lA : A.length = n := by rw [← hA]; exact textOf_len _ n (by simp; lia)
  have lB : B.length = m := by rw [← hB]; exact textOf_len _ m (by simp; lia)
  have lP : P.length = z := by rw [← hC]; exact textOf_len _ z (by simp; lia)
  have cA : F3 "_law_text" [.list [.int x2, .int x3, .int x4, .int x5, .int x6], .int n] = some (eS A) := by
    have e : dI (.list [.int x2, .int x3, .int x4, .int x5, .int x6]) = some [x2, x3, x4, x5, x6] := rfl
    simp [F3, F2, F1, fText, e, dNat_nat, hA]; lia
  have cB : F3 "_law_text" [.list [.int x7, .int x8, .int x9, .int x10, .int x11], .int m] = some (eS B) := by
    have e : dI (.list [.int x7, .int x8, .int x9, .int x10, .int x11]) = some [x7, x8, x9, x10, x11] := rfl
    simp [F3, F2, F1, fText, e, dNat_nat, hB]; lia
  have cP : F3 "_law_text" [.list [.int x13, .int x14, .int x15], .int z] = some (eS P) := by
    have e : dI (.list [.int x13, .int x14, .int x15]) = some [x13, x14, x15] := rfl
    simp [F3, F2, F1, fText, e, dNat_nat, hC]; lia
  have a5 : A.length ≤ 5 := by lia
  have b5 : B.length ≤ 5 := by lia
  have p5 : P.length ≤ 5 := by lia
  have cBest : F3 "_law_best" [eS A, eS B] = some (eW (bestOf A B)) := by simp [F3, F2, text2_of _ a5 b5]
  have cM1 : F3 "myers_distance" [eS A, eS B] = some (.int (dist A B)) := by simp [F3, F2, F1, text2_of _ a5 b5]
  have cM2 : F3 "myers_distance" [eS B, eS A] = some (.int (dist B A)) := by simp [F3, F2, F1, text2_of _ b5 a5]
  have cLen : F3 "lcs_length" [eS A, eS B] = some (.int (L A B)) := by simp [F3, F2, text2_of _ a5 b5]
  have cMat : F3 "matches_of" [eS A, eS B] = some (eW (GM A B 0 0)) := by simp [F3, F2, text2_of _ a5 b5]
  have cLcs : F3 "lcs_of" [eS A, eS B] = some (lcsD A B) := by simp [F3, text2_of _ a5 b5]
  have cTab : F3 "lcs_table" [eS A, eS B] = some (tabD A B) := by simp [F3, F2, F1, text2_of _ a5 b5]
  have cBest2 : F3 "_law_best" [eS (A.drop p), eS (B.drop q)] = some (eW (bestOf (A.drop p) (B.drop q))) := by
    simp only [F3, F2]
    rw [if_neg (by decide), if_neg (by decide), if_neg (by decide)]
    simp only [if_true]
    exact text2_of _ (by simp; lia) (by simp; lia)
  have cWords : F3 "_law_words" [eS A] = some (eSs (wordsOf A)) := by simp [F3, F2, F1, fWords, dS_eS, a5]
  have cSub : F3 "is_subsequence" [eS P, eS A] = some (subD P A) := by simp [F3, F2, F1, text2_of _ p5 a5]
  have cNum : ∀ x y : Int, F3 "_law_number" [.int x, .int y] = some (.bool (decide (x = y))) := by intro x y; simp [F3, F2, F1, fNumber]
  have hbest : bestOf A B = GM A B 0 0 := bestOf_eq A B
  have hlen : (bestOf A B).length = L A B := bestOf_len A B
  have hlen2 : (bestOf (A.drop p) (B.drop q)).length = LL A B p q := bestOf_len _ _
  obtain ⟨gv, _⟩ := GM_val (a := A) (b := B) _ 0 0 (Nat.le_refl _)
  have hle : L A B ≤ A.length := L_le A B
  -- the script is long enough
  refine Run.then (ρ' := [some SC, none, none, none, none, none, none, none, none, none, none, none, none, none, none, none, none, none, none, none, none, none, none, none, none, none]) (.iteF ?_ .nil) ?_
  · rw [← hS]; simp [tst, ev, Rho.get, lenD, eI, cmpD, ltD, ltFlat]; lia
  refine Run.then (Run.assign (d := .int n) (by decide) ?_ rfl) ?_
  · simp only [ev, Rho.get, Rho.put, List.set, List.getElem?_cons_succ, List.getElem?_cons_zero, Option.join_some, i0, binD]
    rw [if_pos (by decide), hn]
  dsimp only [Rho.put, List.set]
  refine Run.then (Run.assign (d := .int m) (by decide) ?_ rfl) ?_
  · simp only [ev, Rho.get, Rho.put, List.set, List.getElem?_cons_succ, List.getElem?_cons_zero, Option.join_some, i1, binD]
    rw [if_pos (by decide), hm]
  dsimp only [Rho.put, List.set]
  refine Run.then (Run.assign (d := .int z) (by decide) ?_ rfl) ?_
  · simp only [ev, Rho.get, Rho.put, List.set, List.getElem?_cons_succ, List.getElem?_cons_zero, Option.join_some, i12, binD]
    rw [if_pos (by decide), hz]
  dsimp only [Rho.put, List.set]
  refine Run.then (Run.assign (d := .list [.int x2, .int x3, .int x4, .int x5, .int x6]) (by decide) ?_ rfl) ?_
  · rw [← hS]; rfl
  dsimp only [Rho.put, List.set]
  refine Run.then (Run.assign (d := .list [.int x7, .int x8, .int x9, .int x10, .int x11]) (by decide) ?_ rfl) ?_
  · rw [← hS]; rfl
  dsimp only [Rho.put, List.set]
  refine Run.then (Run.assign (d := .list [.int x13, .int x14, .int x15]) (by decide) ?_ rfl) ?_
  · rw [← hS]; rfl
  dsimp only [Rho.put, List.set]
  refine Run.then (Run.assign (d := eS A) (by decide) ?_ rfl) ?_
  · exact cA
  dsimp only [Rho.put, List.set]
  refine Run.then (Run.assign (d := eS B) (by decide) ?_ rfl) ?_
  · exact cB
  dsimp only [Rho.put, List.set]
  refine Run.then (Run.assign (d := eS P) (by decide) ?_ rfl) ?_
  · exact cP
  dsimp only [Rho.put, List.set]
  refine Run.then (Run.assign (d := eS A) (by decide) ?_ rfl) ?_
  · exact cA
  dsimp only [Rho.put, List.set]
  refine Run.then (Run.assign (d := eS B) (by decide) ?_ rfl) ?_
  · exact cB
  dsimp only [Rho.put, List.set]
  refine Run.then (Run.assign (d := eS P) (by decide) ?_ rfl) ?_
  · exact cP
  dsimp only [Rho.put, List.set]
  refine Run.then (Run.assign (d := eW (bestOf A B)) (by decide) ?_ rfl) ?_
  · exact cBest
  dsimp only [Rho.put, List.set]
  have lenW : lenD (eW (bestOf A B)) = some (.int (L A B)) := by simp [lenD, eW, hlen]
  refine Run.then (Run.assign (d := .int (dist A B)) (by decide) ?_ rfl) ?_
  · simp only [ev, evs, Rho.get, List.getElem?_cons_succ, List.getElem?_cons_zero, Option.join_some, Option.map, lenW, binD]
    rw [small_of (by decide) (by decide), small_of (by lia) (by lia)]
    simp only [Bool.and_self, if_true]
    unfold dist
    rw [lA, lB]
  dsimp only [Rho.put, List.set]
  -- the distances
  refine Run.then (.iteF ?_ .nil) ?_
  · simp only [tst, ev, evs, Rho.get, List.getElem?_cons_succ, List.getElem?_cons_zero, Option.join_some, Option.map, cM1, cNum, decide_true, Bool.not_true]
  refine Run.then (.iteF ?_ .nil) ?_
  · simp only [tst, ev, evs, Rho.get, List.getElem?_cons_succ, List.getElem?_cons_zero, Option.join_some, Option.map, cM2, cNum, dist_swap B A, decide_true, Bool.not_true]
  refine Run.then (.iteF ?_ .nil) ?_
  · simp only [tst, ev, evs, Rho.get, List.getElem?_cons_succ, List.getElem?_cons_zero, Option.join_some, Option.map, cLen, lenW, cNum, decide_true, Bool.not_true]
  -- the matches
  refine Run.then (Run.assign (d := eW (GM A B 0 0)) (by decide) ?_ rfl) ?_
  · exact cMat
  dsimp only [Rho.put, List.set]
  refine Run.then (.iteF rfl .nil) ?_
  refine Run.then (.iteF ?_ .nil) ?_
  · simp only [tst, ev, evs, Rho.get, List.getElem?_cons_succ, List.getElem?_cons_zero, Option.join_some, Option.map, cmpD, eqT_W, hbest, decide_true, Bool.not_true]
  obtain ⟨o16, o17, hprs⟩ := run_prs (some SC) (some (.int n)) (some (.int m)) (some (.int z)) (some (.list [.int x2, .int x3, .int x4, .int x5, .int x6])) (some (.list [.int x7, .int x8, .int x9, .int x10, .int x11])) (some (.list [.int x13, .int x14, .int x15]))
    (some (eS A)) (some (eS B)) (some (eS P)) (some (eS A)) (some (eS B)) (some (eS P)) (some (eW (bestOf A B))) (some (.int (dist A B))) (some (eW (GM A B 0 0))) none none none none none none none (GM A B 0 0) none none none
  refine Run.then (.for_ (d := eW (GM A B 0 0)) (by decide) rfl rfl rfl hprs) ?_
  refine Run.then (Run.assign (d := lcsD A B) (by decide) ?_ rfl) ?_
  · exact cLcs
  dsimp only [Rho.put, List.set]
  refine Run.then (.iteF rfl .nil) ?_
  refine Run.then (.iteF ?_ .nil) ?_
  · exact tst_common A B _ rfl rfl rfl rfl
  -- the table
  refine Run.then (Run.assign (d := tabD A B) (by decide) ?_ rfl) ?_
  · exact cTab
  dsimp only [Rho.put, List.set]
  have lenT : lenD (tabD A B) = some (.int ((n : Int) + 1)) := by simp [lenD, tabD, eT, lA]
  refine Run.then (.iteF ?_ .nil) ?_
  · simp only [tst, ev, evs, Rho.get, List.getElem?_cons_succ, List.getElem?_cons_zero, Option.join_some, Option.map, lenT, binD, cmpD, eqT, BEq.rfl, Bool.not_true]
  obtain ⟨o20, hrws⟩ := run_rws (some SC) (some (.int n)) (some (.int z)) (some (.list [.int x2, .int x3, .int x4, .int x5, .int x6])) (some (.list [.int x7, .int x8, .int x9, .int x10, .int x11])) (some (.list [.int x13, .int x14, .int x15]))
    (some (eS A)) (some (eS B)) (some (eS P)) (some (eS A)) (some (eS B)) (some (eS P)) (some (eW (bestOf A B))) (some (.int (dist A B))) (some (eW (GM A B 0 0))) (some (lcsD A B)) (some (tabD A B)) none none none none none m (fun p q => (LL A B p q : Int)) (List.range (A.length + 1)) o16 o17 none
  refine Run.then (.for_ (d := tabD A B) (by decide) rfl rfl (by rw [show tabD A B = .list ((List.range (A.length + 1)).map fun p => eR m (fun q => (LL A B p q : Int))) by simp [tabD, eT, lB]]; rfl) hrws) ?_
  refine Run.then (Run.assign (d := .int p) (by decide) ?_ rfl) ?_
  · simp only [ev, Rho.get, Rho.put, List.set, List.getElem?_cons_succ, List.getElem?_cons_zero, Option.join_some, i16, binD]
    rw [if_pos (by lia), hp]
  dsimp only [Rho.put, List.set]
  refine Run.then (Run.assign (d := .int q) (by decide) ?_ rfl) ?_
  · simp only [ev, Rho.get, Rho.put, List.set, List.getElem?_cons_succ, List.getElem?_cons_zero, Option.join_some, i17, binD]
    rw [if_pos (by lia), hq]
  dsimp only [Rho.put, List.set]
  have dropA : tailD (eS A) (.int p) = some (eS (A.drop p)) := by
    have : p ≤ A.length := by lia
    simp [tailD, eS, List.map_drop, this]
  have dropB : tailD (eS B) (.int q) = some (eS (B.drop q)) := by
    have : q ≤ B.length := by lia
    simp [tailD, eS, List.map_drop, this]
  have lenW2 : lenD (eW (bestOf (A.drop p) (B.drop q))) = some (.int (LL A B p q)) := by simp [lenD, eW, hlen2]
  have entry : ∀ d, idxD (tabD A B) (.int p) = some d → idxD d (.int q) = some (.int (LL A B p q)) := by
    intro d hd
    unfold tabD at hd
    rw [idx_T (by lia)] at hd
    cases hd
    exact idx_R (by lia)
  have rowp : idxD (tabD A B) (.int p) = some (eR B.length (fun q => (LL A B p q : Int))) := by unfold tabD; exact idx_T (by lia)
  refine Run.then (.iteF ?_ .nil) ?_
  · simp only [tst, ev, evs, Rho.get, List.getElem?_cons_succ, List.getElem?_cons_zero, Option.join_some, Option.map, rowp, entry _ rowp, dropA, dropB, cBest2, lenW2, cNum, decide_true, Bool.not_true]
  -- the sub-words
  refine Run.then (Run.assign (d := .bool (decide (P ∈ wordsOf A))) (by decide) ?_ rfl) ?_
  · simp only [ev, evs, Rho.get, List.getElem?_cons_succ, List.getElem?_cons_zero, Option.join_some, Option.map, cWords, eSs, cmpD, memT_S]
  dsimp only [Rho.put, List.set]
  refine Run.then (Run.assign (d := subD P A) (by decide) ?_ rfl) ?_
  · exact cSub
  dsimp only [Rho.put, List.set]
  refine Run.then (.iteF rfl .nil) ?_
  refine Run.then (.iteF ?_ .nil) ?_
  · have hsub : decide (A.foldl (foundStep P) 0 = P.length) = decide (P ∈ wordsOf A) := by
      rw [Bool.eq_iff_iff, decide_eq_true_eq, decide_eq_true_eq, mem_wordsOf, (found_iff P A 0 (Nat.zero_le _)).2]
      rfl
    simp only [tst, ev, evs, Rho.get, List.getElem?_cons_succ, List.getElem?_cons_zero, Option.join_some, Option.map, subD, hsub, cmpD, eqT, BEq.rfl, Bool.not_true]
  refine Run.then (.iteF ?_ .nil) ?_
  · simp only [tst, ev, evs, Rho.get, List.getElem?_cons_succ, List.getElem?_cons_zero, Option.join_some, Option.map, cmpD, eqT_S, decide_true, Bool.not_true]
  refine Run.then (.iteF ?_ .nil) ?_
  · simp only [tst, ev, evs, Rho.get, List.getElem?_cons_succ, List.getElem?_cons_zero, Option.join_some, Option.map, cmpD, eqT_S, decide_true, Bool.not_true]
  refine Run.then (.iteF ?_ .nil) ?_
  · simp only [tst, ev, evs, Rho.get, List.getElem?_cons_succ, List.getElem?_cons_zero, Option.join_some, Option.map, cmpD, eqT_S, decide_true, Bool.not_true]
  exact Run.one (.ret rfl)
end Mine
namespace Mine
open PySem PySem.SeqAt

/-! data in the heap -/
noncomputable abbrev lobj (vs : List Value) (k : Nat) : Obj := { cls := .type "list", data := .seq vs.toArray k }
noncomputable abbrev tobj (vs : List Value) (k : Nat) : Obj := { cls := .type "tuple", data := .seq vs.toArray k }

/-- the object is a list of these values -/
noncomputable def LObj (o : Obj) (vs : List Value) : Prop := o.cls = .type "list" ∧ ∃ k, o.data = .seq vs.toArray k
noncomputable def TObj (o : Obj) (vs : List Value) : Prop := o.cls = .type "tuple" ∧ ∃ k, o.data = .seq vs.toArray k
mutual
/-- the value v is the datum d; its objects lie outside X -/
noncomputable def R (X : Addr → Prop) (h : Heap) (v : Value) : D → Prop
  | .bool b => v = .bool b
  | .int i => ∃ t, v = .int i t
  | .str l => ∃ s t, v = .str s t ∧ s.cps.toList = l ∧ (∀ c ∈ l, c < 128) ∧ l.length ≤ cap
  | .ty n => v = .type n
  | .rng l => ∃ a x y z t u w, v = .ref a ∧ ¬ X a ∧ IsRange h a x y z t u w ∧ small x = true ∧ small y = true ∧ small z = true ∧ z ≠ 0 ∧ l = rngL x y z
  | .list l => ∃ a vs o, v = .ref a ∧ ¬ X a ∧ (h.get? a = some o ∧ LObj o vs) ∧ l.length ≤ cap ∧ Rs X h vs l
  | .tup l => ∃ a vs o, v = .ref a ∧ ¬ X a ∧ (h.get? a = some o ∧ TObj o vs) ∧ l.length ≤ cap ∧ Rs X h vs l
noncomputable def Rs (X : Addr → Prop) (h : Heap) (vs : List Value) : List D → Prop
  | [] => vs = []
  | d :: ds => ∃ v vs', vs = v :: vs' ∧ R X h v d ∧ Rs X h vs' ds
end

noncomputable def noDict (o : Obj) : Prop := ∀ es ep, o.data ≠ .dict es ep
mutual
theorem R.monoD {X X' : Addr → Prop} {h h' : Heap} (hk : ∀ a o, ¬ X a → h.get? a = some o → noDict o → ¬ X' a ∧ h'.get? a = some o) : ∀ (d : D) (v : Value), R X h v d → R X' h' v d
  | .bool b, v, r => by rw [R] at r ⊢; exact r
  | .int b, v, r => by rw [R] at r ⊢; exact r
  | .str b, v, r => by rw [R] at r ⊢; exact r
  | .ty b, v, r => by rw [R] at r ⊢; exact r
  | .rng l, v, r => by
    rw [R] at r ⊢
    obtain ⟨a, x, y, z, t, u, w, e, hx, hr, rest⟩ := r
    have q := hk a _ hx hr (by intro es ep e; cases e)
    exact ⟨a, x, y, z, t, u, w, e, q.1, q.2, rest⟩
  | .list l, v, r => by
    rw [R] at r ⊢
    obtain ⟨a, vs, k, e, hx, ⟨hg, ho⟩, hl, hr⟩ := r
    have q := hk a _ hx hg (by obtain ⟨_, k', e'⟩ := ho; intro es ep e; rw [e'] at e; cases e)
    exact ⟨a, vs, k, e, q.1, ⟨q.2, ho⟩, hl, Rs.monoD hk l vs hr⟩
  | .tup l, v, r => by
    rw [R] at r ⊢
    obtain ⟨a, vs, k, e, hx, ⟨hg, ho⟩, hl, hr⟩ := r
    have q := hk a _ hx hg (by obtain ⟨_, k', e'⟩ := ho; intro es ep e; rw [e'] at e; cases e)
    exact ⟨a, vs, k, e, q.1, ⟨q.2, ho⟩, hl, Rs.monoD hk l vs hr⟩
theorem Rs.monoD {X X' : Addr → Prop} {h h' : Heap} (hk : ∀ a o, ¬ X a → h.get? a = some o → noDict o → ¬ X' a ∧ h'.get? a = some o) : ∀ (l : List D) (vs : List Value), Rs X h vs l → Rs X' h' vs l
  | [], vs, r => by rw [Rs] at r ⊢; exact r
  | d :: ds, vs, r => by
    rw [Rs] at r ⊢
    obtain ⟨v, vs', e, h1, h2⟩ := r
    exact ⟨v, vs', e, R.monoD hk d v h1, Rs.monoD hk ds vs' h2⟩
end
theorem R.mono {X X' : Addr → Prop} {h h' : Heap} (hk : ∀ a o, ¬ X a → h.get? a = some o → ¬ X' a ∧ h'.get? a = some o) (d : D) (v : Value) (r : R X h v d) : R X' h' v d := R.monoD (fun a o q e _ => hk a o q e) d v r
theorem Rs.mono {X X' : Addr → Prop} {h h' : Heap} (hk : ∀ a o, ¬ X a → h.get? a = some o → ¬ X' a ∧ h'.get? a = some o) (l : List D) (vs : List Value) (r : Rs X h vs l) : Rs X' h' vs l := Rs.monoD (fun a o q e _ => hk a o q e) l vs r

noncomputable def Ext (h h' : Heap) : Prop := ∀ b o, h.get? b = some o → h'.get? b = some o
/-- every excluded address is alive -/
noncomputable def XB (X : Addr → Prop) (h : Heap) : Prop := ∀ a, X a → ∃ o, h.get? a = some o
theorem R.ext {X : Addr → Prop} {h h' : Heap} {v : Value} {d : D} (r : R X h v d) (hk : Ext h h') : R X h' v d := R.mono (fun a o hx e => ⟨hx, hk a o e⟩) d v r
theorem Rs.ext {X : Addr → Prop} {h h' : Heap} {vs : List Value} {ds : List D} (r : Rs X h vs ds) (hk : Ext h h') : Rs X h' vs ds := Rs.mono (fun a o hx e => ⟨hx, hk a o e⟩) ds vs r
theorem XB.ext {X : Addr → Prop} {h h' : Heap} (x : XB X h) (hk : Ext h h') : XB X h' := fun a ha => let ⟨o, e⟩ := x a ha; ⟨o, hk a o e⟩
theorem XB.fresh {X : Addr → Prop} {h : Heap} (x : XB X h) : ¬ X h.objs.size := fun hx => by
  obtain ⟨o, e⟩ := x _ hx
  exact absurd (Heap.lt_size e) (Nat.lt_irrefl _)
theorem Ext.refl (h : Heap) : Ext h h := fun _ _ e => e
theorem Ext.push (h : Heap) (o : Obj) : Ext h (h.push o) := fun _ _ e => Heap.get?_push_of_some o e
theorem Ext.trans {h h' h'' : Heap} (x : Ext h h') (y : Ext h' h'') : Ext h h'' := fun b o e => y b o (x b o e)

theorem Rs.length {X : Addr → Prop} {h : Heap} : ∀ {ds : List D} {vs : List Value}, Rs X h vs ds → vs.length = ds.length
  | [], vs, r => by rw [Rs] at r; subst r; rfl
  | d :: ds, vs, r => by
    rw [Rs] at r
    obtain ⟨v, vs', e, h1, h2⟩ := r
    subst e
    simp [Rs.length h2]
theorem Rs.get {X : Addr → Prop} {h : Heap} : ∀ {ds : List D} {vs : List Value} {i : Nat} {d : D}, Rs X h vs ds → ds[i]? = some d → ∃ v, vs[i]? = some v ∧ R X h v d
  | [], vs, i, d, r, e => by simp at e
  | d :: ds, vs, i, d', r, e => by
    rw [Rs] at r
    obtain ⟨v, vs', rfl, h1, h2⟩ := r
    cases i with
    | zero => simp at e; subst e; exact ⟨v, rfl, h1⟩
    | succ i => exact Rs.get (ds := ds) (vs := vs') h2 (by simpa using e)
theorem Rs.append {X : Addr → Prop} {h : Heap} : ∀ {ds ds' : List D} {vs vs' : List Value}, Rs X h vs ds → Rs X h vs' ds' → Rs X h (vs ++ vs') (ds ++ ds')
  | [], ds', vs, vs', r, r' => by rw [Rs] at r; subst r; exact r'
  | d :: ds, ds', vs, vs', r, r' => by
    rw [Rs] at r
    obtain ⟨v, ws, rfl, h1, h2⟩ := r
    rw [List.cons_append, List.cons_append, Rs]
    exact ⟨v, _, rfl, h1, Rs.append h2 r'⟩
theorem Rs.drop {X : Addr → Prop} {h : Heap} : ∀ {ds : List D} {vs : List Value} (n : Nat), Rs X h vs ds → Rs X h (vs.drop n) (ds.drop n)
  | ds, vs, 0, r => r
  | [], vs, n + 1, r => by rw [Rs] at r; subst r; simp [Rs]
  | d :: ds, vs, n + 1, r => by
    rw [Rs] at r
    obtain ⟨v, ws, rfl, h1, h2⟩ := r
    simpa using Rs.drop n h2
theorem Rs.one {X : Addr → Prop} {h : Heap} {v : Value} {d : D} (r : R X h v d) : Rs X h [v] [d] := by
  rw [Rs]; exact ⟨v, [], rfl, r, by rw [Rs]⟩
theorem Rs.replicate {X : Addr → Prop} {h : Heap} {v : Value} {d : D} (r : R X h v d) : ∀ n, Rs X h (List.replicate n v) (List.replicate n d)
  | 0 => by rw [List.replicate_zero, List.replicate_zero, Rs]
  | n + 1 => by rw [List.replicate_succ, List.replicate_succ, Rs]; exact ⟨v, _, rfl, r, Rs.replicate r n⟩
theorem Rs.set {X : Addr → Prop} {h : Heap} {v : Value} {d : D} (r : R X h v d) : ∀ {ds : List D} {vs : List Value} (n : Nat), Rs X h vs ds → Rs X h (vs.set n v) (ds.set n d)
  | [], vs, n, rs => by rw [Rs] at rs; subst rs; simp [Rs]
  | d' :: ds, vs, 0, rs => by
    rw [Rs] at rs
    obtain ⟨w, ws, rfl, h1, h2⟩ := rs
    simp only [List.set]
    rw [Rs]; exact ⟨v, ws, rfl, r, h2⟩
  | d' :: ds, vs, n + 1, rs => by
    rw [Rs] at rs
    obtain ⟨w, ws, rfl, h1, h2⟩ := rs
    simp only [List.set]
    rw [Rs]; exact ⟨w, _, rfl, h1, Rs.set r n h2⟩

/-- what an evaluation leaves: the heap has grown, the value is d -/
noncomputable def Ev (X : Addr → Prop) (s : Shared) (d : D) (v : Value) (s' : Shared) : Prop := Keeps s s' ∧ R X s'.heap v d
theorem keeps_refl (s : Shared) : Keeps s s := ⟨s.heap, s.toks, rfl, fun _ _ e => e⟩
theorem keeps_trans {s s' s'' : Shared} (x : Keeps s s') (y : Keeps s' s'') : Keeps s s'' := by
  obtain ⟨h, t, rfl, e⟩ := x
  obtain ⟨h', t', rfl, e'⟩ := y
  exact ⟨h', t', rfl, fun b o q => e' b o (e b o q)⟩
theorem keeps_ext {s s' : Shared} (x : Keeps s s') : Ext s.heap s'.heap := by
  obtain ⟨h, t, rfl, e⟩ := x
  exact e
theorem keeps_tok (s : Shared) (t : Nat) : Keeps s { s with toks := t } := ⟨s.heap, t, rfl, fun _ _ e => e⟩
theorem keeps_push (s : Shared) (o : Obj) (t : Nat) : Keeps s { s with heap := s.heap.push o, toks := t } := ⟨_, t, rfl, fun _ _ e => Heap.get?_push_of_some o e⟩

/-- room around -/
structure AOk (n : Nat) (A : Around) : Prop where
  hd : A.handled = none
  dp : A.depth + n < 600
  un : A.units + 20 * n < 9000

section
variable {prog : Program} {w : World} {A : Around} {X : Addr → Prop} {s : Shared} {n : Nat} {G : Value → Shared → Prop}

theorem flat_any {X X' : Addr → Prop} {h h' : Heap} {v : Value} {d : D} (hf : d.flat = true) (r : R X h v d) : R X' h' v d := by
  cases d <;> first | (rw [R] at r ⊢; exact r) | cases hf

theorem int_inv {h : Heap} {v : Value} {i : Int} (r : R X h v (.int i)) : ∃ t, v = .int i t := by rw [R] at r; exact r
theorem str_inv {h : Heap} {v : Value} {l : List Nat} (r : R X h v (.str l)) : ∃ s t, v = .str s t ∧ s.cps.toList = l ∧ (∀ c ∈ l, c < 128) ∧ l.length ≤ cap := by rw [R] at r; exact r
theorem bool_inv {h : Heap} {v : Value} {b : Bool} (r : R X h v (.bool b)) : v = .bool b := by rw [R] at r; exact r
theorem list_inv {h : Heap} {v : Value} {l : List D} (r : R X h v (.list l)) : ∃ a vs o, v = .ref a ∧ ¬ X a ∧ (h.get? a = some o ∧ LObj o vs) ∧ l.length ≤ cap ∧ Rs X h vs l := by rw [R] at r; exact r
theorem LObj.isList {h : Heap} {a : Addr} {o : Obj} {vs : List Value} (g : h.get? a = some o ∧ LObj o vs) : h.IsList a vs.toArray := let ⟨g, c, k, d⟩ := g; ⟨o, g, c, k, d⟩
theorem tup_inv {h : Heap} {v : Value} {l : List D} (r : R X h v (.tup l)) : ∃ a vs o, v = .ref a ∧ ¬ X a ∧ (h.get? a = some o ∧ TObj o vs) ∧ l.length ≤ cap ∧ Rs X h vs l := by rw [R] at r; exact r

theorem ev_int {i : Int} {t tk : Nat} : Ev X s (.int i) (.int i t) { s with toks := tk } := ⟨keeps_tok s tk, by rw [R]; exact ⟨t, rfl⟩⟩
theorem ev_bool {b : Bool} : Ev X s (.bool b) (.bool b) s := ⟨keeps_refl s, by rw [R]⟩
/-- a new list -/
theorem ev_newList (hx : XB X s.heap) {vs : List Value} {ds : List D} {k tk : Nat} (r : Rs X s.heap vs ds) (hl : ds.length ≤ cap) :
    Ev X s (.list ds) (.ref s.heap.objs.size) { s with heap := s.heap.push (lobj vs k), toks := tk } := by
  refine ⟨keeps_push s _ _, ?_⟩
  rw [R]
  exact ⟨_, vs, lobj vs k, rfl, hx.fresh, ⟨Heap.get?_push_size _ rfl, rfl, k, rfl⟩, hl, r.ext (Ext.push s.heap _)⟩
theorem ev_newTuple (hx : XB X s.heap) {vs : List Value} {ds : List D} {k tk : Nat} (r : Rs X s.heap vs ds) (hl : ds.length ≤ cap) :
    Ev X s (.tup ds) (.ref s.heap.objs.size) { s with heap := s.heap.push (tobj vs k), toks := tk } := by
  refine ⟨keeps_push s _ _, ?_⟩
  rw [R]
  exact ⟨_, vs, tobj vs k, rfl, hx.fresh, ⟨Heap.get?_push_size _ rfl, rfl, k, rfl⟩, hl, r.ext (Ext.push s.heap _)⟩

noncomputable def bopOf : Bop → Operator
  | .add => .Add
  | .sub => .Sub
  | .mul => .Mult
  | .mod => .Mod

theorem small_bits {a : Int} (h : small a = true) : Builtin.Int.intBits a ≤ 64 := by
  unfold small at h
  simp only [decide_eq_true_eq] at h
  exact PySem.intBits_le_64 (by lia) (by lia)

theorem reps_toList (c : Array Nat) : ∀ k, ((List.replicate k c).foldl (· ++ ·) #[]).toList = (List.replicate k c.toList).flatten := by
  have key : ∀ k (acc : Array Nat), ((List.replicate k c).foldl (· ++ ·) acc).toList = acc.toList ++ (List.replicate k c.toList).flatten := by
    intro k
    induction k with
    | zero => intro acc; simp
    | succ k ih => intro acc; rw [List.replicate_succ, List.foldl_cons, ih, List.replicate_succ, List.flatten_cons]; simp
  intro k
  simpa using key k #[]

theorem txt_mul {x : Str} {k : Int} (h0 : 0 ≤ k) : (Txt.mul x k).cps.toList = (List.replicate k.toNat x.cps.toList).flatten := by
  unfold Txt.mul
  split
  · rename_i h1
    have : k = 0 := by lia
    subst this
    simp [Str.empty]
  · split
    · rename_i h1 h2
      simp only [Bool.or_eq_true, beq_iff_eq] at h2
      rcases h2 with h2 | h2
      · subst h2; simp
      · have he : x.cps.toList = [] := by
          have : x.cps.size = 0 := h2
          exact List.eq_nil_of_length_eq_zero (by simpa using this)
        rw [he]; simp
    · exact reps_toList x.cps k.toNat

theorem binD_sound (ao : AOk n A) (hx : XB X s.heap) {o : Bop} {a b d : D} {va vb : Value} (ra : R X s.heap va a) (rb : R X s.heap vb b) (h : binD o a b = some d) :
    wpAny (model prog w) A (binaryOp (bopOf o) va vb) (Ev X s d) G s := by
  cases o <;> cases a <;> cases b <;> first | (simp [binD] at h; done) | skip
  · -- int + int
    obtain ⟨t, rfl⟩ := int_inv ra
    obtain ⟨u, rfl⟩ := int_inv rb
    simp only [binD, Option.some.injEq] at h
    subst h
    exact PyProof.Rows.add_int ev_int
  · -- str + str
    obtain ⟨x, t, rfl, e1, c1, l1⟩ := str_inv ra
    obtain ⟨y, u, rfl, e2, c2, l2⟩ := str_inv rb
    simp only [binD] at h
    split at h
    · rename_i hle
      cases h
      have sz : x.length + y.length ≤ sizeLine := by
        have h1 : x.length = x.cps.toList.length := by simp [Str.length]
        have h2 : y.length = y.cps.toList.length := by simp [Str.length]
        rw [h1, h2, e1, e2]
        exact Nat.le_trans hle (by decide)
      refine PyProof.Rows.add_str (hsz := sz) fun t' tk => ⟨keeps_tok s tk, ?_⟩
      rw [R]
      refine ⟨_, t', rfl, ?_, ?_, by rw [List.length_append]; exact hle⟩
      · rw [Str.cps_append, Array.toList_append, e1, e2]
      · intro c hc
        rcases List.mem_append.mp hc with hc | hc
        · exact c1 c hc
        · exact c2 c hc
    · cases h
  · -- list + list
    obtain ⟨p, vs, ⟨cls, dd, data, sl⟩, rfl, hp, ⟨g1, hc1, k, hd1⟩, l1, r1⟩ := list_inv ra
    obtain ⟨q, ws, ⟨cls2, dd2, data2, sl2⟩, rfl, hq, ⟨g2, hc2, k2, hd2⟩, l2, r2⟩ := list_inv rb
    simp only at hc1 hd1 hc2 hd2
    subst hc1 hd1 hc2 hd2
    simp only [binD] at h
    split at h
    · rename_i hle
      cases h
      have e : vs.toArray ++ ws.toArray = (vs ++ ws).toArray := by simp
      have sz : vs.toArray.size + ws.toArray.size ≤ sizeLine := by
        simp only [List.size_toArray]
        rw [r1.length, r2.length]
        exact Nat.le_trans hle (by decide)
      refine concat_meets ⟨_, g1, rfl⟩ ⟨_, g2, rfl⟩ noFill_list_add seq_list_add PySem.F.slot_list_add PySem.F.entry_list_add (PySem.F.args_list_add_2 _ _) (PyProof.Rows.list_addW p q vs.toArray ws.toArray k k2 dd dd2 sl sl2 sz) ⟨g1, g2, ?_⟩
      rw [e]
      exact ev_newList (k := 0) hx (r1.append r2) (by rw [List.length_append]; exact hle)
    · cases h
  · -- int - int
    obtain ⟨t, rfl⟩ := int_inv ra
    obtain ⟨u, rfl⟩ := int_inv rb
    simp only [binD, Option.some.injEq] at h
    subst h
    exact PyProof.Rows.sub_int ev_int
  · -- int * int
    obtain ⟨t, rfl⟩ := int_inv ra
    obtain ⟨u, rfl⟩ := int_inv rb
    simp only [binD] at h
    split at h
    · rename_i hs
      cases h
      rw [Bool.and_eq_true] at hs
      exact PyProof.Rows.mul_int ev_int (hm := IntMulOk.of_left (small_bits hs.1))
    · cases h
  · -- str * int
    obtain ⟨x, t, rfl, e1, c1, l1⟩ := str_inv ra
    obtain ⟨u, rfl⟩ := int_inv rb
    rename_i xs k
    simp only [binD] at h
    split at h
    · rename_i hs
      cases h
      have hlen : x.length = xs.length := by rw [← e1]; simp [Str.length]
      have hk : k.toNat ≤ 1000 := by lia
      have hmul : xs.length * k.toNat ≤ 1000 * 1000 := Nat.mul_le_mul hs.2.2 hk
      refine SB.mul (x := x) (n := k) ⟨?_, ?_, ?_⟩ fun t' tk => ⟨keeps_tok s tk, ?_⟩
      · simp; lia
      · intro h1 _ hgt
        have : (x.length : Int) ≤ 1000 := by rw [hlen]; lia
        have h9 : (1001 : Int) ≤ (2 ^ 63 - 1) / k := Int.le_ediv_of_mul_le (by lia) (by lia)
        lia
      · intro _ _
        unfold Builtin.Str.tooLong
        simp
        rw [hlen]
        exact Nat.le_trans hmul (by decide)
      · rw [R]
        refine ⟨_, t', rfl, ?_, ?_, ?_⟩
        · rw [txt_mul hs.1, e1]
        · intro c hc
          obtain ⟨l, hl, hcl⟩ := List.mem_flatten.mp hc
          rw [(List.mem_replicate.mp hl).2] at hcl
          exact c1 c hcl
        · simp only [List.length_flatten, List.map_replicate, List.sum_replicate_nat]
          rw [Nat.mul_comm]
          exact Nat.le_trans hmul (by decide)
    · cases h
  · -- int % int
    obtain ⟨t, rfl⟩ := int_inv ra
    obtain ⟨u, rfl⟩ := int_inv rb
    simp only [binD] at h
    split at h
    · rename_i hs
      cases h
      refine PyProof.Rows.mod_int (by lia) ?_
      rw [Int.fmod_eq_emod_of_nonneg _ (by lia)]
      exact ev_int
    · cases h
end
end Mine
namespace Mine
open PySem PySem.SeqAt
open AutoSeq1 (wpAny_loadPart')
open MeetsSeq MeetsSeq2 MeetsSeq3 SeqRoads2

/-! equality -/
mutual
noncomputable def toPy : D → PyData
  | .bool b => .bool b
  | .int i => .int i
  | .str l => .str ⟨l.toArray⟩
  | .list l => .list (toPys l)
  | .tup l => .tuple (toPys l)
  | _ => .none
noncomputable def toPys : List D → List PyData
  | [] => []
  | d :: ds => toPy d :: toPys ds
end

theorem sh0_reads {X : Addr → Prop} {h : Heap} {v : Value} {d : D} (hs : sh0 d = true) (r : R X h v d) : Reads h v (toPy d) [] ∧ (toPy d).canLay0 = true ∧ (toPy d).depth = 0 := by
  cases d with
  | bool b => have := bool_inv r; subst this; exact ⟨.bool _, rfl, rfl⟩
  | int i => obtain ⟨t, rfl⟩ := int_inv r; exact ⟨.int _ _, rfl, rfl⟩
  | str l =>
    obtain ⟨x, t, rfl, e, c, _⟩ := str_inv r
    have hx : x = ⟨l.toArray⟩ := by
      obtain ⟨c⟩ := x
      simp only at e
      subst e
      simp
    subst hx
    refine ⟨.str _ _, ?_, rfl⟩
    simp only [toPy, PyData.canLay0, PyData.strOk, List.all_toArray', List.all_eq_true, decide_eq_true_eq]
    intro k hk
    have := c k hk
    lia
  | list _ => cases hs
  | tup _ => cases hs
  | rng _ => cases hs
  | ty _ => cases hs
theorem all0_reads {X : Addr → Prop} {h : Heap} : ∀ {ds : List D} {vs : List Value}, ds.all sh0 = true → Rs X h vs ds → ReadsAll h vs (toPys ds) [] ∧ PyData.canLayAll0 (toPys ds) = true ∧ PyData.depthAll (toPys ds) = 0
  | [], vs, _, r => by rw [Rs] at r; subst r; exact ⟨.nil, rfl, rfl⟩
  | d :: ds, vs, hs, r => by
    rw [Rs] at r
    obtain ⟨v, vs', rfl, h1, h2⟩ := r
    simp only [List.all_cons, Bool.and_eq_true] at hs
    obtain ⟨a1, a2, a3⟩ := sh0_reads hs.1 h1
    obtain ⟨b1, b2, b3⟩ := all0_reads hs.2 h2
    exact ⟨.cons a1 b1, by simp [toPys, PyData.canLayAll0, a2, b2], by simp [toPys, PyData.depthAll, a3, b3]⟩
theorem sh1_reads {X : Addr → Prop} {h : Heap} {v : Value} {d : D} (hs : sh1 d = true) (r : R X h v d) : ∃ as, Reads h v (toPy d) as ∧ (toPy d).canLay0 = true ∧ (toPy d).depth ≤ 1 := by
  have flat : sh0 d = true → ∃ as, Reads h v (toPy d) as ∧ (toPy d).canLay0 = true ∧ (toPy d).depth ≤ 1 := fun h0 => by
    obtain ⟨a1, a2, a3⟩ := sh0_reads h0 r
    exact ⟨_, a1, a2, by lia⟩
  cases d with
  | list l =>
    obtain ⟨a, vs, o, rfl, _, ⟨hg, hcl, k, hda⟩, _, hr⟩ := list_inv r
    obtain ⟨b1, b2, b3⟩ := all0_reads (by simpa [sh1] using hs) hr
    exact ⟨_, .list hg hcl hda b1, by simpa [toPy, PyData.canLay0] using b2, by simp [toPy, PyData.depth, b3]⟩
  | tup l =>
    obtain ⟨a, vs, o, rfl, _, ⟨hg, hcl, k, hda⟩, _, hr⟩ := tup_inv r
    obtain ⟨b1, b2, b3⟩ := all0_reads (by simpa [sh1] using hs) hr
    exact ⟨_, .tuple hg hcl hda b1, by simpa [toPy, PyData.canLay0] using b2, by simp [toPy, PyData.depth, b3]⟩
  | bool _ => exact flat hs
  | int _ => exact flat hs
  | str _ => exact flat hs
  | rng _ => cases hs
  | ty _ => cases hs
theorem all1_reads {X : Addr → Prop} {h : Heap} : ∀ {ds : List D} {vs : List Value}, ds.all sh1 = true → Rs X h vs ds → ∃ as, ReadsAll h vs (toPys ds) as ∧ PyData.canLayAll0 (toPys ds) = true ∧ PyData.depthAll (toPys ds) ≤ 1
  | [], vs, _, r => by rw [Rs] at r; subst r; exact ⟨_, .nil, rfl, Nat.zero_le _⟩
  | d :: ds, vs, hs, r => by
    rw [Rs] at r
    obtain ⟨v, vs', rfl, h1, h2⟩ := r
    simp only [List.all_cons, Bool.and_eq_true] at hs
    obtain ⟨_, a1, a2, a3⟩ := sh1_reads hs.1 h1
    obtain ⟨_, b1, b2, b3⟩ := all1_reads hs.2 h2
    exact ⟨_, .cons a1 b1, by simp [toPys, PyData.canLayAll0, a2, b2], by simp only [toPys, PyData.depthAll]; lia⟩
theorem sh2_reads {X : Addr → Prop} {h : Heap} {v : Value} {d : D} (hs : sh2 d = true) (r : R X h v d) : ∃ as, Reads h v (toPy d) as ∧ (toPy d).canLay0 = true ∧ (toPy d).depth ≤ 2 := by
  have flat : sh0 d = true → ∃ as, Reads h v (toPy d) as ∧ (toPy d).canLay0 = true ∧ (toPy d).depth ≤ 2 := fun h0 => by
    obtain ⟨a1, a2, a3⟩ := sh0_reads h0 r
    exact ⟨_, a1, a2, by lia⟩
  cases d with
  | list l =>
    obtain ⟨a, vs, o, rfl, _, ⟨hg, hcl, k, hda⟩, _, hr⟩ := list_inv r
    obtain ⟨_, b1, b2, b3⟩ := all1_reads (by simpa [sh2] using hs) hr
    exact ⟨_, .list hg hcl hda b1, by simpa [toPy, PyData.canLay0] using b2, by simp only [toPy, PyData.depth]; lia⟩
  | tup l =>
    obtain ⟨a, vs, o, rfl, _, ⟨hg, hcl, k, hda⟩, _, hr⟩ := tup_inv r
    obtain ⟨_, b1, b2, b3⟩ := all1_reads (by simpa [sh2] using hs) hr
    exact ⟨_, .tuple hg hcl hda b1, by simpa [toPy, PyData.canLay0] using b2, by simp only [toPy, PyData.depth]; lia⟩
  | bool _ => exact flat hs
  | int _ => exact flat hs
  | str _ => exact flat hs
  | rng _ => cases hs
  | ty _ => cases hs

theorem str_beqL (a b : List Nat) : ((⟨a.toArray⟩ : PySem.Str) == ⟨b.toArray⟩) = (a == b) := by
  rw [Bool.eq_iff_iff]
  simp only [beq_iff_eq]
  constructor
  · intro h
    have := congrArg (fun x : PySem.Str => x.cps.toList) h
    simpa using this
  · rintro rfl; rfl
mutual
theorem eqD_eqv : ∀ (a b : D) (r : Bool), eqD a b = some r → PyData.eqv (toPy a) (toPy b) = r
  | a, b, r, h => by
    cases a <;> cases b <;> first | (simp [eqD] at h; done) | skip
    · simp only [eqD, Option.some.injEq] at h; simp only [toPy, PyData.eqv]; exact h
    · simp only [eqD, Option.some.injEq] at h; simp only [toPy, PyData.eqv]; exact h
    · simp only [eqD, Option.some.injEq] at h; simp only [toPy, PyData.eqv, str_beqL]; exact h
    · simp only [eqD] at h; simp only [toPy, PyData.eqv]; exact eqL_eqv _ _ r h
    · simp only [eqD] at h; simp only [toPy, PyData.eqv]; exact eqL_eqv _ _ r h
theorem eqL_eqv : ∀ (a b : List D) (r : Bool), eqL a b = some r → PyData.eqvAll (toPys a) (toPys b) = r
  | [], [], r, h => by simp only [eqL, Option.some.injEq] at h; simp only [toPys, PyData.eqvAll]; exact h
  | [], _ :: _, r, h => by simp only [eqL, Option.some.injEq] at h; simp only [toPys, PyData.eqvAll]; exact h
  | _ :: _, [], r, h => by simp only [eqL, Option.some.injEq] at h; simp only [toPys, PyData.eqvAll]; exact h
  | x :: xs, y :: ys, r, h => by
    simp only [eqL] at h
    simp only [toPys, PyData.eqvAll]
    split at h
    · rename_i e
      rw [eqD_eqv x y true e, eqL_eqv xs ys r h]; rfl
    · rename_i e
      cases h
      rw [eqD_eqv x y false e]; rfl
    · cases h
end
mutual
theorem eqD_symm : ∀ (a b : D), eqD a b = eqD b a
  | a, b => by
    cases a <;> cases b <;> first | (simp only [eqD]; done) | (simp only [eqD]; congr 1; rw [Bool.eq_iff_iff, beq_iff_eq, beq_iff_eq]; exact eq_comm) | skip
    · simp only [eqD]; exact eqL_symm _ _
    · simp only [eqD]; exact eqL_symm _ _
theorem eqL_symm : ∀ (a b : List D), eqL a b = eqL b a
  | [], [] => rfl
  | [], _ :: _ => rfl
  | _ :: _, [] => rfl
  | x :: xs, y :: ys => by simp only [eqL, eqD_symm x y, eqL_symm xs ys]
end

/-! below, on pairs -/
noncomputable def LtAt (A : Around) (s : Shared) (x y : Value) (r : Bool) : Prop := ∀ (prog : Program) (w : World) (G Q : Value → Shared → Prop), Q (.bool r) s → wpAny (model prog w) A (richCompare .Lt x y) Q G s

theorem tuple_lt2 (l b : Addr) (n n2 : Nat) (dl db : Option Addr) (sl sb : Array (Option Value)) (x0 x1 y0 y1 : Value) (e0 e1 r0 r1 : Bool) :
    Meets (Builtin.«tuple.__lt__» ⟨[.ref l, .ref b], []⟩)
      (fun A R s => s.heap.get? l = some { cls := .type "tuple", dict := dl, data := .seq #[x0, x1] n, slots := sl } ∧ s.heap.get? b = some { cls := .type "tuple", dict := db, data := .seq #[y0, y1] n2, slots := sb } ∧
        EqAt A.in1 s x0 y0 e0 ∧ EqAt A.in1 s x1 y1 e1 ∧ (e0 = false → LtAt A.in1 s x0 y0 r0) ∧ (e1 = false → LtAt A.in1 s x1 y1 r1) ∧
        R (.ok (.ret (.bool (if e0 = false then r0 else if e1 = false then r1 else false)))) s) :=
  .of_wp fun prog w A R s h => by
    obtain ⟨hp, g, d, tk, os⟩ := s; obtain ⟨hl, hb, h0, h1, l0, l1, h⟩ := h
    have f2 := AutoSeq1.sub_tuple_tuple
    wp_walk using wpAny_loadPart' hl, wpAny_loadPart' hb, wpAny_forIn_list _ (fun rest b s' => b.1 = none ∧ s' = ⟨hp, g, d, tk, os⟩ ∧
      ((rest = [(x0, y0), (x1, y1)]) ∨ (rest = [(x1, y1)] ∧ e0 = true) ∨ (rest = [] ∧ e0 = true ∧ e1 = true))) _
    case turn =>
      rintro ⟨y, x⟩ rest b s' ⟨hb', rfl, hz⟩
      rcases hz with hz | ⟨hz, he⟩ | ⟨hz, _⟩
      · cases hz
        refine wpAny_bind (h0 prog w _ _ ?_)
        cases hy : e0 with
        | true =>
          subst hy
          wp_walk
          exact ⟨rfl, rfl, .inr (.inl ⟨rfl, rfl⟩)⟩
        | false =>
          subst hy
          simp only [if_true] at h
          simp only [Bool.not_false, if_true]
          refine wpAny_bind (wpAny_rule (wpAny_bind (l0 rfl prog w _ _ ?_)))
          wp_walk
          exact ⟨_, rfl, h⟩
      · cases hz
        subst he
        refine wpAny_bind (h1 prog w _ _ ?_)
        cases hy : e1 with
        | true =>
          subst hy
          wp_walk
          exact ⟨rfl, rfl, .inr (.inr ⟨rfl, rfl, rfl⟩)⟩
        | false =>
          subst hy
          simp only [Bool.true_eq_false, if_false, if_true] at h
          simp only [Bool.not_false, if_true]
          refine wpAny_bind (wpAny_rule (wpAny_bind (l1 rfl prog w _ _ ?_)))
          wp_walk
          exact ⟨_, rfl, h⟩
      · cases hz
    case fin =>
      rintro ⟨b1, b2⟩ s' ⟨hb', rfl, hz⟩
      simp only at hb'
      subst hb'
      rcases hz with hz | ⟨hz, _⟩ | ⟨_, he0, he1⟩
      · cases hz
      · cases hz
      · subst he0 he1
        simp only [Bool.true_eq_false, if_false] at h
        wp_walk
        exact ⟨_, rfl, by simpa [Builtin.Tuple.tupleCompareSizes] using h⟩
    case h =>
      exact ⟨rfl, rfl, .inl rfl⟩
end Mine
namespace Mine
open PySem PySem.SeqAt

section
variable {prog : Program} {w : World} {A : Around} {X : Addr → Prop} {s : Shared} {n : Nat} {G : Value → Shared → Prop}

theorem AOk.line (ao : AOk n A) : A.units + 100 < cLine := by
  have := ao.un
  show A.units + 100 < 9900
  lia

theorem strLt_eqv (x y : List Nat) : decide (x < y) = strLt x y := by
  induction x generalizing y with
  | nil =>
    cases y with
    | nil => simp [strLt]
    | cons b y => simp [strLt]
  | cons a x ih =>
    cases y with
    | nil => simp [strLt]
    | cons b y =>
      simp only [strLt, ← ih]
      by_cases h1 : a < b
      · simp [h1, List.cons_lt_cons_iff]
      · by_cases h2 : b < a
        · have : a ≠ b := by lia
          simp [h1, h2, List.cons_lt_cons_iff, this]
        · have : a = b := by lia
          subst this
          simp [List.cons_lt_cons_iff]

theorem ltAt_int {a b : Int} {t u : Tok} (A : Around) (s : Shared) : LtAt A s (.int a t) (.int b u) (decide (a < b)) := fun prog w G Q h => PyProof.Rows.lt_int (prog := prog) (w := w) (A := A) (E := G) (t := t) (u := u) h
theorem ltAt_str {x y : Str} {t u : Tok} (A : Around) (s : Shared) : LtAt A s (.str x t) (.str y u) (strLt x.cps.toList y.cps.toList) := fun prog w G Q h => by
  refine PyProof.Rows.lt_str (prog := prog) (w := w) (A := A) (E := G) (t := t) (u := u) ?_
  rw [strLt_eqv]; exact h

noncomputable def copOf : Cop → CmpOp
  | .eq => .Eq
  | .ne => .NotEq
  | .lt => .Lt
  | .ge => .GtE
  | .is => .Is
  | .mem => .In

theorem eqT_sound (ao : AOk n A) {a b : D} {r : Bool} {va vb : Value} (ra : R X s.heap va a) (rb : R X s.heap vb b) (h : eqT a b = some r) :
    wpAny (model prog w) A (compareOp .Eq va vb) (Ev X s (.bool r)) G s ∧ wpAny (model prog w) A (compareOp .NotEq va vb) (Ev X s (.bool (!r))) G s := by
  have gen : sh2 a = true → sh2 b = true → eqD a b = some r → wpAny (model prog w) A (compareOp .Eq va vb) (Ev X s (.bool r)) G s ∧ wpAny (model prog w) A (compareOp .NotEq va vb) (Ev X s (.bool (!r))) G s := by
    intro h1 h2 h3
    obtain ⟨as, a1, a2, a3⟩ := sh2_reads h1 ra
    obtain ⟨bs, b1, b2, b3⟩ := sh2_reads h2 rb
    have hu : A.units + min (toPy a).depth (toPy b).depth < cLine := by
      have := ao.line
      have : min (toPy a).depth (toPy b).depth ≤ 2 := Nat.le_trans (Nat.min_le_left _ _) a3
      lia
    have he := eqD_eqv a b r h3
    refine ⟨compareEq_reads a1 b1 a2 b2 hu ?_, compareNe_reads a1 b1 a2 b2 hu ?_⟩
    · rw [he]; exact ev_bool
    · rw [he]; exact ev_bool
  have i0 : ∀ i, sh2 (.int i) = true := fun _ => rfl
  have s0 : ∀ i, sh2 (.str i) = true := fun _ => rfl
  have b0 : ∀ i, sh2 (.bool i) = true := fun _ => rfl
  unfold eqT at h
  split at h
  · exact gen rfl rfl (by simp only [eqD]; exact h)
  · exact gen rfl rfl (by simp only [eqD]; exact h)
  · exact gen rfl rfl (by simp only [eqD]; exact h)
  · split at h
    · rename_i hs
      rw [Bool.and_eq_true] at hs
      exact gen hs.1 hs.2 h
    · cases h

theorem toPys_any (x : D) : ∀ (l : List D) (r : Bool), memD x l = some r → ((toPys l).any fun y => PyData.eqv y (toPy x)) = r
  | [], r, h => by simp only [memD, Option.some.injEq] at h; simp [toPys, h]
  | y :: ys, r, h => by
    simp only [memD] at h
    simp only [toPys, List.any_cons]
    split at h
    · rename_i e
      cases h
      rw [eqD_eqv y x true (by rw [eqD_symm]; exact e)]; rfl
    · rename_i e
      rw [eqD_eqv y x false (by rw [eqD_symm]; exact e), toPys_any x ys r h]; rfl
    · cases h

theorem cmpD_sound (ao : AOk n A) {o : Cop} {a b : D} {r : Bool} {va vb : Value} (ra : R X s.heap va a) (rb : R X s.heap vb b) (h : cmpD o a b = some r) :
    wpAny (model prog w) A (compareOp (copOf o) va vb) (Ev X s (.bool r)) G s := by
  cases o with
  | eq => exact (eqT_sound ao ra rb h).1
  | ne =>
    simp only [cmpD, Option.map_eq_some_iff] at h
    obtain ⟨r', h, rfl⟩ := h
    exact (eqT_sound ao ra rb h).2
  | lt =>
    simp only [cmpD] at h
    unfold ltD at h
    split at h
    · -- pairs
      rename_i i x j y
      obtain ⟨p, vs, ⟨_, dl, _, sl⟩, rfl, _, ⟨g1, hc1, k, hd1⟩, _, r1⟩ := tup_inv ra
      obtain ⟨q, ws, ⟨_, db, _, sb⟩, rfl, _, ⟨g2, hc2, k2, hd2⟩, _, r2⟩ := tup_inv rb
      cases hc1; cases hd1; cases hc2; cases hd2
      rw [Rs] at r1
      obtain ⟨v0, vs, rfl, e0, r1⟩ := r1
      rw [Rs] at r1
      obtain ⟨v1, vs, rfl, e1, r1⟩ := r1
      rw [Rs] at r1
      subst r1
      rw [Rs] at r2
      obtain ⟨w0, ws, rfl, f0, r2⟩ := r2
      rw [Rs] at r2
      obtain ⟨w1, ws, rfl, f1, r2⟩ := r2
      rw [Rs] at r2
      subst r2
      obtain ⟨t0, rfl⟩ := int_inv e0
      obtain ⟨u0, rfl⟩ := int_inv f0
      obtain ⟨x1, t1, rfl, ex, _⟩ := str_inv e1
      obtain ⟨y1, u1, rfl, ey, _⟩ := str_inv f1
      have hu : A.units < cLine := by have := ao.line; lia
      show wpAny (model prog w) A (richCompare .Lt _ _) _ _ _
      have hxy : (x1 == y1) = (x == y) := by
        rw [← str_beq, ex, ey]
      refine richCompare_meets_room (op := .Lt) ⟨_, g1, rfl⟩ ⟨_, g2, rfl⟩ F.slot_tuple_lt F.entry_tuple_lt (F.args_tuple_lt_2 _ _)
        (tuple_lt2 p q k k2 dl db sl sb _ _ _ _ (i == j) (x1 == y1) (decide (i < j)) (strLt x1.cps.toList y1.cps.toList))
        ⟨g1, g2, EqAt.int_int _ _ _ _, EqAt.str_str _ _ _ _, fun _ => ltAt_int _ _, fun _ => ltAt_str _ _, ?_⟩ hu
      refine ⟨(by intro e; cases e), ?_⟩
      have : (if (i == j) = false then decide (i < j) else if (x1 == y1) = false then strLt x1.cps.toList y1.cps.toList else false) = r := by
        simp only [Option.some.injEq] at h
        rw [← h]
        by_cases hij : i = j
        · subst hij
          simp only [beq_self_eq_true, Bool.true_eq_false, if_false, if_true]
          rw [hxy, ex, ey]
          by_cases hs : x = y
          · subst hs
            simp only [beq_self_eq_true, Bool.true_eq_false, if_false]
            have : ∀ l : List Nat, strLt l l = false := by
              intro l; induction l with
              | nil => rfl
              | cons c l ih => simp [strLt, ih]
            rw [this]
          · rw [if_pos (beq_eq_false_iff_ne.mpr hs)]
        · rw [if_pos (beq_eq_false_iff_ne.mpr hij), if_neg hij]
      rw [this]
      exact ev_bool
    · unfold ltFlat at h
      split at h
      · obtain ⟨t, rfl⟩ := int_inv ra
        obtain ⟨u, rfl⟩ := int_inv rb
        cases h
        exact ltAt_int A s prog w G _ ev_bool
      · obtain ⟨x, t, rfl, ex, _⟩ := str_inv ra
        obtain ⟨y, u, rfl, ey, _⟩ := str_inv rb
        cases h
        refine ltAt_str A s prog w G _ ?_
        rw [ex, ey]
        exact ev_bool
      · cases h
  | ge =>
    cases a <;> cases b <;> first | (simp [cmpD] at h; done) | skip
    obtain ⟨t, rfl⟩ := int_inv ra
    obtain ⟨u, rfl⟩ := int_inv rb
    simp only [cmpD, Option.some.injEq] at h
    subst h
    exact PyProof.Rows.ge_int ev_bool
  | is =>
    cases a <;> cases b <;> first | (simp [cmpD] at h; done) | skip
    rw [R] at ra rb
    subst ra rb
    simp only [cmpD, Option.some.injEq] at h
    subst h
    refine wpAny_is_plain rfl ?_
    rename_i p q
    rw [show (Value.type p == Value.type q) = (p == q) by rw [Bool.eq_iff_iff]; simp]
    exact ev_bool
  | mem =>
    cases b <;> first | (simp [cmpD] at h; done) | skip
    rename_i l
    simp only [cmpD, memT] at h
    split at h
    · rename_i hs
      rw [Bool.and_eq_true] at hs
      obtain ⟨p, vs, o, rfl, _, ⟨g1, hcl, k, hda⟩, _, r1⟩ := list_inv rb
      obtain ⟨as, a1, a2, a3⟩ := sh1_reads hs.1 ra
      obtain ⟨bs, b1, b2, b3⟩ := all1_reads hs.2 r1
      refine in_list_reads (.list g1 hcl hda b1) a1 b2 a2 ?_ ?_
      · have := ao.line
        have : min (PyData.depthAll (toPys l)) (toPy a).depth ≤ 1 := Nat.le_trans (Nat.min_le_left _ _) b3
        lia
      · rw [toPys_any a l r h]; exact ev_bool
    · cases h
end
end Mine
namespace Mine
open PySem PySem.SeqAt

section
variable {prog : Program} {w : World} {A : Around} {X : Addr → Prop} {s : Shared} {n : Nat} {G : Value → Shared → Prop}

theorem neg_sound {i : Int} {v : Value} (r : R X s.heap v (.int i)) : wpAny (model prog w) A (unaryOp .USub v) (Ev X s (.int (-i))) G s := by
  obtain ⟨t, rfl⟩ := int_inv r
  exact PyProof.Rows.neg_int ev_int

theorem cap_lt {l : List D} (h : l.length ≤ cap) : (l.length : Int) < 2 ^ 63 := by
  have : cap = 1000000 := rfl
  lia

theorem getItem_sound {a i d : D} {va vi : Value} (ra : R X s.heap va a) (ri : R X s.heap vi i) (h : idxD a i = some d) :
    (∃ T id, s.TypeIs va T ∧ typeLookup (.type T) "__getitem__" = pure (some (.builtin id))) ∧ (∃ k u, vi = .int k u) ∧ wpAny (model prog w) A (getItem va vi) (Ev X s d) G s := by
  cases a <;> cases i <;> first | (simp [idxD] at h; done) | skip
  · rename_i l k
    obtain ⟨p, vs, e, rfl, _, g, hl, rs⟩ := list_inv ra
    obtain ⟨t, rfl⟩ := int_inv ri
    have isl : s.heap.IsList p vs.toArray := LObj.isList g
    refine ⟨⟨"list", _, isl.typeIs, slot_list_getitem.lookup⟩, ⟨_, _, rfl⟩, ?_⟩
    have hlen := rs.length
    have hc : cap = 1000000 := rfl
    simp only [idxD, getL] at h
    split at h
    · rename_i h0
      obtain ⟨v, hv, rv⟩ := rs.get h
      have hlt : k.toNat < l.length := by
        rw [List.getElem?_eq_some_iff] at h
        exact h.1
      exact wpAny_getItem_list isl h0 (by lia) (by simpa using hv) ⟨keeps_refl s, rv⟩
    · split at h
      · rename_i h0 h1
        obtain ⟨v, hv, rv⟩ := rs.get h
        refine wpAny_getItem_list_neg isl (by lia) (by simp only [List.size_toArray]; lia) (by lia) (x := v) ?_ ⟨keeps_refl s, rv⟩
        simp only [List.size_toArray, hlen]
        simpa using hv
      · cases h
  · rename_i l k
    obtain ⟨p, vs, e, rfl, _, g, hl, rs⟩ := tup_inv ra
    obtain ⟨t, rfl⟩ := int_inv ri
    have ist : PyProof.Rows.IsTup s.heap p vs.toArray := ⟨_, g.1, g.2⟩
    refine ⟨⟨"tuple", _, ist.typeIs, PyProof.Rows.slot_tuple_getitem.lookup⟩, ⟨_, _, rfl⟩, ?_⟩
    have hlen := rs.length
    have hc : cap = 1000000 := rfl
    simp only [idxD, getL] at h
    split at h
    · rename_i h0
      obtain ⟨v, hv, rv⟩ := rs.get h
      have hlt : k.toNat < l.length := by
        rw [List.getElem?_eq_some_iff] at h
        exact h.1
      refine PyProof.Rows.getItem_tuple ist (by lia) (by lia) (j := k.toNat) (x := v) ?_ (by simpa using hv) ⟨keeps_refl s, rv⟩
      unfold seqIndex?
      simp only [List.size_toArray, hlen, show ¬ (k < 0) by lia, if_false]
      rw [if_pos (by simp; lia)]
    · split at h
      · rename_i h0 h1
        obtain ⟨v, hv, rv⟩ := rs.get h
        refine PyProof.Rows.getItem_tuple ist (by lia) (by lia) (j := (k + l.length).toNat) (x := v) ?_ (by simpa using hv) ⟨keeps_refl s, rv⟩
        unfold seqIndex?
        simp only [List.size_toArray, hlen, show k < 0 by lia, if_true]
        rw [if_pos (by simp; lia)]
      · cases h

theorem len_sound {a d : D} {va : Value} (ra : R X s.heap va a) (h : lenD a = some d) : wpAny (model prog w) A (call (.builtin "len") [va]) (Ev X s d) G s := by
  cases a <;> first | (simp [lenD] at h; done) | skip
  · rename_i l
    obtain ⟨x, t, rfl, e, _, hl⟩ := str_inv ra
    simp only [lenD, Option.some.injEq] at h
    subst h
    have hc : cap = 1000000 := rfl
    have : x.length = l.length := by rw [← e]; simp [Str.length]
    refine P.len_str (by rw [this]; lia) ?_
    rw [this]
    exact ev_int
  · rename_i l
    obtain ⟨p, vs, e, rfl, _, g, hl, rs⟩ := list_inv ra
    simp only [lenD, Option.some.injEq] at h
    subst h
    have hlen : vs.toArray.size = l.length := by simp [rs.length]
    refine PyProof.Rows.len_list (items := vs.toArray) (LObj.isList g) (by rw [hlen]; exact cap_lt hl) ?_
    rw [hlen]
    exact ev_int
  · rename_i l
    obtain ⟨p, vs, e, rfl, _, g, hl, rs⟩ := tup_inv ra
    simp only [lenD, Option.some.injEq] at h
    subst h
    have hlen : vs.toArray.size = l.length := by simp [rs.length]
    refine PyProof.Rows.len_tuple (items := vs.toArray) ⟨_, g.1, g.2⟩ (by rw [hlen]; exact cap_lt hl) ?_
    rw [hlen]
    exact ev_int

theorem max_sound (ao : AOk n A) {a b d : D} {va vb : Value} (ra : R X s.heap va a) (rb : R X s.heap vb b) (h : maxD a b = some d) : wpAny (model prog w) A (call (.builtin "max") [va, vb]) (Ev X s d) G s := by
  cases a <;> cases b <;> first | (simp [maxD] at h; done) | skip
  obtain ⟨t, rfl⟩ := int_inv ra
  obtain ⟨u, rfl⟩ := int_inv rb
  simp only [maxD, Option.some.injEq] at h
  subst h
  refine max_two_ints ao.hd fun h' tk hk => ⟨⟨h', tk, rfl, hk⟩, ?_⟩
  rw [R]
  split
  · exact ⟨u, rfl⟩
  · exact ⟨t, rfl⟩

theorem small_inv {i : Int} (h : small i = true) : -300000 ≤ i ∧ i ≤ 300000 := by
  unfold small at h; simpa using h

theorem rangeD_inv {a b c : Int} {d : D} (h : rangeD a b c = some d) : d = .rng (rngL a b c) ∧ small a = true ∧ small b = true ∧ small c = true ∧ c ≠ 0 := by
  unfold rangeD at h
  split at h
  · rename_i hs
    cases h
    simp only [Bool.and_eq_true, bne_iff_ne] at hs
    exact ⟨rfl, hs.1.1.1, hs.1.1.2, hs.1.2, hs.2⟩
  · cases h

theorem range1_sound (hx : XB X s.heap) {b : Int} {d : D} {vb : Value} (rb : R X s.heap vb (.int b)) (h : rangeD 0 b 1 = some d) : wpAny (model prog w) A (call (.type "range") [vb]) (Ev X s d) G s := by
  obtain ⟨t, rfl⟩ := int_inv rb
  obtain ⟨rfl, h1, h2, h3, h4⟩ := rangeD_inv h
  refine call_range_1 ⟨keeps_push s _ _, ?_⟩
  rw [R]
  exact ⟨_, 0, b, 1, _, _, _, rfl, hx.fresh, Heap.get?_push_size _ rfl, h1, h2, h3, h4, rfl⟩
theorem range3_sound (hx : XB X s.heap) {a b c : Int} {d : D} {va vb vc : Value} (ra : R X s.heap va (.int a)) (rb : R X s.heap vb (.int b)) (rc : R X s.heap vc (.int c)) (h : rangeD a b c = some d) :
    wpAny (model prog w) A (call (.type "range") [va, vb, vc]) (Ev X s d) G s := by
  obtain ⟨t, rfl⟩ := int_inv ra
  obtain ⟨u, rfl⟩ := int_inv rb
  obtain ⟨v, rfl⟩ := int_inv rc
  obtain ⟨rfl, h1, h2, h3, h4⟩ := rangeD_inv h
  have e1 := small_inv h1
  have e2 := small_inv h2
  have e3 := small_inv h3
  refine call_range_3 h4 ⟨keeps_push s _ _, ?_⟩ (hp := Or.inl (PyProof.noPylong_small (by lia)))
  rw [R]
  exact ⟨_, a, b, c, _, _, _, rfl, hx.fresh, Heap.get?_push_size _ rfl, h1, h2, h3, h4, rfl⟩

theorem type_sound {a d : D} {va : Value} (ra : R X s.heap va a) (h : typeD a = some d) : wpAny (model prog w) A (call (.type "type") [va]) (Ev X s d) G s := by
  have done : ∀ T, s.TypeIs va T → (Value.type T == Value.type "builtin_function_or_method") = false → d = .ty T → wpAny (model prog w) A (call (.type "type") [va]) (Ev X s d) G s := by
    rintro T hT hb rfl
    exact call_type_of hT hb ⟨keeps_refl s, by rw [R]⟩
  cases a <;> first | (simp [typeD] at h; done) | skip
  all_goals (simp only [typeD, Option.some.injEq] at h)
  · have := bool_inv ra; subst this
    exact done "bool" (typeIs_bool s _) (by decide) h.symm
  · obtain ⟨t, rfl⟩ := int_inv ra
    exact done "int" (typeIs_int s _ _) (by decide) h.symm
  · obtain ⟨x, t, rfl, _⟩ := str_inv ra
    exact done "str" (typeIs_str s _ _) (by decide) h.symm
  · obtain ⟨p, vs, e, rfl, _, g, _⟩ := list_inv ra
    exact done "list" (LObj.isList g).typeIs (by decide) h.symm
  · obtain ⟨p, vs, e, rfl, _, g, _⟩ := tup_inv ra
    exact done "tuple" ⟨_, g.1, g.2.1⟩ (by decide) h.symm

/-! iterators -/
structure Its (prog : Program) (w : World) (A : Around) (X : Addr → Prop) (h : Heap) (I : Addr) (ds : List D) (fp : List Addr) (P : Nat → Value → Prop) (St : Nat → Heap → Prop) : Prop where
  W : Walks prog w A I fp [I] ds.length P St
  old : ∀ b ∈ fp, b = I ∨ (¬ X b ∧ ∃ o, h.get? b = some o)
  live : ∀ i h', St i h' → ∃ o, h'.get? I = some o
  val : ∀ j v d, P j v → ds[j]? = some d → R X h v d
  inI : I ∈ fp

theorem rangeSize_eq {a b c : Int} (h : c ≠ 0) : Builtin.Range.rangeSize a b c = (rngN a b c : Int) := by
  unfold Builtin.Range.rangeSize rngN
  by_cases hc : c > 0
  · rw [if_pos hc, if_pos (show 0 < c by lia)]
    by_cases hab : a < b
    · rw [if_pos hab, show b - a + c - 1 = (b - a - 1) + c by lia, Int.add_ediv_of_dvd_right (Int.dvd_refl c), Int.ediv_self (by lia)]
      have : 0 ≤ (b - a - 1) / c := Int.ediv_nonneg (by lia) (by lia)
      lia
    · rw [if_neg hab]
      have : (b - a + c - 1) / c ≤ 0 := by
        have : (b - a + c - 1) / c < 1 := Int.ediv_lt_of_lt_mul (by lia) (by lia)
        lia
      lia
  · rw [if_neg hc, if_neg (show ¬ 0 < c by lia)]
    by_cases hab : a > b
    · rw [if_pos hab, show a - b + -c - 1 = (a - b - 1) + -c by lia, Int.add_ediv_of_dvd_right (Int.dvd_refl (-c)), Int.ediv_self (by lia)]
      have : 0 ≤ (a - b - 1) / -c := Int.ediv_nonneg (by lia) (by lia)
      lia
    · rw [if_neg hab]
      have : (a - b + -c - 1) / -c ≤ 0 := by
        have : (a - b + -c - 1) / -c < 1 := Int.ediv_lt_of_lt_mul (by lia) (by lia)
        lia
      lia
theorem rngN_le {a b c : Int} (ha : small a = true) (hb : small b = true) (hc : small c = true) (h : c ≠ 0) : rngN a b c ≤ cap := by
  have e1 := small_inv ha
  have e2 := small_inv hb
  have e3 := small_inv hc
  unfold rngN cap
  split
  · have : (b - a + c - 1) / c ≤ 1000000 := Int.ediv_le_of_le_mul (by lia) (by have : (1000000 : Int) * 1 ≤ 1000000 * c := Int.mul_le_mul_of_nonneg_left (by lia) (by lia); lia)
    lia
  · have : (a - b + -c - 1) / -c ≤ 1000000 := Int.ediv_le_of_le_mul (by lia) (by have : (1000000 : Int) * 1 ≤ 1000000 * -c := Int.mul_le_mul_of_nonneg_left (by lia) (by lia); lia)
    lia
theorem range_small {a b c : Int} (ha : small a = true) (hb : small b = true) (hc : small c = true) (h : c ≠ 0) : Builtin.Range.small a b c = true := by
  have e1 := small_inv ha
  have e2 := small_inv hb
  have e3 := small_inv hc
  have e4 := rngN_le ha hb hc h
  unfold cap at e4
  unfold Builtin.Range.small
  rw [rangeSize_eq h]
  have fit : ∀ i : Int, -8000000 ≤ i → i ≤ 8000000 → Builtin.Range.rangeFitsLong i = true := by
    intro i h1 h2
    unfold Builtin.Range.rangeFitsLong
    simp; lia
  simp only [fit a (by lia) (by lia), fit b (by lia) (by lia), fit c (by lia) (by lia), fit (rngN a b c) (by lia) (by lia), Bool.and_self, Bool.true_and, Bool.or_eq_true]
  right
  split
  · exact fit _ (by lia) (by lia)
  · exact fit _ (by lia) (by lia)

theorem iter_sound (ao : AOk n A) (hx : XB X s.heap) {d : D} {ds : List D} {v : Value} (r : R X s.heap v d) (h : items d = some ds) :
    wpAny (model prog w) A (pyIter v) (fun it s' => ∃ fp P St, it = .ref s.heap.objs.size ∧ Keeps s s' ∧ Its prog w A X s.heap s.heap.objs.size ds fp P St ∧ St 0 s'.heap ∧ s'.heap.objs.size = s.heap.objs.size + 1) G s ∧ ds.length ≤ cap := by
  have lt : ∀ b o, s.heap.get? b = some o → b ≠ s.heap.objs.size := fun b o e => Nat.ne_of_lt (Heap.lt_size e)
  cases d <;> first | (simp [items] at h; done) | skip
  · rename_i l
    simp only [items, Option.some.injEq] at h
    subst h
    obtain ⟨p, vs, e, rfl, hp, g, hl, rs⟩ := list_inv r
    have isl : s.heap.IsList p vs.toArray := LObj.isList g
    refine ⟨wpAny_pyIter_list isl ⟨[s.heap.objs.size, p], fun i v => vs.toArray[i]? = some v, fun i h => h.IsListIter s.heap.objs.size p i ∧ h.IsList p vs.toArray, rfl, keeps_push s _ _, ⟨?_, ?_, ?_, ?_, by simp⟩, ⟨⟨_, Heap.get?_push_size _ rfl, rfl, rfl⟩, isl.push _⟩, Heap.size_push ..⟩, hl⟩
    · have := Walks.list (prog := prog) (w := w) ao.hd s.heap.objs.size p (lt _ _ g.1) vs.toArray
      rw [show vs.toArray.size = l.length by simp [rs.length]] at this
      exact this
    · intro b hb
      rcases List.mem_cons.mp hb with rfl | hb
      · exact .inl rfl
      · rw [List.mem_singleton.mp hb]; exact .inr ⟨hp, _, g.1⟩
    · rintro i h' ⟨⟨o, ho, _⟩, _⟩
      exact ⟨o, ho⟩
    · intro j v d' hP hd
      obtain ⟨v', hv, rv⟩ := rs.get hd
      have : vs[j]? = some v := by simpa using hP
      rw [hv] at this
      cases this
      exact rv
  · rename_i l
    simp only [items, Option.some.injEq] at h
    subst h
    obtain ⟨p, vs, e, rfl, hp, g, hl, rs⟩ := tup_inv r
    have isl : s.heap.IsTuple p vs.toArray := ⟨_, g.1, g.2⟩
    refine ⟨wpAny_pyIter_tuple isl ⟨[s.heap.objs.size, p], fun i v => vs.toArray[i]? = some v, fun i h => h.IsTupleIter s.heap.objs.size p i ∧ h.IsTuple p vs.toArray, rfl, keeps_push s _ _, ⟨?_, ?_, ?_, ?_, by simp⟩, ⟨⟨_, Heap.get?_push_size _ rfl, rfl, rfl⟩, isl.push _⟩, Heap.size_push ..⟩, hl⟩
    · have := Walks.tuple (prog := prog) (w := w) ao.hd s.heap.objs.size p (lt _ _ g.1) vs.toArray
      rw [show vs.toArray.size = l.length by simp [rs.length]] at this
      exact this
    · intro b hb
      rcases List.mem_cons.mp hb with rfl | hb
      · exact .inl rfl
      · rw [List.mem_singleton.mp hb]; exact .inr ⟨hp, _, g.1⟩
    · rintro i h' ⟨⟨o, ho, _⟩, _⟩
      exact ⟨o, ho⟩
    · intro j v d' hP hd
      obtain ⟨v', hv, rv⟩ := rs.get hd
      have : vs[j]? = some v := by simpa using hP
      rw [hv] at this
      cases this
      exact rv
  · rename_i l
    simp only [items, Option.some.injEq] at h
    subst h
    rw [R] at r
    obtain ⟨p, x, y, z, t, u, q, rfl, hp, g, h1, h2, h3, h4, rfl⟩ := r
    have hlen : ((rngL x y z).map D.int).length = rngN x y z := by simp [rngL]
    refine ⟨wpAny_pyIter_range g (range_small h1 h2 h3 h4) ⟨[s.heap.objs.size], fun i v => ∃ t, v = .int (x + i * z) t, fun i h => IsRangeIter h s.heap.objs.size (x + (i : Nat) * z) ((rngN x y z : Int) - (i : Nat)) z, rfl, keeps_push s _ _, ⟨?_, ?_, ?_, ?_, by simp⟩, ?_, Heap.size_push ..⟩, ?_⟩
    · rw [hlen]
      exact Walks.range ao.hd s.heap.objs.size x z (rngN x y z)
    · intro b hb
      exact .inl (List.mem_singleton.mp hb)
    · intro i h' st
      exact ⟨_, st⟩
    · rintro j v d' ⟨t, rfl⟩ hd
      simp only [rngL, List.map_map, List.getElem?_map, Option.map_eq_some_iff] at hd
      obtain ⟨k, hk, rfl⟩ := hd
      rw [List.getElem?_eq_some_iff] at hk
      obtain ⟨hj, hk⟩ := hk
      rw [List.getElem_range] at hk
      subst hk
      show R X s.heap _ (.int _)
      rw [R]
      exact ⟨t, rfl⟩
    · rw [rangeSize_eq h4]
      have := Heap.get?_push_size s.heap (o := { cls := .type "range_iterator", data := .fields #[rawInt x, rawInt (rngN x y z : Int), rawInt z] }) rfl
      show (s.heap.push _).get? _ = some _
      rw [this]
      simp
    · rw [hlen]
      exact rngN_le h1 h2 h3 h4
end
end Mine
namespace Mine
open PySem PySem.SeqAt

/-- the name, looked up among the globals and the builtins -/
noncomputable def GB (h : Heap) (x : Str) (v : Value) : Prop :=
  (∃ mg, h.Ns mainGlobals mg ∧ mg x = some v) ∨ (∃ mg mb, h.Ns mainGlobals mg ∧ mg x = none ∧ h.Ns builtinsNs mb ∧ mb x = some v)
theorem GB.ext {h h' : Heap} {x : Str} {v : Value} (g : GB h x v) (hk : Ext h h') : GB h' x v := by
  rcases g with ⟨mg, a, b⟩ | ⟨mg, mb, a, b, c, d⟩
  · exact .inl ⟨mg, a.keeps hk, b⟩
  · exact .inr ⟨mg, mb, a.keeps hk, b, c.keeps hk, d⟩

noncomputable def tyNames : List String := ["int", "list", "tuple", "bool"]
structure Base (h : Heap) : Prop where
  len : GB h (Str.ofString "len") (.builtin "len")
  max : GB h (Str.ofString "max") (.builtin "max")
  range : GB h (Str.ofString "range") (.type "range")
  type : GB h (Str.ofString "type") (.type "type")
  ty : ∀ t ∈ tyNames, GB h (Str.ofString t) (.type t)
  lines : ∃ v, GB h (Str.ofString "_law_lines") v ∧ R (fun _ => False) h v linesD
  lim : h.NoLimit

/-- the frame: what each name holds -/
structure Fm (env : Env) (lk : Str → Option Value) (h : Heap) : Prop where
  kind : env.scope.kind = .function
  glob : env.globals = mainGlobals
  blt : env.builtins = builtinsNs
  loc : ∃ m, h.Ns env.locals m ∧ ∀ x, env.kindOf x = some .local → m x = lk x
  cel : ∀ x, env.kindOf x = some .cell → ∃ c, env.cells.lookup x = some c ∧ h.IsCell c (lk x)
theorem Fm.ext {env : Env} {lk : Str → Option Value} {h h' : Heap} (f : Fm env lk h) (hk : Ext h h') : Fm env lk h' :=
  ⟨f.kind, f.glob, f.blt, let ⟨m, a, b⟩ := f.loc; ⟨m, a.keeps hk, b⟩, fun x hx => let ⟨c, a, b⟩ := f.cel x hx; ⟨c, a, b.keeps hk⟩⟩

noncomputable def Sim (N : List (Nat × Str)) (X : Addr → Prop) (ρ : Rho) (lk : Str → Option Value) (h : Heap) : Prop :=
  ∀ x y d, N.lookup x = some y → ρ.get x = some d → ∃ v, lk y = some v ∧ R X h v d
noncomputable def Ctx (h₀ : Heap) (X : Addr → Prop) (h : Heap) : Prop := ∀ a o, h₀.get? a = some o → ¬ X a ∧ h.get? a = some o

structure Cx (h₀ : Heap) (n : Nat) (env : Env) (N : List (Nat × Str)) (A : Around) (X : Addr → Prop) (h : Heap) (lk : Str → Option Value) (ρ : Rho) : Prop where
  ao : AOk n A
  base : Base h₀
  ctx : Ctx h₀ X h
  xb : XB X h
  fm : Fm env lk h
  sim : Sim N X ρ lk h
theorem Cx.ext {h₀ : Heap} {n : Nat} {env : Env} {N : List (Nat × Str)} {A : Around} {X : Addr → Prop} {h h' : Heap} {lk : Str → Option Value} {ρ : Rho} (c : Cx h₀ n env N A X h lk ρ) (hk : Ext h h') : Cx h₀ n env N A X h' lk ρ :=
  ⟨c.ao, c.base, fun a o e => ⟨(c.ctx a o e).1, hk a o (c.ctx a o e).2⟩, c.xb.ext hk, c.fm.ext hk, fun x y d e1 e2 => let ⟨v, a, b⟩ := c.sim x y d e1 e2; ⟨v, a, b.ext hk⟩⟩
theorem Cx.gb {h₀ : Heap} {n : Nat} {env : Env} {N : List (Nat × Str)} {A : Around} {X : Addr → Prop} {h : Heap} {lk : Str → Option Value} {ρ : Rho} (c : Cx h₀ n env N A X h lk ρ) {x : Str} {v : Value} (g : GB h₀ x v) : GB h x v :=
  g.ext fun a o e => (c.ctx a o e).2

section
variable {prog : Program} {w : World} {h₀ : Heap} {n : Nat} {env : Env} {N : List (Nat × Str)} {A : Around} {X : Addr → Prop} {s : Shared} {lk : Str → Option Value} {ρ : Rho}

noncomputable abbrev NoE : Value → Shared → Prop := fun _ _ => False

/-- an expression evaluates to d -/
noncomputable abbrev Evals (prog : Program) (w : World) (A : Around) (X : Addr → Prop) (s : Shared) (pe : PySem.Expr) (env : Env) (d : D) : Prop := wpAny (model prog w) A (eval pe env) (Ev X s d) NoE s

theorem name_sound (c : Cx h₀ n env N A X s.heap lk ρ) {y : Str} {x : Nat} {pos : Pos} {d : D} (hN : N.lookup x = some y) (hk : env.kindOf y = some .local ∨ env.kindOf y = some .cell) (hd : (y == ("__debug__" : Str)) = false)
    (h : ρ.get x = some d) : Evals prog w A X s (.Name y pos) env d := by
  obtain ⟨v, hv, r⟩ := c.sim x y d hN h
  refine wpAny_Name ?_ hd
  rcases hk with hk | hk
  · obtain ⟨m, hm, he⟩ := c.fm.loc
    exact wpAny_loadName_local c.fm.kind hk hm ((he y hk).trans hv) ⟨keeps_refl s, r⟩
  · obtain ⟨cc, hc, ic⟩ := c.fm.cel y hk
    rw [hv] at ic
    exact wpAny_loadName_cell c.fm.kind hk hc ic ⟨keeps_refl s, r⟩

theorem glob_sound (c : Cx h₀ n env N A X s.heap lk ρ) {y : Str} {pos : Pos} {v : Value} {Q : Value → Shared → Prop} {G : Value → Shared → Prop} (g : GB h₀ y v) (hk : env.kindOf y = some .globalImplicit) (hd : (y == ("__debug__" : Str)) = false)
    (h : Q v s) : wpAny (model prog w) A (eval (.Name y pos) env) Q G s := by
  refine Calls.Name_function_global c.fm.kind hk ?_ hd
  rcases c.gb g with ⟨mg, a, b⟩ | ⟨mg, mb, a, b, e, f⟩
  · exact Calls.loadGlobal_global (by rw [c.fm.glob]; exact a) b h
  · exact Calls.loadGlobal_builtin (by rw [c.fm.glob]; exact a) b (by rw [c.fm.blt]; exact e) f h

theorem Ev.then {s s' s'' : Shared} {d : D} {v : Value} (k : Keeps s s') (e : Ev X s' d v s'') : Ev X s d v s'' := ⟨keeps_trans k e.1, e.2⟩

/-- two operands, then the operation -/
theorem bin_sound (c : Cx h₀ n env N A X s.heap lk ρ) {o : Bop} {l r : PySem.Expr} {pos : Pos} {a b d : D}
    (hl : Evals prog w A X s l env a) (hr : ∀ s', Keeps s s' → Evals prog w A X s' r env b) (h : binD o a b = some d) : Evals prog w A X s (.BinOp l (bopOf o) r pos) env d := by
  refine wpAny_BinOp (wpAny_mono hl (fun va s₁ h₁ => wpAny_mono (hr s₁ h₁.1) (fun vb s₂ h₂ => ?_) fun _ _ e => e) fun _ _ e => e)
  refine wpAny_mono (binD_sound c.ao (c.xb.ext (keeps_ext (keeps_trans h₁.1 h₂.1))) (h₁.2.ext (keeps_ext h₂.1)) h₂.2 h) (fun v s₃ h₃ => h₃.then (keeps_trans h₁.1 h₂.1)) fun _ _ e => e
theorem cmp_sound (c : Cx h₀ n env N A X s.heap lk ρ) {o : Cop} {l r : PySem.Expr} {pos : Pos} {a b : D} {q : Bool} (hm : behindInMarks (copOf o) r = false)
    (hl : Evals prog w A X s l env a) (hr : ∀ s', Keeps s s' → Evals prog w A X s' r env b) (h : cmpD o a b = some q) : Evals prog w A X s (.Compare l [copOf o] [r] pos) env (.bool q) := by
  refine wpAny_Compare1 (wpAny_mono hl (fun va s₁ h₁ => wpAny_mono (hr s₁ h₁.1) (fun vb s₂ h₂ => ?_) fun _ _ e => e) fun _ _ e => e) hm
  exact wpAny_mono (cmpD_sound c.ao (h₁.2.ext (keeps_ext h₂.1)) h₂.2 h) (fun v s₃ h₃ => h₃.then (keeps_trans h₁.1 h₂.1)) fun _ _ e => e
/-- a test -/
noncomputable abbrev Tests (prog : Program) (w : World) (A : Around) (s : Shared) (pe : PySem.Expr) (env : Env) (b : Bool) : Prop := wpAny (model prog w) A (isTrue pe env (eval pe env)) (fun q s' => q = b ∧ Keeps s s') NoE s
theorem plainT_sound {pe : PySem.Expr} {b : Bool} (he : ∀ whole, isTrue pe env whole = (do let v ← whole; standAt pe.pos; holding [v] (truthy v))) (h : Evals prog w A X s pe env (.bool b)) : Tests prog w A s pe env b := by
  refine PyProof.Rows.isTrue_plain (wpAny_mono h (fun v s₁ h₁ => ?_) fun _ _ e => e) (he _)
  have := bool_inv h₁.2
  subst this
  exact wpAny_truthy_bool ⟨rfl, h₁.1⟩
theorem negE_sound {x : PySem.Expr} {pos : Pos} {i : Int} (h : Evals prog w A X s x env (.int i)) : Evals prog w A X s (.UnaryOp .USub x pos) env (.int (-i)) :=
  PyProof.Rows.UnaryOp_ (wpAny_mono h (fun v s₁ h₁ => wpAny_mono (neg_sound h₁.2) (fun _ _ e => e.then h₁.1) fun _ _ e => e) fun _ _ e => e)

theorem idxE_sound {value slice : PySem.Expr} {pos : Pos} {a i d : D} (hns : ∀ l u st p, slice ≠ .Slice l u st p) (hl : Evals prog w A X s value env a) (hr : ∀ s', Keeps s s' → Evals prog w A X s' slice env i) (h : idxD a i = some d) :
    Evals prog w A X s (.Subscript value slice pos) env d := by
  refine PyProof.Rows.Subscript_ (wpAny_mono hl (fun va s₁ h₁ => wpAny_mono (hr s₁ h₁.1) (fun vi s₂ h₂ => ?_) fun _ _ e => e) fun _ _ e => e)
  obtain ⟨⟨T, id, hT, hlk⟩, ⟨k, u, rfl⟩, hg⟩ := getItem_sound (prog := prog) (w := w) (A := A) (G := NoE) (h₁.2.ext (keeps_ext h₂.1)) h₂.2 h
  refine PyProof.Rows.tail_any hT hlk (wpAny_mono hg (fun _ _ e => e.then (keeps_trans h₁.1 h₂.1)) fun _ _ e => e) (ops := [va, .int k u]) ?_
  cases slice <;> first | rfl | exact absurd rfl (hns _ _ _ _)

theorem tailE_sound (c : Cx h₀ n env N A X s.heap lk ρ) {y : Str} {p0 p pos : Pos} {low : PySem.Expr} {a i d : D} (hl : Evals prog w A X s (.Name y p0) env a) (hr : ∀ s', Keeps s s' → Evals prog w A X s' low env i) (h : tailD a i = some d) :
    Evals prog w A X s (.Subscript (.Name y p0) (.Slice (some low) none none p) pos) env d := by
  refine wpAny_Subscript_list_slice (wpAny_mono hl (fun va s₁ h₁ => wpAny_mono (hr s₁ h₁.1) (fun vi s₂ h₂ => ?_) fun _ _ e => e) fun _ _ e => e)
  cases a <;> cases i <;> first | (simp [tailD] at h; done) | skip
  rename_i l k
  simp only [tailD] at h
  split at h
  · rename_i hk
    cases h
    obtain ⟨q, vs, e, rfl, hq, g, hl, rs⟩ := list_inv (h₁.2.ext (keeps_ext h₂.1))
    obtain ⟨t, rfl⟩ := int_inv h₂.2
    rw [evalPart_none]
    refine wpAny_pure ⟨q, vs.toArray, some k, none, rfl, LObj.isList g, ?_, .int _ _, .none, ?_⟩
    · simp only [List.size_toArray]
      rw [rs.length]
      exact Nat.le_trans hl (by decide)
    · have hle : k.toNat ≤ vs.toArray.size := by simp only [List.size_toArray]; rw [rs.length]; lia
      have hpick : slicePick vs.toArray (some k) none none = (vs.drop k.toNat).toArray := by
        have := slicePick_from vs.toArray k.toNat hle
        rw [Int.toNat_of_nonneg hk.1] at this
        simpa using this
      rw [hpick]
      have hk2 := keeps_trans h₁.1 h₂.1
      have xb2 := c.xb.ext (keeps_ext hk2)
      have hp := keeps_push s₂ { cls := .type "slice", data := .fields #[.int k t, .none, .none] } s₂.toks
      have := ev_newList (s := { s₂ with heap := s₂.heap.push { cls := .type "slice", data := .fields #[.int k t, .none, .none] } }) (k := 0) (tk := s₂.toks) (xb2.ext (keeps_ext hp)) ((rs.drop k.toNat).ext (keeps_ext hp)) (by simp only [List.length_drop]; lia)
      simp only [Heap.size_push] at this
      exact (this.then hp).then hk2
  · cases h

/-- a row of expressions -/
noncomputable abbrev EvalsAll (prog : Program) (w : World) (A : Around) (X : Addr → Prop) (s : Shared) (ps : List PySem.Expr) (pos : Pos) (env : Env) (ds : List D) : Prop :=
  wpAny (model prog w) A (spliced (backTo pos (starEach ps env))) (fun vs s' => Keeps s s' ∧ Rs X s'.heap vs ds) NoE s
theorem all_nil {pos : Pos} : EvalsAll prog w A X s [] pos env [] := PyProof.Rows.args_nil ⟨keeps_refl s, by rw [Rs]⟩
theorem all_cons {pe : PySem.Expr} {ps : List PySem.Expr} {pos : Pos} {d : D} {ds : List D} (hs : starEach (pe :: ps) env = (false, eval pe env) :: starEach ps env) (h : Evals prog w A X s pe env d) (hr : ∀ s', Keeps s s' → EvalsAll prog w A X s' ps pos env ds) :
    EvalsAll prog w A X s (pe :: ps) pos env (d :: ds) := by
  refine PyProof.Rows.args_cons (wpAny_mono h (fun v s₁ h₁ => wpAny_mono (hr s₁ h₁.1) (fun vs s₂ h₂ => ⟨keeps_trans h₁.1 h₂.1, ?_⟩) fun _ _ e => e) fun _ _ e => e) hs
  rw [Rs]
  exact ⟨v, vs, rfl, h₁.2.ext (keeps_ext h₂.1), h₂.2⟩
theorem listE_sound (c : Cx h₀ n env N A X s.heap lk ρ) {ps : List PySem.Expr} {pos : Pos} {ds : List D} (h : EvalsAll prog w A X s ps pos env ds) (hl : ds.length ≤ cap) : Evals prog w A X s (.List ps pos) env (.list ds) := by
  refine PyProof.Rows.List_ (wpAny_mono h (fun vs s₁ h₁ => ?_) fun _ _ e => e)
  have sz : vs.toArray.size ≤ sizeLine := by
    rw [List.size_toArray, h₁.2.length]; exact Nat.le_trans hl (by decide)
  exact wpAny_newObj_type ((ev_newList (k := 0) (tk := s₁.toks) (c.xb.ext (keeps_ext h₁.1)) h₁.2 hl).then h₁.1) sz
theorem tupE_sound (c : Cx h₀ n env N A X s.heap lk ρ) {ps : List PySem.Expr} {k : Nat} {pos : Pos} {ds : List D} (h : EvalsAll prog w A X s ps pos env ds) (hl : ds.length ≤ cap) : Evals prog w A X s (.Tuple ps k pos) env (.tup ds) := by
  refine PyProof.Rows.Tuple_ (wpAny_mono h (fun vs s₁ h₁ => ?_) fun _ _ e => e)
  have sz : vs.toArray.size ≤ sizeLine := by
    rw [List.size_toArray, h₁.2.length]; exact Nat.le_trans hl (by decide)
  exact wpAny_newObj_type ((ev_newTuple (k := 0) (tk := s₁.toks) (c.xb.ext (keeps_ext h₁.1)) h₁.2 hl).then h₁.1) sz

/-- the arguments, then a builtin -/
theorem noStar {ps : List PySem.Expr} {pos : Pos} (h : ∀ x ∈ starEach ps env, x.1 = false) : (backTo pos (starEach ps env)).any (·.1) = false := by
  unfold backTo
  rw [List.any_eq_false]
  intro x hx
  obtain ⟨y, hy, rfl⟩ := List.mem_map.mp hx
  simp [h y hy]
theorem callB_sound (c : Cx h₀ n env N A X s.heap lk ρ) {f : Str} {id : String} {p pos : Pos} {pe : PySem.Expr} {ps : List PySem.Expr} {ds : List D} {d : D} (g : GB h₀ f (.builtin id)) (hk : env.kindOf f = some .globalImplicit) (hd : (f == ("__debug__" : Str)) = false)
    (hs : starEach (pe :: ps) env = (false, eval pe env) :: starEach ps env) (hst : ∀ x ∈ starEach ps env, x.1 = false) (h : EvalsAll prog w A X s (pe :: ps) pos env ds)
    (hc : ∀ s' vs, Keeps s s' → Rs X s'.heap vs ds → wpAny (model prog w) A (call (.builtin id) vs) (Ev X s' d) NoE s') : Evals prog w A X s (.Call (.Name f p) (pe :: ps) [] pos) env d := by
  refine PyProof.Rows.Call_ (glob_sound c g hk hd ?_)
  refine Calls.callWith_builtin (noStar (fun x hx => by rw [hs] at hx; rcases List.mem_cons.mp hx with rfl | hx; rfl; exact hst x hx)) ?_
  unfold EvalsAll at h
  rw [hs] at h ⊢
  refine Calls.evalArgs_plain (wpAny_mono h (fun vs s₁ h₁ => ?_) fun _ _ e => e)
  exact wpAny_mono (hc s₁ vs h₁.1 h₁.2) (fun _ _ e => e.then h₁.1) fun _ _ e => e
theorem callT_sound (c : Cx h₀ n env N A X s.heap lk ρ) {f : Str} {T : String} {p pos : Pos} {pe : PySem.Expr} {ps : List PySem.Expr} {ds : List D} {d : D} (g : GB h₀ f (.type T)) (hk : env.kindOf f = some .globalImplicit) (hd : (f == ("__debug__" : Str)) = false)
    (hs : starEach (pe :: ps) env = (false, eval pe env) :: starEach ps env) (hst : ∀ x ∈ starEach ps env, x.1 = false) (h : EvalsAll prog w A X s (pe :: ps) pos env ds)
    (hc : ∀ s' vs, Keeps s s' → Rs X s'.heap vs ds → wpAny (model prog w) A (call (.type T) vs) (Ev X s' d) NoE s') : Evals prog w A X s (.Call (.Name f p) (pe :: ps) [] pos) env d := by
  refine PyProof.Rows.Call_ (glob_sound c g hk hd ?_)
  refine callWith_type (noStar (fun x hx => by rw [hs] at hx; rcases List.mem_cons.mp hx with rfl | hx; rfl; exact hst x hx)) ?_
  unfold EvalsAll at h
  rw [hs] at h ⊢
  refine Calls.evalArgs_plain (wpAny_mono h (fun vs s₁ h₁ => ?_) fun _ _ e => e)
  exact wpAny_mono (hc s₁ vs h₁.1 h₁.2) (fun _ _ e => e.then h₁.1) fun _ _ e => e

/-- what a call of one's own def promises -/
noncomputable def Fn (prog : Program) (w : World) (h₀ : Heap) (n : Nat) (f : String) (ds : List D) (d : D) : Prop :=
  ∃ a o fd, GB h₀ (Str.ofString f) (.ref a) ∧ h₀.get? a = some o ∧ o.data = .func fd ∧
    ∀ (A : Around) (X : Addr → Prop) (s : Shared) (vs : List Value), AOk n A → Ctx h₀ X s.heap → XB X s.heap → Rs X s.heap vs ds → wpAny (model prog w) A (call (.ref a) vs) (Ev X s d) NoE s
theorem callF_sound (c : Cx h₀ n env N A X s.heap lk ρ) {f : String} {p pos : Pos} {pe : PySem.Expr} {ps : List PySem.Expr} {ds : List D} {d : D} (fn : Fn prog w h₀ n f ds d) (hk : env.kindOf (Str.ofString f) = some .globalImplicit) (hd : (Str.ofString f == ("__debug__" : Str)) = false)
    (hs : starEach (pe :: ps) env = (false, eval pe env) :: starEach ps env) (h : EvalsAll prog w A X s (pe :: ps) pos env ds) : Evals prog w A X s (.Call (.Name (Str.ofString f) p) (pe :: ps) [] pos) env d := by
  obtain ⟨a, o, fd, g, ho, hdat, hc⟩ := fn
  refine PyProof.Rows.Call_ (glob_sound c g hk hd ?_)
  refine Calls.callWith_function (o := o) (fd := fd) ?_
  unfold EvalsAll at h
  rw [hs] at h ⊢
  refine Calls.evalArgs_plain (wpAny_mono h (fun vs s₁ h₁ => ?_) fun _ _ e => e)
  have c₁ := c.ext (keeps_ext h₁.1)
  exact ⟨⟨(c₁.ctx a o ho).2, hdat⟩, wpAny_mono (hc A X s₁ vs c.ao c₁.ctx c₁.xb h₁.2) (fun _ _ e => e.then h₁.1) fun _ _ e => e⟩
end
end Mine
namespace Mine
open PySem PySem.SeqAt

/-! the closure of a comprehension -/
noncomputable def clOf (env : Env) : List (Str × NameKind) → List (Str × Addr) → List (Str × Addr)
  | [], acc => acc
  | (m, k) :: r, acc => if k == .free then clOf env r ((m, (env.cells.lookup m).getD 0) :: acc) else clOf env r acc
theorem closure_key {env : Env} : ∀ (names : List (Str × NameKind)) (acc : List (Str × Addr)) (f : Str × NameKind → List (Str × Addr) → Sem (ForInStep (List (Str × Addr)))),
    (∀ m k r, f (m, k) r = if (k == NameKind.free) = true then (do let a ← cellOf env m; pure (ForInStep.yield ((m, a) :: r))) else pure (ForInStep.yield r)) →
    (∀ z ∈ names, z.2 = .free → ∃ a, env.cells.lookup z.1 = some a) → forIn names acc f = pure (clOf env names acc) := by
  intro names
  induction names with
  | nil => intro acc f _ _; rfl
  | cons z names ih =>
    obtain ⟨m, k⟩ := z
    intro acc f hf hz
    rw [List.forIn_cons, hf]
    have hr := fun z hz' => hz z (List.mem_cons_of_mem _ hz')
    by_cases hk : k = .free
    · subst hk
      obtain ⟨a, ha⟩ := hz (m, .free) List.mem_cons_self rfl
      have ha' : env.cells.lookup m = some a := ha
      have hc : cellOf env m = pure a := by unfold cellOf; rw [ha']
      rw [if_pos (by simp), hc]
      have e := ih ((m, a) :: acc) f hf hr
      have e2 : clOf env ((m, NameKind.free) :: names) acc = clOf env names ((m, a) :: acc) := by simp [clOf, ha']
      rw [e2, ← e]
      rfl
    · have hb : (k == NameKind.free) = false := by simpa using hk
      rw [if_neg (by rw [hb]; decide)]
      have e := ih acc f hf hr
      have e2 : clOf env ((m, k) :: names) acc = clOf env names acc := by simp [clOf, hb]
      rw [e2, ← e]
      rfl
theorem closure_is {sc : Scope} {env : Env} (h : ∀ z ∈ sc.names, z.2 = .free → ∃ a, env.cells.lookup z.1 = some a) : closureFor sc env = pure (clOf env sc.names []) := by
  simp only [closureFor]
  rw [closure_key sc.names [] _ (fun m k r => by cases hk : k == NameKind.free <;> simp [hk]) h]
  rfl
theorem clOf_ok (env : Env) : ∀ (names : List (Str × NameKind)) (acc : List (Str × Addr)), (∀ z ∈ names, z.2 = .free → ∃ a, env.cells.lookup z.1 = some a) → (∀ m a, acc.lookup m = some a → env.cells.lookup m = some a) →
    (∀ m a, (clOf env names acc).lookup m = some a → env.cells.lookup m = some a) ∧ (∀ m, ((acc.lookup m).isSome ∨ (m, NameKind.free) ∈ names) → ((clOf env names acc).lookup m).isSome) := by
  intro names
  induction names with
  | nil => intro acc _ ha; exact ⟨ha, fun m h => by rcases h with h | h; exact h; cases h⟩
  | cons z names ih =>
    obtain ⟨m, k⟩ := z
    intro acc hz ha
    have hr := fun z hz' => hz z (List.mem_cons_of_mem _ hz')
    unfold clOf
    by_cases hk : k = .free
    · subst hk
      obtain ⟨a, hm⟩ := hz (m, .free) List.mem_cons_self rfl
      simp only [hm, Option.getD_some, beq_self_eq_true, if_true]
      obtain ⟨h1, h2⟩ := ih ((m, a) :: acc) hr (by
        intro q b hq
        rw [List.lookup_cons] at hq
        cases hb : q == m with
        | true => rw [hb] at hq; cases hq; rw [beq_iff_eq.mp hb]; exact hm
        | false => rw [hb] at hq; exact ha q b hq)
      refine ⟨h1, fun q hq => h2 q ?_⟩
      rw [List.lookup_cons]
      cases hb : q == m with
      | true => exact .inl rfl
      | false =>
        rcases hq with hq | hq
        · exact .inl hq
        · rcases List.mem_cons.mp hq with e | hq
          · cases e; simp at hb
          · exact .inr hq
    · have hb : (k == NameKind.free) = false := by simpa using hk
      simp only [hb, Bool.false_eq_true, if_false]
      obtain ⟨h1, h2⟩ := ih acc hr ha
      refine ⟨h1, fun q hq => h2 q ?_⟩
      rcases hq with hq | hq
      · exact .inl hq
      · rcases List.mem_cons.mp hq with e | hq
        · cases e; exact absurd rfl hk
        · exact .inr hq

noncomputable def relabN (names : List (Str × NameKind)) : List (Str × NameKind) := names.map fun x => if x.2 == .free then (x.1, .cell) else x
theorem relabN_lookup : ∀ (names : List (Str × NameKind)) (y : Str), (relabN names).lookup y = (names.lookup y).map fun k => if k == .free then .cell else k
  | [], y => rfl
  | (m, k) :: r, y => by
    unfold relabN
    rw [List.map_cons]
    by_cases hk : k = .free
    · subst hk
      simp only [beq_self_eq_true, if_true, List.lookup_cons]
      cases hb : y == m with
      | true => rfl
      | false => exact relabN_lookup r y
    · have hb' : (k == NameKind.free) = false := by simpa using hk
      simp only [hb', Bool.false_eq_true, if_false, List.lookup_cons]
      cases hb : y == m with
      | true => simp only [Option.map_some, hb', Bool.false_eq_true, if_false]
      | false => exact relabN_lookup r y

structure CompOk (env : Env) (N : List (Nat × Str)) (sc : Scope) (x : Nat) (y : Str) (cp : List (Nat × Str)) : Prop where
  kind : sc.kind = .function
  tgt : sc.names.lookup y = some .local
  nocell : ∀ z ∈ sc.names, z.2 ≠ .cell
  locs : ∀ z ∈ sc.names, z.2 = .local → sc.names.lookup z.1 = some .local
  free : ∀ z ∈ sc.names, z.2 = .free → env.kindOf z.1 = some .cell
  caps : ∀ u z, cp.lookup u = some z → N.lookup u = some z ∧ u ≠ x ∧ sc.names.lookup z = some .free

theorem relabel_names {env : Env} {N : List (Nat × Str)} {sc : Scope} {x : Nat} {y : Str} {cp : List (Nat × Str)} (ok : CompOk env N sc x y cp) (hk : env.scope.kind = .function) : (relabel sc env).names = relabN sc.names := by
  unfold relabel relabN
  apply List.map_congr_left
  intro z hz
  obtain ⟨m, k⟩ := z
  by_cases h : k = .free
  · subst h
    have := ok.free _ hz rfl
    simp only at this
    simp [hk, this]
  · have hb : (k == NameKind.free) = false := by simpa using h
    simp [hb]
theorem mem_of_lookup2 {α β : Type} [BEq α] [LawfulBEq α] : ∀ {l : List (α × β)} {a : α} {b : β}, l.lookup a = some b → (a, b) ∈ l
  | (k, v) :: r, a, b, h => by
    rw [List.lookup_cons] at h
    cases hb : a == k with
    | true => rw [hb] at h; cases h; rw [beq_iff_eq.mp hb]; exact List.mem_cons_self
    | false => rw [hb] at h; exact List.mem_cons_of_mem _ (mem_of_lookup2 h)

section
variable {prog : Program} {w : World} {A : Around}

/-- the block of a comprehension: a new list, a new frame, the turns -/
theorem comp_core {env : Env} {sc : Scope} {y : Str} {elt iter : PySem.Expr} {px pos : Pos} {ifs : List PySem.Expr} {cl : List (Str × Addr)} {s₂ : Shared} {I : Addr} {fp : List Addr} {k : Nat} {P : Nat → Value → Prop} {St : Nat → Heap → Prop}
    (W : Walks prog w A I fp [I] k P St) (hst : St 0 s₂.heap) (hfp : ∀ b ∈ fp, b < s₂.heap.objs.size) (hIf : I ∈ fp) (hsz : k ≤ cap)
    (hcell : ∀ z ∈ sc.names, z.2 ≠ .cell) (hkind : sc.kind = .function) (hx : sc.names.lookup y = some .local)
    (Inv : Nat → List Value → Heap → Prop) {RR : Value → Addr → Result → Shared → Prop}
    (hmono : ∀ i vs h h', Inv i vs h → (∀ b o, b ≠ I → b ≠ s₂.heap.objs.size → b ≠ s₂.heap.objs.size + 1 → h.get? b = some o → h'.get? b = some o) → Inv i vs h')
    (h0 : ∀ h, (∀ b o, s₂.heap.get? b = some o → h.get? b = some o) → Inv 0 [] h)
    (hstep : ∀ i v vs s' m, i < k → P i v → vs.length ≤ i → (∃ h tk, s' = { s₂ with heap := h, toks := tk }) → (∀ b o, b ≠ I → s₂.heap.get? b = some o → s'.heap.get? b = some o) → (∃ o, s'.heap.get? I = some o) ∨ (∀ h i, St i h → ∃ o, h.get? I = some o) →
      St (i + 1) s'.heap → (∃ o, s'.heap.get? s₂.heap.objs.size = some o) → s'.heap.Ns (s₂.heap.objs.size + 1) m → m y = some v → Inv i vs s'.heap →
      wpAny (model prog w) A (forIn ifs true fun c r => if r = true then do let ok ← isTrue c (compEnvC sc cl (s₂.heap.objs.size + 1) env) (eval c (compEnvC sc cl (s₂.heap.objs.size + 1) env)); pure (ForInStep.yield ok) else pure (ForInStep.yield r))
        (fun ok s₃ => Keeps s' s₃ ∧ if ok = true then wpAny (model prog w) A (eval elt (compEnvC sc cl (s₂.heap.objs.size + 1) env)) (fun z s₄ => Keeps s₃ s₄ ∧ Inv (i + 1) (vs ++ [z]) s₄.heap) NoE s₃ else Inv (i + 1) vs s₃.heap) NoE s')
    (hlive : ∀ h i, St i h → ∃ o, h.get? I = some o)
    (hRR : ∀ h' tk m' vs e, h'.Ns (s₂.heap.objs.size + 1) m' → h'.get? s₂.heap.objs.size = some (lobj vs e) → vs.length ≤ k → Inv k vs h' → (∀ b o, b ≠ I → s₂.heap.get? b = some o → h'.get? b = some o) →
      RR (.ref s₂.heap.objs.size) (s₂.heap.objs.size + 1) (.ok .next) { s₂ with heap := h', toks := tk }) :
    wpAny (model prog w) A (newList []) (fun acc s₃ => wpAny (model prog w) A (newFunctionEnv sc env.globals cl [] env.qual none .none (some env)) (fun cenv s₄ =>
      codeAny (model prog w) A (.compStart (.ListComp elt [⟨.Name y px, iter, ifs, 0⟩] sc pos) 0 (.ref I) acc { cenv with scope := relabel sc env }) (RR acc cenv.locals) s₄) NoE s₃) NoE s₂ := by
  refine wpAny_newObj_type (wpAny_newFunctionEnv hcell (by intro y hy; simp at hy) (fun h₁ hns₁ hsb₁ => ?_) hkind)
  dsimp only at hns₁ hsb₁ ⊢
  generalize hH2 : s₂.heap.push { cls := .type "list", dict := none, data := .seq ([] : List Value).toArray } = H2 at hns₁ hsb₁ ⊢
  have hC : H2.objs.size = s₂.heap.objs.size + 1 := by rw [← hH2, Heap.size_push]
  rw [hC] at hns₁ hsb₁ ⊢
  have hDC : s₂.heap.objs.size ≠ s₂.heap.objs.size + 1 := Nat.ne_of_lt (Nat.lt_succ_self _)
  have below : ∀ b, b < s₂.heap.objs.size → b ≠ s₂.heap.objs.size + 1 ∧ b ≠ s₂.heap.objs.size := fun b hb => ⟨Nat.ne_of_lt (Nat.lt_succ_of_lt hb), Nat.ne_of_lt hb⟩
  have old : ∀ b o, s₂.heap.get? b = some o → h₁.get? b = some o := fun b o e => hsb₁.extBut b o (below b (Heap.lt_size e)).1 (Heap.get?_push_of_some _ (hH2 ▸ Heap.get?_push_of_some _ e))
  have hacc : h₁.get? s₂.heap.objs.size = some (lobj [] 0) := hsb₁.extBut _ _ hDC (Heap.get?_push_of_some _ (hH2 ▸ Heap.get?_push_size _ rfl))
  have hst₁ : St 0 h₁ := W.frame _ _ _ hst fun b _ o e => old b o e
  have hIs := hfp I hIf
  have hDf : s₂.heap.objs.size ∉ fp := fun hm => Nat.lt_irrefl _ (hfp _ hm)
  have hCf : s₂.heap.objs.size + 1 ∉ fp := fun hm => Nat.lt_irrefl _ (Nat.lt_of_succ_lt (hfp _ hm))
  have hID : s₂.heap.objs.size ≠ I := Nat.ne_of_gt hIs
  have hIC : s₂.heap.objs.size + 1 ≠ I := Nat.ne_of_gt (Nat.lt_succ_of_lt hIs)
  have loop : ∀ s₃ : Shared, s₃ = { s₂ with heap := h₁, toks := s₂.toks + ([] : List (Str × Value)).length } →
      codeAny (model prog w) A (.compLoop (.ListComp elt [⟨.Name y px, iter, ifs, 0⟩] sc pos) 0 (.ref I) (.ref s₂.heap.objs.size) (compEnvC sc cl (s₂.heap.objs.size + 1) env))
        (RR (.ref s₂.heap.objs.size) (s₂.heap.objs.size + 1)) s₃ := by
    rintro s₃ rfl
    refine codeAny_compLoop_tests (fun j s' => ∃ i h' tk m' vs e, s' = { s₂ with heap := h', toks := tk } ∧ i ≤ k ∧ j = k + 1 - i ∧ St i h' ∧ h'.Ns (s₂.heap.objs.size + 1) m' ∧ h'.get? s₂.heap.objs.size = some (lobj vs e) ∧ vs.length ≤ i ∧ Inv i vs h' ∧
      (∀ b o, b ≠ I → s₂.heap.get? b = some o → h'.get? b = some o)) ?_ (k + 1) ⟨0, h₁, _, _, [], 0, rfl, Nat.zero_le _, rfl, hst₁, hns₁, hacc, Nat.le_refl _, h0 h₁ old, fun b o _ e => old b o e⟩
    rintro j s' ⟨i, h', tk, m', vs, e, rfl, hi, rfl, hst', hns', hacc', hlen, hinv, hk⟩
    by_cases hlt : i < k
    · refine W.item i _ _ _ hlt hst' fun v h₂ tk₂ hP hst₂ hk₂ => ?_
      have hCw : s₂.heap.objs.size + 1 ∉ [I] := fun hm => hIC (List.mem_singleton.mp hm)
      have hDw : s₂.heap.objs.size ∉ [I] := fun hm => hID (List.mem_singleton.mp hm)
      refine wpAny_assign_Name (wpAny_storeName_local (lookup_relabel_local hx) (hns'.at' fun o e => hk₂ _ o hCw e) (fun h₃ hns₃ hsb₃ => ?_) (by simp [compEnvC, relabel, hkind]))
      have up : ∀ b o, b ≠ I → b ≠ s₂.heap.objs.size + 1 → h'.get? b = some o → h₃.get? b = some o := fun b o hbI hbC q => hsb₃.extBut b o hbC (hk₂ b o (by simpa using hbI) q)
      have hst₃ : St (i + 1) h₃ := W.frame _ _ _ hst₂ fun b hb o q => hsb₃.extBut b o (fun z => hCf (by have z' : b = s₂.heap.objs.size + 1 := z; rw [← z']; exact hb)) q
      have hacc₃ : h₃.get? s₂.heap.objs.size = some (lobj vs e) := up _ _ hID hDC hacc'
      have hinv₃ : Inv i vs h₃ := hmono i vs h' h₃ hinv fun b o a1 a2 a3 q => up b o a1 a3 q
      have hk₃ : ∀ b o, b ≠ I → s₂.heap.get? b = some o → h₃.get? b = some o := fun b o hb q => up b o hb (below b (Heap.lt_size q)).1 (hk b o hb q)
      refine wpAny_mono (hstep i v vs _ _ hlt hP hlen ⟨h₃, _, rfl⟩ hk₃ (.inr hlive) hst₃ ⟨_, hacc₃⟩ hns₃ (by simp) hinv₃) (fun ok s₄ h₄ => ?_) fun _ _ f => f.elim
      obtain ⟨⟨h₄', tk₄, rfl, hk₄⟩, hok⟩ := h₄
      have hst₄ : St (i + 1) h₄' := W.frame _ _ _ hst₃ fun b _ o q => hk₄ b o q
      cases ok with
      | false =>
        simp only [Bool.false_eq_true, if_false] at hok ⊢
        exact ⟨k + 1 - (i + 1), by lia, i + 1, h₄', tk₄, _, vs, e, rfl, hlt, rfl, hst₄, hns₃.keeps hk₄, hk₄ _ _ hacc₃, by lia, hok, fun b o hb q => hk₄ b o (hk₃ b o hb q)⟩
      | true =>
        simp only [if_true] at hok ⊢
        refine wpAny_mono hok (fun z s₅ h₅ => ?_) fun _ _ f => f.elim
        obtain ⟨⟨h₅', tk₅, rfl, hk₅⟩, hinv₅⟩ := h₅
        have hpl : h₅'.PlainList s₂.heap.objs.size vs.toArray := ⟨e, hk₅ _ _ (hk₄ _ _ hacc₃)⟩
        have hc : cap = 1000000 := rfl
        refine wpAny_list_append_plain hpl (fun h₆ hpl₆ hsb₆ => ?_) (by rw [List.size_toArray]; exact Nat.le_trans (show vs.length ≤ cap by lia) (by decide))
        obtain ⟨e₆, he₆⟩ := hpl₆
        have up₆ : ∀ b o, b ≠ s₂.heap.objs.size → h₅'.get? b = some o → h₆.get? b = some o := fun b o hb q => hsb₆.extBut b o hb q
        refine ⟨k + 1 - (i + 1), by lia, i + 1, h₆, tk₅, _, vs ++ [z], e₆, rfl, hlt, rfl, ?_, ((hns₃.keeps hk₄).keeps hk₅).sameBut hsb₆ (Ne.symm hDC), ?_, ?_, ?_, fun b o hb q => up₆ b o (below b (Heap.lt_size q)).2 (hk₅ b o (hk₄ b o (hk₃ b o hb q)))⟩
        · exact W.frame _ _ _ hst₄ fun b hb o q => up₆ b o (fun z => hDf (z ▸ hb)) (hk₅ b o q)
        · rw [he₆]; simp [lobj]
        · simp; lia
        · exact hmono _ _ _ _ hinv₅ fun b o a1 a2 a3 q => up₆ b o a2 q
    · have hik : i = k := by lia
      subst hik
      refine W.done _ _ _ hst' fun h₂ tk₂ hk₂ => ?_
      have hDw : s₂.heap.objs.size ∉ [I] := fun hm => hID (List.mem_singleton.mp hm)
      have hCw : s₂.heap.objs.size + 1 ∉ [I] := fun hm => hIC (List.mem_singleton.mp hm)
      exact hRR h₂ tk₂ m' vs e (hns'.at' fun o q => hk₂ _ o hCw q) (hk₂ _ _ hDw hacc') hlen (hmono _ _ _ _ hinv fun b o a1 _ _ q => hk₂ b o (by simpa using a1) q) fun b o hb q => hk₂ b o (by simpa using hb) (hk b o hb q)
  exact codeAny_compStart_list (loop _ rfl) (W.self 0 _ _ _ hst₁ (loop _ rfl))
end
end Mine
namespace Mine
open PySem PySem.SeqAt

theorem omap_ofilt (f : D → Option D) : ∀ l, omap f l = ofilt (fun _ => some true) f l
  | [] => rfl
  | x :: l => by
    simp only [omap, ofilt, omap_ofilt f l]
theorem ofilt_snoc (p : D → Option Bool) (f : D → Option D) : ∀ (l : List D) (x : D) (ys : List D), ofilt p f (l ++ [x]) = some ys →
    ∃ zs, ofilt p f l = some zs ∧ ((p x = some true ∧ ∃ y, f x = some y ∧ ys = zs ++ [y]) ∨ (p x = some false ∧ ys = zs))
  | [], x, ys, h => by
    simp only [List.nil_append, ofilt] at h
    refine ⟨[], rfl, ?_⟩
    split at h
    · rename_i hp
      split at h
      · rename_i y hf
        simp only [Option.map_some, Option.some.injEq] at h
        exact .inl ⟨hp, y, hf, h.symm⟩
      · cases h
    · rename_i hp
      cases h
      exact .inr ⟨hp, rfl⟩
    · cases h
  | z :: l, x, ys, h => by
    simp only [List.cons_append, ofilt] at h ⊢
    cases hp : p z with
    | none => rw [hp] at h; cases h
    | some b =>
      rw [hp] at h
      cases b with
      | false =>
        simp only at h
        obtain ⟨zs, h1, h2⟩ := ofilt_snoc p f l x ys h
        exact ⟨zs, h1, h2⟩
      | true =>
        simp only at h
        cases hf : f z with
        | none => rw [hf] at h; cases h
        | some y0 =>
          rw [hf] at h
          simp only [Option.map_eq_some_iff] at h
          obtain ⟨ys', h3, rfl⟩ := h
          obtain ⟨zs, h1, h2⟩ := ofilt_snoc p f l x ys' h3
          refine ⟨y0 :: zs, by simp [h1], ?_⟩
          rcases h2 with ⟨a, y, b, rfl⟩ | ⟨a, rfl⟩
          · exact .inl ⟨a, y, b, rfl⟩
          · exact .inr ⟨a, rfl⟩
theorem ofilt_take (p : D → Option Bool) (f : D → Option D) (l : List D) : ∀ (i : Nat) (ys : List D), ofilt p f (l.take (i + 1)) = some ys → (∃ zs, ofilt p f (l.take i) = some zs) := by
  intro i ys h
  by_cases hi : i < l.length
  · rw [List.take_succ_eq_append_getElem hi] at h
    obtain ⟨zs, h1, _⟩ := ofilt_snoc p f _ _ _ h
    exact ⟨zs, h1⟩
  · rw [List.take_of_length_le (by lia)] at h
    rw [List.take_of_length_le (by lia)]
    exact ⟨ys, h⟩
theorem ofilt_all (p : D → Option Bool) (f : D → Option D) (l : List D) (ys : List D) (h : ofilt p f l = some ys) : ∀ i, ∃ zs, ofilt p f (l.take i) = some zs := by
  have key : ∀ k i, l.length ≤ i + k → ∃ zs, ofilt p f (l.take i) = some zs := by
    intro k
    induction k with
    | zero => intro i hi; rw [List.take_of_length_le (by lia)]; exact ⟨ys, h⟩
    | succ k ih =>
      intro i hi
      obtain ⟨zs, hz⟩ := ih (i + 1) (by lia)
      exact ofilt_take p f l i zs hz
  intro i
  exact key l.length i (by lia)
theorem ofilt_len (p : D → Option Bool) (f : D → Option D) : ∀ (l ys : List D), ofilt p f l = some ys → ys.length ≤ l.length
  | [], ys, h => by simp [ofilt] at h; subst h; exact Nat.le_refl _
  | x :: l, ys, h => by
    simp only [ofilt] at h
    split at h
    · split at h
      · simp only [Option.map_eq_some_iff] at h
        obtain ⟨zs, h, rfl⟩ := h
        have := ofilt_len p f l zs h
        simp; lia
      · cases h
    · have := ofilt_len p f l ys h
      simp; lia
    · cases h

theorem get_put_ne {ρ : Rho} {x u : Nat} {d : D} (h : u ≠ x) : (ρ.put x d).get u = ρ.get u := by
  unfold Rho.get Rho.put
  rw [List.getElem?_set_ne (fun e => h e.symm)]
theorem get_put_eq {ρ : Rho} {x : Nat} {d d' : D} (h : (ρ.put x d).get x = some d') : d' = d := by
  unfold Rho.get Rho.put at h
  by_cases hx : x < ρ.length
  · rw [List.getElem?_set_self hx] at h
    simpa using h.symm
  · rw [List.getElem?_eq_none (by simp; lia)] at h
    cases h

section
variable {prog : Program} {w : World} {h₀ : Heap} {n : Nat} {env : Env} {N : List (Nat × Str)} {A : Around} {X : Addr → Prop} {s : Shared} {lk : Str → Option Value} {ρ : Rho}

/-- the context inside a comprehension -/
theorem Cx.inner (c : Cx h₀ n env N A X s.heap lk ρ) {sc : Scope} {x : Nat} {y : Str} {cp : List (Nat × Str)} (ok : CompOk env N sc x y cp) {X' : Addr → Prop} {h' : Heap} {C : Addr} {m : Str → Option Value} {v : Value} {e : D}
    (hX : ∀ a, X' a → X a ∨ s.heap.get? a = none) (hXX : XB X' h') (hk : Ext s.heap h') (hns : h'.Ns C m) (hm : m y = some v) (hv : R X' h' v e) :
    ∃ lk', Cx h₀ n (compEnvC sc (clOf env sc.names []) C env) ((x, y) :: cp) A X' h' lk' (ρ.put x e) := by
  have hcells : ∀ z ∈ sc.names, z.2 = .free → ∃ a, env.cells.lookup z.1 = some a := fun z hz hf => by
    obtain ⟨a, ha, _⟩ := c.fm.cel z.1 (ok.free z hz hf)
    exact ⟨a, ha⟩
  obtain ⟨cl1, cl2⟩ := clOf_ok env sc.names [] hcells (by intro m a h; cases h)
  have kindIn : ∀ z, (compEnvC sc (clOf env sc.names []) C env).kindOf z = (relabN sc.names).lookup z := fun z => by
    show (relabel sc env).names.lookup z = _
    rw [relabel_names ok c.fm.kind]
  refine ⟨fun z => if (compEnvC sc (clOf env sc.names []) C env).kindOf z = some .local then m z else lk z, c.ao, c.base, fun a o q => ?_, hXX, ⟨ok.kind, c.fm.glob, c.fm.blt, ⟨m, hns, fun z hz => by rw [if_pos hz]⟩, fun z hz => ?_⟩, fun u z d hu hd => ?_⟩
  · have := c.ctx a o q
    refine ⟨fun hx => ?_, hk a o this.2⟩
    rcases hX a hx with h1 | h1
    · exact this.1 h1
    · rw [this.2] at h1; cases h1
  · rw [if_neg (by rw [hz]; decide)]
    have hz' := hz
    rw [kindIn, relabN_lookup] at hz'
    have hfree : sc.names.lookup z = some .free := by
      cases hq : sc.names.lookup z with
      | none => rw [hq] at hz'; cases hz'
      | some k =>
        rw [hq] at hz'
        simp only [Option.map_some, Option.some.injEq] at hz'
        by_cases hkf : k = .free
        · rw [hkf]
        · have hb : (k == NameKind.free) = false := by simpa using hkf
          rw [hb] at hz'
          simp only [Bool.false_eq_true, if_false] at hz'
          subst hz'
          exact absurd rfl (ok.nocell _ (mem_of_lookup2 hq))
    have hmem := mem_of_lookup2 hfree
    obtain ⟨a, ha, ic⟩ := c.fm.cel z (ok.free _ hmem rfl)
    obtain ⟨a', ha'⟩ := Option.isSome_iff_exists.mp (cl2 z (.inr hmem))
    have := cl1 z a' ha'
    rw [ha] at this
    cases this
    exact ⟨a, ha', ic.keeps hk⟩
  · rw [List.lookup_cons] at hu
    have kindy : (compEnvC sc (clOf env sc.names []) C env).kindOf y = some .local := by rw [kindIn, relabN_lookup, ok.tgt]; rfl
    cases hb : u == x with
    | true =>
      rw [hb] at hu
      cases hu
      have hux : u = x := beq_iff_eq.mp hb
      subst hux
      have := get_put_eq hd
      subst this
      exact ⟨v, by rw [if_pos kindy]; exact hm, hv⟩
    | false =>
      rw [hb] at hu
      obtain ⟨g1, g2, g3⟩ := ok.caps u z hu
      rw [get_put_ne g2] at hd
      obtain ⟨v', hv', r⟩ := c.sim u z d g1 hd
      have kindz : (compEnvC sc (clOf env sc.names []) C env).kindOf z = some .cell := by rw [kindIn, relabN_lookup, g3]; rfl
      refine ⟨v', by rw [if_neg (by rw [kindz]; decide)]; exact hv', R.mono (fun a o q1 q2 => ⟨fun hx => ?_, hk a o q2⟩) d v' r⟩
      rcases hX a hx with h1 | h1
      · exact q1 h1
      · rw [q2] at h1; cases h1

theorem comp_sound (c : Cx h₀ n env N A X s.heap lk ρ) {sc : Scope} {x : Nat} {y : Str} {cp : List (Nat × Str)} (ok : CompOk env N sc x y cp) {elt iter : PySem.Expr} {ifs : List PySem.Expr} {px pos : Pos} {d : D} {ds ys : List D} {p : D → Option Bool} {f : D → Option D}
    (hit : Evals prog w A X s iter env d) (hi : items d = some ds) (hys : ofilt p f ds = some ys) (hset : ∀ v, foldedSetIterable iter env v = pure v)
    (htest : ∀ C X' s' lk' e b, Cx h₀ n (compEnvC sc (clOf env sc.names []) C env) ((x, y) :: cp) A X' s'.heap lk' (ρ.put x e) → p e = some b →
      wpAny (model prog w) A (forIn ifs true fun c r => if r = true then do let ok ← isTrue c (compEnvC sc (clOf env sc.names []) C env) (eval c (compEnvC sc (clOf env sc.names []) C env)); pure (ForInStep.yield ok) else pure (ForInStep.yield r)) (fun q s'' => q = b ∧ Keeps s' s'') NoE s')
    (helt : ∀ C X' s' lk' e z, Cx h₀ n (compEnvC sc (clOf env sc.names []) C env) ((x, y) :: cp) A X' s'.heap lk' (ρ.put x e) → f e = some z → Evals prog w A X' s' elt (compEnvC sc (clOf env sc.names []) C env) z) :
    Evals prog w A X s (.ListComp elt [⟨.Name y px, iter, ifs, 0⟩] sc pos) env (.list ys) := by
  have hcells : ∀ z ∈ sc.names, z.2 = .free → ∃ a, env.cells.lookup z.1 = some a := fun z hz hf => by
    obtain ⟨a, ha, _⟩ := c.fm.cel z.1 (ok.free z hz hf)
    exact ⟨a, ha⟩
  show wpAny _ _ (eval _ _) _ _ _
  rw [eval_ListComp]
  refine wpAny_comprehension_free (use := none) rfl hset (closure_is hcells) ok.kind ok.locs (wpAny_mono hit (fun xv s₁ h₁ => ?_) fun _ _ e => e)
  have c₁ := c.ext (keeps_ext h₁.1)
  obtain ⟨hiter, hdl⟩ := iter_sound (prog := prog) (w := w) (G := NoE) c.ao c₁.xb h₁.2 hi
  refine wpAny_mono hiter (fun it s₂ h₂ => ?_) fun _ _ e => e
  obtain ⟨fp, P, St, rfl, hk₂, its, hst, hsize⟩ := h₂
  have hsz₁ : s₁.heap.objs.size < s₂.heap.objs.size := by rw [hsize]; exact Nat.lt_succ_self _
  have e12 := keeps_ext hk₂
  have lt1 : ∀ b o, s₁.heap.get? b = some o → b < s₁.heap.objs.size := fun b o q => Heap.lt_size q
  obtain ⟨X', hX'⟩ : ∃ X' : Addr → Prop, X' = fun a => X a ∨ a = s₁.heap.objs.size ∨ a = s₂.heap.objs.size ∨ a = s₂.heap.objs.size + 1 := ⟨_, rfl⟩
  have fresh1 : ∀ a, X' a → X a ∨ s₁.heap.get? a = none := by
    intro a ha
    rw [hX'] at ha
    rcases ha with ha | ha | ha | ha
    · exact .inl ha
    all_goals
      right
      cases q : s₁.heap.get? a with
      | none => rfl
      | some o =>
        exfalso
        have h1 := lt1 a o q
        rw [ha] at h1
        first
          | exact Nat.lt_irrefl _ h1
          | exact Nat.lt_asymm h1 hsz₁
          | exact Nat.lt_asymm (Nat.lt_of_succ_lt h1) hsz₁
  refine comp_core (Inv := fun i vs h => ∃ zs, ofilt p f (ds.take i) = some zs ∧ Rs X' h vs zs) its.W hst (fun b hb => ?_) its.inI hdl ok.nocell ok.kind ok.tgt ?_ ?_ ?_ (fun h i q => its.live i h q) ?_
  · rcases its.old b hb with rfl | ⟨_, o, q⟩
    · exact hsz₁
    · exact Nat.lt_trans (lt1 b o q) hsz₁
  · rintro i vs h h' ⟨zs, h1, h2⟩ hk
    refine ⟨zs, h1, Rs.mono (fun a o q1 q2 => ⟨q1, hk a o (fun e => q1 ?_) (fun e => q1 ?_) (fun e => q1 ?_) q2⟩) zs vs h2⟩
    · rw [hX']; exact .inr (.inl e)
    · rw [hX']; exact .inr (.inr (.inl e))
    · rw [hX']; exact .inr (.inr (.inr e))
  · intro h _
    exact ⟨[], by rw [List.take_zero]; rfl, by rw [Rs]⟩
  · rintro i v vs s' m hik hP hlen ⟨h3, tk3, rfl⟩ hk3 _ hst3 ⟨oD, hoD⟩ hns hm ⟨zs, hz1, hz2⟩
    obtain ⟨e, he⟩ : ∃ e, ds[i]? = some e := ⟨ds[i], List.getElem?_eq_getElem hik⟩
    have rv := its.val i v e hP he
    have k13 : Ext s₁.heap h3 := fun b o q => hk3 b o (Nat.ne_of_lt (lt1 b o q)) (e12 b o q)
    have off : ∀ a o, ¬ X a → s₁.heap.get? a = some o → ¬ X' a := by
      intro a o q1 q2 hx
      rcases fresh1 a hx with h1 | h1
      · exact q1 h1
      · rw [q2] at h1; cases h1
    have rv' : R X' h3 v e := R.mono (fun a o q1 q2 => ⟨off a o q1 q2, k13 a o q2⟩) e v rv
    have xb' : XB X' h3 := by
      intro a ha
      rw [hX'] at ha
      rcases ha with ha | rfl | rfl | rfl
      · obtain ⟨o, q⟩ := c₁.xb a ha; exact ⟨o, k13 a o q⟩
      · exact its.live _ _ hst3
      · exact ⟨oD, hoD⟩
      · obtain ⟨o, _, _, q, _⟩ := hns; exact ⟨o, q⟩
    obtain ⟨lk', cin⟩ := c₁.inner ok fresh1 xb' k13 hns hm rv'
    obtain ⟨ws, hws⟩ := ofilt_all p f ds ys hys (i + 1)
    rw [List.take_succ_eq_append_getElem hik] at hws
    have hei : ds[i] = e := by rw [List.getElem?_eq_getElem hik] at he; exact Option.some.inj he
    rw [hei] at hws
    obtain ⟨zs', hzs, alt⟩ := ofilt_snoc p f _ _ _ hws
    have hz : zs' = zs := by rw [hz1] at hzs; exact (Option.some.inj hzs).symm
    subst hz
    have hnext : ofilt p f (ds.take (i + 1)) = some ws := by rw [List.take_succ_eq_append_getElem hik, hei]; exact hws
    rcases alt with ⟨hp, z, hf, rfl⟩ | ⟨hp, rfl⟩
    · refine wpAny_mono (htest _ X' _ lk' e true cin hp) (fun q s₄ h₄ => ?_) fun _ _ e => e
      obtain ⟨rfl, k4⟩ := h₄
      refine ⟨k4, ?_⟩
      simp only [if_true]
      refine wpAny_mono (helt _ X' s₄ lk' e z (cin.ext (keeps_ext k4)) hf) (fun v5 s₅ h₅ => ?_) fun _ _ e => e
      exact ⟨h₅.1, _, hnext, (hz2.ext (keeps_ext (keeps_trans k4 h₅.1))).append (Rs.one h₅.2)⟩
    · refine wpAny_mono (htest _ X' _ lk' e false cin hp) (fun q s₄ h₄ => ?_) fun _ _ e => e
      obtain ⟨rfl, k4⟩ := h₄
      refine ⟨k4, ?_⟩
      simp only [Bool.false_eq_true, if_false]
      exact ⟨_, hnext, hz2.ext (keeps_ext k4)⟩
  · rintro h' tk m' vs e hns' hacc hlen ⟨zs, hz1, hz2⟩ hk3
    rw [List.take_length, hys] at hz1
    cases hz1
    refine ⟨m', hns', fun h'' hsb => ?_⟩
    have fr : ∀ b o, s.heap.get? b = some o → (b : Nat) < s₁.heap.objs.size := fun b o q => lt1 b o (keeps_ext h₁.1 b o q)
    have hDC : s₂.heap.objs.size ≠ s₂.heap.objs.size + 1 := Nat.ne_of_lt (Nat.lt_succ_self _)
    refine ⟨?_, ?_⟩
    · obtain ⟨hh1, t1, rfl, q1⟩ := h₁.1
      obtain ⟨hh2, t2, rfl, q2⟩ := hk₂
      refine ⟨h'', tk, rfl, fun b o q => ?_⟩
      have hb : (b : Nat) < hh1.objs.size := fr b o q
      have hb2 : (hh1.objs.size : Nat) < hh2.objs.size := hsz₁
      exact hsb.extBut b o (Nat.ne_of_lt (Nat.lt_succ_of_lt (Nat.lt_trans hb hb2))) (hk3 b o (Nat.ne_of_lt hb) (q2 b o (q1 b o q)))
    · rw [R]
      refine ⟨_, vs, _, rfl, (c₁.xb.ext e12).fresh, ⟨hsb.extBut _ _ hDC hacc, rfl, e, rfl⟩, ?_, Rs.mono (fun a o q1 q2 => ⟨fun hx => q1 (by rw [hX']; exact .inl hx), hsb.extBut a o (fun e => q1 (by rw [hX']; exact .inr (.inr (.inr e)))) q2⟩) ys vs hz2⟩
      exact Nat.le_trans (ofilt_len p f ds ys hys) hdl
end
end Mine
namespace Mine
open PySem PySem.SeqAt

noncomputable abbrev Nms := List (Str × NameKind)
noncomputable def notDbg (y : Str) : Bool := !(y == ("__debug__" : Str))
noncomputable def isVar (ns : Nms) (y : Str) : Bool := (ns.lookup y == some .local || ns.lookup y == some .cell) && notDbg y
noncomputable def isGlob (ns : Nms) (y : Str) : Bool := ns.lookup y == some .globalImplicit && notDbg y
/-- the static look at a comprehension's scope -/
noncomputable def compOk (ns : Nms) (N : List (Nat × Str)) (sc : Scope) (x : Nat) (y : Str) (cp : List (Nat × Str)) : Bool :=
  sc.kind == .function && sc.names.lookup y == some .local && sc.names.all (fun z => z.2 != .cell) && sc.names.all (fun z => z.2 != .local || sc.names.lookup z.1 == some .local) &&
  sc.names.all (fun z => z.2 != .free || ns.lookup z.1 == some .cell) && cp.all (fun q => N.lookup q.1 == some q.2 && q.1 != x && sc.names.lookup q.2 == some .free)

mutual
inductive Tr : Nms → List (Nat × Str) → PySem.Expr → E → Prop
  | var {ns : Nms} {N : List (Nat × Str)} {x : Nat} {y : Str} {pos : Pos} : N.lookup x = some y → isVar ns y = true → Tr ns N (.Name y pos) (.var x)
  | int {ns : Nms} {N : List (Nat × Str)} {i : Int} {k : Nat} {pos : Pos} : Tr ns N (.Constant (.int i) k pos) (.int i)
  | str {ns : Nms} {N : List (Nat × Str)} {x : Str} {l : List Nat} {k : Nat} {pos : Pos} : x.cps.toList = l → (l.all fun c => decide (c < 128)) = true → decide (l.length ≤ cap) = true → Tr ns N (.Constant (.str x) k pos) (.str l)
  | bool {ns : Nms} {N : List (Nat × Str)} {b : Bool} {k : Nat} {pos : Pos} : Tr ns N (.Constant (.bool b) k pos) (.bool b)
  | ty {ns : Nms} {N : List (Nat × Str)} {t : String} {y : Str} {pos : Pos} : y = Str.ofString t → t ∈ tyNames → isGlob ns y = true → Tr ns N (.Name y pos) (.ty t)
  | lines {ns : Nms} {N : List (Nat × Str)} {y : Str} {pos : Pos} : y = Str.ofString "_law_lines" → isGlob ns y = true → Tr ns N (.Name y pos) .lines
  | bin {ns : Nms} {N : List (Nat × Str)} {o : Bop} {q : Operator} {l r : PySem.Expr} {a b : E} {pos : Pos} : q = bopOf o → Tr ns N l a → Tr ns N r b → Tr ns N (.BinOp l q r pos) (.bin o a b)
  | neg {ns : Nms} {N : List (Nat × Str)} {l : PySem.Expr} {a : E} {pos : Pos} : Tr ns N l a → Tr ns N (.UnaryOp .USub l pos) (.neg a)
  | cmp {ns : Nms} {N : List (Nat × Str)} {o : Cop} {q : CmpOp} {l r : PySem.Expr} {a b : E} {pos : Pos} : q = copOf o → Tr ns N l a → Tr ns N r b → Tr ns N (.Compare l [q] [r] pos) (.cmp o a b)
  | idx {ns : Nms} {N : List (Nat × Str)} {l r : PySem.Expr} {a b : E} {pos : Pos} : Tr ns N l a → Tr ns N r b → Tr ns N (.Subscript l r pos) (.idx a b)
  | tail {ns : Nms} {N : List (Nat × Str)} {y : Str} {r : PySem.Expr} {a b : E} {p0 p pos : Pos} : Tr ns N (.Name y p0) a → Tr ns N r b → Tr ns N (.Subscript (.Name y p0) (.Slice (some r) none none p) pos) (.tail a b)
  | list {ns : Nms} {N : List (Nat × Str)} {ps : List PySem.Expr} {es : Es} {pos : Pos} : decide (ps.length ≤ cap) = true → Trs ns N ps es → Tr ns N (.List ps pos) (.list es)
  | tup {ns : Nms} {N : List (Nat × Str)} {ps : List PySem.Expr} {es : Es} {k : Nat} {pos : Pos} : decide (ps.length ≤ cap) = true → Trs ns N ps es → Tr ns N (.Tuple ps k pos) (.tup es)
  | comp {ns : Nms} {N : List (Nat × Str)} {pe pi : PySem.Expr} {elt it : E} {x : Nat} {y : Str} {sc : Scope} {px pos : Pos} (cp : List (Nat × Str)) : compOk ns N sc x y cp = true → Tr ns N pi it → Tr (relabN sc.names) ((x, y) :: cp) pe elt →
      Tr ns N (.ListComp pe [⟨.Name y px, pi, [], 0⟩] sc pos) (.comp elt x it)
  | compIf {ns : Nms} {N : List (Nat × Str)} {pe pi pc : PySem.Expr} {elt it : E} {t : T} {x : Nat} {y : Str} {sc : Scope} {px pos : Pos} (cp : List (Nat × Str)) : compOk ns N sc x y cp = true → Tr ns N pi it → Tr (relabN sc.names) ((x, y) :: cp) pe elt → TrT (relabN sc.names) ((x, y) :: cp) pc t →
      Tr ns N (.ListComp pe [⟨.Name y px, pi, [pc], 0⟩] sc pos) (.compIf elt x it t)
  | call {ns : Nms} {N : List (Nat × Str)} {f : String} {y : Str} {pe : PySem.Expr} {ps : List PySem.Expr} {es : Es} {p pos : Pos} : y = Str.ofString f → isGlob ns y = true → Trs ns N (pe :: ps) es → Tr ns N (.Call (.Name y p) (pe :: ps) [] pos) (.call f es)
  | len {ns : Nms} {N : List (Nat × Str)} {y : Str} {pe : PySem.Expr} {e : E} {p pos : Pos} : y = Str.ofString "len" → isGlob ns y = true → Tr ns N pe e → Tr ns N (.Call (.Name y p) [pe] [] pos) (.len e)
  | max {ns : Nms} {N : List (Nat × Str)} {y : Str} {pe pr : PySem.Expr} {a b : E} {p pos : Pos} : y = Str.ofString "max" → isGlob ns y = true → Tr ns N pe a → Tr ns N pr b → Tr ns N (.Call (.Name y p) [pe, pr] [] pos) (.max a b)
  | range1 {ns : Nms} {N : List (Nat × Str)} {y : Str} {pe : PySem.Expr} {e : E} {p pos : Pos} : y = Str.ofString "range" → isGlob ns y = true → Tr ns N pe e → Tr ns N (.Call (.Name y p) [pe] [] pos) (.range1 e)
  | range3 {ns : Nms} {N : List (Nat × Str)} {y : Str} {pe pr pq : PySem.Expr} {a b c : E} {p pos : Pos} : y = Str.ofString "range" → isGlob ns y = true → Tr ns N pe a → Tr ns N pr b → Tr ns N pq c → Tr ns N (.Call (.Name y p) [pe, pr, pq] [] pos) (.range3 a b c)
  | type {ns : Nms} {N : List (Nat × Str)} {y : Str} {pe : PySem.Expr} {e : E} {p pos : Pos} : y = Str.ofString "type" → isGlob ns y = true → Tr ns N pe e → Tr ns N (.Call (.Name y p) [pe] [] pos) (.type e)
inductive Trs : Nms → List (Nat × Str) → List PySem.Expr → Es → Prop
  | nil {ns : Nms} {N : List (Nat × Str)} : Trs ns N [] .nil
  | cons {ns : Nms} {N : List (Nat × Str)} {p : PySem.Expr} {ps : List PySem.Expr} {e : E} {es : Es} : Tr ns N p e → Trs ns N ps es → Trs ns N (p :: ps) (.cons e es)
inductive TrT : Nms → List (Nat × Str) → PySem.Expr → T → Prop
  | cmp {ns : Nms} {N : List (Nat × Str)} {q : CmpOp} {l r : PySem.Expr} {e : E} {pos : Pos} : Tr ns N (.Compare l [q] [r] pos) e → TrT ns N (.Compare l [q] [r] pos) (.e e)
  | call {ns : Nms} {N : List (Nat × Str)} {f : PySem.Expr} {ps : List PySem.Expr} {e : E} {pos : Pos} : Tr ns N (.Call f ps [] pos) e → TrT ns N (.Call f ps [] pos) (.e e)
  | not {ns : Nms} {N : List (Nat × Str)} {p : PySem.Expr} {t : T} {pos : Pos} : TrT ns N p t → TrT ns N (.UnaryOp .Not p pos) (.not t)
  | and {ns : Nms} {N : List (Nat × Str)} {ps : List PySem.Expr} {ts : Ts} {pos : Pos} : TrTs ns N ps ts → TrT ns N (.BoolOp .And ps pos) (.and ts)
  | or {ns : Nms} {N : List (Nat × Str)} {ps : List PySem.Expr} {ts : Ts} {pos : Pos} : TrTs ns N ps ts → TrT ns N (.BoolOp .Or ps pos) (.or ts)
inductive TrTs : Nms → List (Nat × Str) → List PySem.Expr → Ts → Prop
  | nil {ns : Nms} {N : List (Nat × Str)} : TrTs ns N [] .nil
  | cons {ns : Nms} {N : List (Nat × Str)} {p : PySem.Expr} {ps : List PySem.Expr} {t : T} {ts : Ts} : TrT ns N p t → TrTs ns N ps ts → TrTs ns N (p :: ps) (.cons t ts)
end

/-- what a tie says, by the mini expression's head -/
noncomputable def TrInv (ns : Nms) (N : List (Nat × Str)) (p : PySem.Expr) : E → Prop
  | .var x => ∃ y pos, p = .Name y pos ∧ N.lookup x = some y ∧ isVar ns y = true
  | .int i => ∃ k pos, p = .Constant (.int i) k pos
  | .str l => ∃ x k pos, p = .Constant (.str x) k pos ∧ x.cps.toList = l ∧ (l.all fun c => decide (c < 128)) = true ∧ decide (l.length ≤ cap) = true
  | .bool b => ∃ k pos, p = .Constant (.bool b) k pos
  | .ty t => ∃ y pos, p = .Name y pos ∧ y = Str.ofString t ∧ t ∈ tyNames ∧ isGlob ns y = true
  | .lines => ∃ y pos, p = .Name y pos ∧ y = Str.ofString "_law_lines" ∧ isGlob ns y = true
  | .bin o a b => ∃ q l r pos, p = .BinOp l q r pos ∧ q = bopOf o ∧ Tr ns N l a ∧ Tr ns N r b
  | .neg a => ∃ l pos, p = .UnaryOp .USub l pos ∧ Tr ns N l a
  | .cmp o a b => ∃ q l r pos, p = .Compare l [q] [r] pos ∧ q = copOf o ∧ Tr ns N l a ∧ Tr ns N r b
  | .idx a b => ∃ l r pos, p = .Subscript l r pos ∧ Tr ns N l a ∧ Tr ns N r b
  | .tail a b => ∃ y r p0 p1 pos, p = .Subscript (.Name y p0) (.Slice (some r) none none p1) pos ∧ Tr ns N (.Name y p0) a ∧ Tr ns N r b
  | .list es => ∃ ps pos, p = .List ps pos ∧ decide (ps.length ≤ cap) = true ∧ Trs ns N ps es
  | .tup es => ∃ ps k pos, p = .Tuple ps k pos ∧ decide (ps.length ≤ cap) = true ∧ Trs ns N ps es
  | .comp elt x it => ∃ pe pi y sc px pos cp, p = .ListComp pe [⟨.Name y px, pi, [], 0⟩] sc pos ∧ compOk ns N sc x y cp = true ∧ Tr ns N pi it ∧ Tr (relabN sc.names) ((x, y) :: cp) pe elt
  | .compIf elt x it t => ∃ pe pi pc y sc px pos cp, p = .ListComp pe [⟨.Name y px, pi, [pc], 0⟩] sc pos ∧ compOk ns N sc x y cp = true ∧ Tr ns N pi it ∧ Tr (relabN sc.names) ((x, y) :: cp) pe elt ∧ TrT (relabN sc.names) ((x, y) :: cp) pc t
  | .call f es => ∃ y pe ps p1 pos, p = .Call (.Name y p1) (pe :: ps) [] pos ∧ y = Str.ofString f ∧ isGlob ns y = true ∧ Trs ns N (pe :: ps) es
  | .len e => ∃ y pe p1 pos, p = .Call (.Name y p1) [pe] [] pos ∧ y = Str.ofString "len" ∧ isGlob ns y = true ∧ Tr ns N pe e
  | .max a b => ∃ y pe pr p1 pos, p = .Call (.Name y p1) [pe, pr] [] pos ∧ y = Str.ofString "max" ∧ isGlob ns y = true ∧ Tr ns N pe a ∧ Tr ns N pr b
  | .range1 e => ∃ y pe p1 pos, p = .Call (.Name y p1) [pe] [] pos ∧ y = Str.ofString "range" ∧ isGlob ns y = true ∧ Tr ns N pe e
  | .range3 a b c => ∃ y pe pr pq p1 pos, p = .Call (.Name y p1) [pe, pr, pq] [] pos ∧ y = Str.ofString "range" ∧ isGlob ns y = true ∧ Tr ns N pe a ∧ Tr ns N pr b ∧ Tr ns N pq c
  | .type e => ∃ y pe p1 pos, p = .Call (.Name y p1) [pe] [] pos ∧ y = Str.ofString "type" ∧ isGlob ns y = true ∧ Tr ns N pe e
theorem Tr.inv {ns : Nms} {N : List (Nat × Str)} {p : PySem.Expr} {e : E} (h : Tr ns N p e) : TrInv ns N p e := by
  cases h with
  | var a b => exact ⟨_, _, rfl, a, b⟩
  | int => exact ⟨_, _, rfl⟩
  | str a b c => exact ⟨_, _, _, rfl, a, b, c⟩
  | bool => exact ⟨_, _, rfl⟩
  | ty a b c => exact ⟨_, _, rfl, a, b, c⟩
  | lines a b => exact ⟨_, _, rfl, a, b⟩
  | bin a b c => exact ⟨_, _, _, _, rfl, a, b, c⟩
  | neg a => exact ⟨_, _, rfl, a⟩
  | cmp a b c => exact ⟨_, _, _, _, rfl, a, b, c⟩
  | idx a b => exact ⟨_, _, _, rfl, a, b⟩
  | tail a b => exact ⟨_, _, _, _, _, rfl, a, b⟩
  | list a b => exact ⟨_, _, rfl, a, b⟩
  | tup a b => exact ⟨_, _, _, rfl, a, b⟩
  | comp cp a b c => exact ⟨_, _, _, _, _, _, cp, rfl, a, b, c⟩
  | compIf cp a b c d => exact ⟨_, _, _, _, _, _, _, cp, rfl, a, b, c, d⟩
  | call a b c => exact ⟨_, _, _, _, _, rfl, a, b, c⟩
  | len a b c => exact ⟨_, _, _, _, rfl, a, b, c⟩
  | max a b c d => exact ⟨_, _, _, _, _, rfl, a, b, c, d⟩
  | range1 a b c => exact ⟨_, _, _, _, rfl, a, b, c⟩
  | range3 a b c d e => exact ⟨_, _, _, _, _, _, rfl, a, b, c, d, e⟩
  | type a b c => exact ⟨_, _, _, _, rfl, a, b, c⟩

section
variable {ns : Nms} {N : List (Nat × Str)}
noncomputable def headOk : PySem.Expr → Bool
  | .Name .. | .Constant .. | .BinOp .. | .UnaryOp .. | .Compare .. | .Subscript .. | .List .. | .Tuple .. | .ListComp .. | .Call .. => true
  | _ => false
theorem head_star {p : PySem.Expr} (h : headOk p = true) (ps : List PySem.Expr) (env : Env) : starEach (p :: ps) env = (false, eval p env) :: starEach ps env := by
  cases p <;> first | rfl | cases h
theorem head_set {p : PySem.Expr} (h : headOk p = true) (env : Env) (v : Value) : foldedSetIterable p env v = pure v := by
  cases p <;> first | rfl | cases h
theorem head_mark {p : PySem.Expr} (h : headOk p = true) (o : CmpOp) : behindInMarks o p = false := by
  cases p <;> first | rfl | cases h
theorem Tr.head {p : PySem.Expr} {e : E} (h : Tr ns N p e) : headOk p = true := by
  cases h <;> rfl
theorem Tr.star {p : PySem.Expr} {e : E} (h : Tr ns N p e) (ps : List PySem.Expr) (env : Env) : starEach (p :: ps) env = (false, eval p env) :: starEach ps env := head_star h.head ps env
theorem Tr.noSet {p : PySem.Expr} {e : E} (h : Tr ns N p e) (env : Env) (v : Value) : foldedSetIterable p env v = pure v := head_set h.head env v
theorem Tr.noMark {p : PySem.Expr} {e : E} (h : Tr ns N p e) (o : CmpOp) : behindInMarks o p = false := head_mark h.head o
theorem Tr.noSlice {p : PySem.Expr} {e : E} (h : Tr ns N p e) (l u st : Option PySem.Expr) (q : Pos) : p ≠ .Slice l u st q := fun e => by
  have := h.head
  rw [e] at this
  cases this
theorem Tr.noSwap {p : PySem.Expr} {e : E} (h : Tr ns N p e) (t : Option PySem.Expr) (line : Nat) (env : Env) (hc : ∀ a b c, e ≠ .comp a b c) (hi : ∀ a b c d, e ≠ .compIf a b c d) : swapsWith p t line env = pure false := by
  cases h <;> first | rfl | exact absurd rfl (hc _ _ _) | exact absurd rfl (hi _ _ _ _)
theorem Tr.noMarkR {l r : PySem.Expr} {q : CmpOp} {e : E} {pos : Pos} (h : Tr ns N (.Compare l [q] [r] pos) e) : behindInMarks q r = false := by
  cases h with
  | cmp h0 h2 h3 => exact h3.noMark _
theorem Trs.star1 {p : PySem.Expr} {ps : List PySem.Expr} {es : Es} (h : Trs ns N (p :: ps) es) (env : Env) : starEach (p :: ps) env = (false, eval p env) :: starEach ps env := by
  cases h with
  | cons a b => exact a.star _ env
end

theorem isVar_of {ns : Nms} {y : Str} {env : Env} (hn : env.scope.names = ns) (h : isVar ns y = true) : (env.kindOf y = some .local ∨ env.kindOf y = some .cell) ∧ (y == ("__debug__" : Str)) = false := by
  unfold isVar notDbg at h
  unfold Env.kindOf
  rw [hn]
  simp only [Bool.and_eq_true, Bool.or_eq_true, beq_iff_eq, Bool.not_eq_true'] at h
  exact h
theorem isGlob_of {ns : Nms} {y : Str} {env : Env} (hn : env.scope.names = ns) (h : isGlob ns y = true) : env.kindOf y = some .globalImplicit ∧ (y == ("__debug__" : Str)) = false := by
  unfold isGlob notDbg at h
  unfold Env.kindOf
  rw [hn]
  simp only [Bool.and_eq_true, beq_iff_eq, Bool.not_eq_true'] at h
  exact h
theorem compOk_of {ns : Nms} {N : List (Nat × Str)} {sc : Scope} {x : Nat} {y : Str} {cp : List (Nat × Str)} {env : Env} (hn : env.scope.names = ns) (h : compOk ns N sc x y cp = true) : CompOk env N sc x y cp := by
  unfold compOk at h
  simp only [Bool.and_eq_true, beq_iff_eq, List.all_eq_true, Bool.or_eq_true, bne_iff_ne] at h
  obtain ⟨⟨⟨⟨⟨h1, h2⟩, h3⟩, h4⟩, h5⟩, h6⟩ := h
  refine ⟨h1, h2, h3, fun z hz hl => ?_, fun z hz hf => ?_, fun u z hu => ?_⟩
  · rcases h4 z hz with h | h
    · exact absurd hl h
    · exact h
  · rcases h5 z hz with h | h
    · exact absurd hf h
    · unfold Env.kindOf; rw [hn]; exact h
  · have := h6 (u, z) (mem_of_lookup2 hu)
    exact ⟨this.1.1, this.1.2, this.2⟩

section
variable {prog : Program} {w : World} {h₀ : Heap} {n : Nat}

theorem compare_isTrue {M : Model} {A : Around} {G : Value → Shared → Prop} {s : Shared} {env : Env} {l r : PySem.Expr} {op : CmpOp} {pos : Pos} {whole : Sem Value} {Q : Bool → Shared → Prop} (hm : behindInMarks op r = false)
    (h : wpAny M A (eval (.Compare l [op] [r] pos) env) (fun c s' => wpAny M A (truthy c) Q G s') G s) : wpAny M A (isTrue (.Compare l [op] [r] pos) env whole) Q G s := fun Γ p hΓ => by
  have h' := h Γ p hΓ
  simp only [eval_Compare1, markedBehindIn_of_false hm, Sem.wp_bind', Sem.wp_holding, Sem.wp_cmd_standAt, Sem.wp_operate] at h'
  simp only [isTrue_Compare1, markedBehindIn_of_false hm, Sem.wp_bind', Sem.wp_holding, Sem.wp_cmd_standAt, Sem.wp_operate]
  exact Sem.wp_mono M Γ _ (fun a p₁ s₁ h₁ => Sem.wp_mono M Γ _ (fun b p₂ s₂ h₂ => Sem.wp_mono M Γ _ (fun c p₃ s₃ h₃ => h₃ Γ p₃ hΓ)
    (fun _ _ _ h' => h') _ _ h₂) (fun _ _ _ h' => h') _ _ h₁) (fun _ _ _ h' => h') _ _ h'

noncomputable def Sound (prog : Program) (w : World) (h₀ : Heap) (n : Nat) (Φ : Phi) : Prop := ∀ f ds d, Φ f ds = some d → Fn prog w h₀ n f ds d

mutual
theorem ev_sound {Φ : Phi} (hΦ : Sound prog w h₀ n Φ) : ∀ (e : E) {ns : Nms} {env : Env} {N : List (Nat × Str)} {A : Around} {X : Addr → Prop} {s : Shared} {lk : Str → Option Value} {ρ : Rho} {p : PySem.Expr} {d : D},
    env.scope.names = ns → Tr ns N p e → Cx h₀ n env N A X s.heap lk ρ → ev Φ e ρ = some d → Evals prog w A X s p env d
  | .var x, ns, env, N, A, X, s, lk, ρ, p, d, hn, tr, c, h => by
    obtain ⟨_, _, rfl, h1, h2⟩ := tr.inv
    simp only [ev] at h
    exact name_sound c h1 (isVar_of hn h2).1 (isVar_of hn h2).2 h
  | .int i, ns, env, N, A, X, s, lk, ρ, p, d, hn, tr, c, h => by
    obtain ⟨_, _, rfl⟩ := tr.inv
    simp only [ev, Option.some.injEq] at h
    subst h
    exact wpAny_Constant_int ev_int
  | .str l, ns, env, N, A, X, s, lk, ρ, p, d, hn, tr, c, h => by
    obtain ⟨_, _, _, rfl, h1, h2, h3⟩ := tr.inv
    simp only [ev, Option.some.injEq] at h
    subst h
    refine Calls.Constant_str ⟨keeps_tok s _, ?_⟩
    rw [R]
    exact ⟨_, _, rfl, h1, by simpa using h2, of_decide_eq_true h3⟩
  | .bool b, ns, env, N, A, X, s, lk, ρ, p, d, hn, tr, c, h => by
    obtain ⟨_, _, rfl⟩ := tr.inv
    simp only [ev, Option.some.injEq] at h
    subst h
    exact wpAny_pure ev_bool
  | .ty t, ns, env, N, A, X, s, lk, ρ, p, d, hn, tr, c, h => by
    obtain ⟨_, _, rfl, h1, h2, h3⟩ := tr.inv
    simp only [ev, Option.some.injEq] at h
    subst h h1
    exact glob_sound c (c.base.ty t h2) (isGlob_of hn h3).1 (isGlob_of hn h3).2 ⟨keeps_refl s, by rw [R]⟩
  | .lines, ns, env, N, A, X, s, lk, ρ, p, d, hn, tr, c, h => by
    obtain ⟨_, _, rfl, h1, h3⟩ := tr.inv
    simp only [ev, Option.some.injEq] at h
    subst h h1
    obtain ⟨v, g, r⟩ := c.base.lines
    exact glob_sound c g (isGlob_of hn h3).1 (isGlob_of hn h3).2 ⟨keeps_refl s, R.mono (fun a o _ q => c.ctx a o q) _ _ r⟩
  | .bin o a b, ns, env, N, A, X, s, lk, ρ, p, d, hn, tr, c, h => by
    obtain ⟨_, _, _, _, rfl, h0, h1, h2⟩ := tr.inv
    subst h0
    simp only [ev] at h
    split at h
    · rename_i x hx
      split at h
      · rename_i y hy
        exact bin_sound c (ev_sound hΦ a hn h1 c hx) (fun s' k => ev_sound hΦ b hn h2 (c.ext (keeps_ext k)) hy) h
      · cases h
    · cases h
  | .neg a, ns, env, N, A, X, s, lk, ρ, p, d, hn, tr, c, h => by
    obtain ⟨_, _, rfl, h1⟩ := tr.inv
    simp only [ev] at h
    split at h
    · rename_i i hx
      cases h
      exact negE_sound (ev_sound hΦ a hn h1 c hx)
    · cases h
  | .cmp o a b, ns, env, N, A, X, s, lk, ρ, p, d, hn, tr, c, h => by
    obtain ⟨_, _, _, _, rfl, h0, h1, h2⟩ := tr.inv
    subst h0
    simp only [ev] at h
    split at h
    · rename_i x hx
      split at h
      · rename_i y hy
        simp only [Option.map_eq_some_iff] at h
        obtain ⟨q, h, rfl⟩ := h
        exact cmp_sound c (h2.noMark _) (ev_sound hΦ a hn h1 c hx) (fun s' k => ev_sound hΦ b hn h2 (c.ext (keeps_ext k)) hy) h
      · cases h
    · cases h
  | .idx a b, ns, env, N, A, X, s, lk, ρ, p, d, hn, tr, c, h => by
    obtain ⟨_, _, _, rfl, h1, h2⟩ := tr.inv
    simp only [ev] at h
    split at h
    · rename_i x hx
      split at h
      · rename_i y hy
        exact idxE_sound (h2.noSlice) (ev_sound hΦ a hn h1 c hx) (fun s' k => ev_sound hΦ b hn h2 (c.ext (keeps_ext k)) hy) h
      · cases h
    · cases h
  | .tail a b, ns, env, N, A, X, s, lk, ρ, p, d, hn, tr, c, h => by
    obtain ⟨_, _, _, _, _, rfl, h1, h2⟩ := tr.inv
    simp only [ev] at h
    split at h
    · rename_i x hx
      split at h
      · rename_i y hy
        exact tailE_sound c (ev_sound hΦ a hn h1 c hx) (fun s' k => ev_sound hΦ b hn h2 (c.ext (keeps_ext k)) hy) h
      · cases h
    · cases h
  | .list es, ns, env, N, A, X, s, lk, ρ, p, d, hn, tr, c, h => by
    obtain ⟨_, _, rfl, h0, h1⟩ := tr.inv
    simp only [ev, Option.map_eq_some_iff] at h
    obtain ⟨ds, h, rfl⟩ := h
    obtain ⟨h2, h3⟩ := evs_sound hΦ es hn h1 c h
    exact listE_sound c (h2 _) (by rw [h3]; exact of_decide_eq_true h0)
  | .tup es, ns, env, N, A, X, s, lk, ρ, p, d, hn, tr, c, h => by
    obtain ⟨_, _, _, rfl, h0, h1⟩ := tr.inv
    simp only [ev, Option.map_eq_some_iff] at h
    obtain ⟨ds, h, rfl⟩ := h
    obtain ⟨h2, h3⟩ := evs_sound hΦ es hn h1 c h
    exact tupE_sound c (h2 _) (by rw [h3]; exact of_decide_eq_true h0)
  | .comp elt x it, ns, env, N, A, X, s, lk, ρ, p, d, hn, tr, c, h => by
    obtain ⟨_, _, _, _, _, _, cp, rfl, hok, h1, h2⟩ := tr.inv
    simp only [ev] at h
    split at h
    · rename_i di hi
      split at h
      · rename_i ds hds
        simp only [Option.map_eq_some_iff, omap_ofilt] at h
        obtain ⟨ys, h, rfl⟩ := h
        have ok := compOk_of (env := env) hn hok
        refine comp_sound c ok (ev_sound hΦ it hn h1 c hi) hds h (fun v => h1.noSet env v) (fun C X' s' lk' e b c' hb => ?_) (fun C X' s' lk' e z c' hz => ?_)
        · cases hb
          exact wpAny_tests_nil ⟨rfl, keeps_refl _⟩
        · exact ev_sound hΦ elt (relabel_names ok c.fm.kind) h2 c' hz
      · cases h
    · cases h
  | .compIf elt x it t, ns, env, N, A, X, s, lk, ρ, p, d, hn, tr, c, h => by
    obtain ⟨_, _, _, _, _, _, _, cp, rfl, hok, h1, h2, h3⟩ := tr.inv
    simp only [ev] at h
    split at h
    · rename_i di hi
      split at h
      · rename_i ds hds
        simp only [Option.map_eq_some_iff] at h
        obtain ⟨ys, h, rfl⟩ := h
        have ok := compOk_of (env := env) hn hok
        refine comp_sound c ok (ev_sound hΦ it hn h1 c hi) hds h (fun v => h1.noSet env v) (fun C X' s' lk' e b c' hb => ?_) (fun C X' s' lk' e z c' hz => ?_)
        · exact wpAny_tests_one (tst_sound hΦ t (relabel_names ok c.fm.kind) h3 c' hb)
        · exact ev_sound hΦ elt (relabel_names ok c.fm.kind) h2 c' hz
      · cases h
    · cases h
  | .call f es, ns, env, N, A, X, s, lk, ρ, p, d, hn, tr, c, h => by
    obtain ⟨_, _, _, _, _, rfl, h0, h1, h2⟩ := tr.inv
    simp only [ev] at h
    subst h0
    split at h
    · rename_i ds hds
      obtain ⟨h3, _⟩ := evs_sound hΦ es hn h2 c hds
      exact callF_sound c (hΦ f ds d h) (isGlob_of hn h1).1 (isGlob_of hn h1).2 (h2.star1 env) (h3 _)
    · cases h
  | .len a, ns, env, N, A, X, s, lk, ρ, p, d, hn, tr, c, h => by
    obtain ⟨_, _, _, _, rfl, h0, h1, h2⟩ := tr.inv
    subst h0
    simp only [ev] at h
    split at h
    · rename_i x hx
      refine callB_sound c c.base.len (isGlob_of hn h1).1 (isGlob_of hn h1).2 (h2.star [] env) (fun x hx => by cases hx) (all_cons (h2.star [] env) (ev_sound hΦ a hn h2 c hx) fun s' _ => all_nil) (fun s' vs k r => ?_)
      rw [Rs] at r
      obtain ⟨v, vs', rfl, r1, r2⟩ := r
      rw [Rs] at r2
      subst r2
      exact len_sound r1 h
    · cases h
  | .max a b, ns, env, N, A, X, s, lk, ρ, p, d, hn, tr, c, h => by
    obtain ⟨_, _, _, _, _, rfl, h0, h1, h2, h3⟩ := tr.inv
    subst h0
    simp only [ev] at h
    split at h
    · rename_i x hx
      split at h
      · rename_i y hy
        refine callB_sound c c.base.max (isGlob_of hn h1).1 (isGlob_of hn h1).2 (h2.star _ env) (fun x hx => by rw [h3.star] at hx; rcases List.mem_cons.mp hx with rfl | hx; rfl; cases hx)
          (all_cons (h2.star _ env) (ev_sound hΦ a hn h2 c hx) fun s' k => all_cons (h3.star _ env) (ev_sound hΦ b hn h3 (c.ext (keeps_ext k)) hy) fun s'' _ => all_nil) (fun s' vs k r => ?_)
        rw [Rs] at r
        obtain ⟨v, vs', rfl, r1, r2⟩ := r
        rw [Rs] at r2
        obtain ⟨v2, vs', rfl, r2, r3⟩ := r2
        rw [Rs] at r3
        subst r3
        exact max_sound c.ao r1 r2 h
      · cases h
    · cases h
  | .range1 a, ns, env, N, A, X, s, lk, ρ, p, d, hn, tr, c, h => by
    obtain ⟨_, _, _, _, rfl, h0, h1, h2⟩ := tr.inv
    subst h0
    simp only [ev] at h
    split at h
    · rename_i i hx
      refine callT_sound c c.base.range (isGlob_of hn h1).1 (isGlob_of hn h1).2 (h2.star [] env) (fun x hx => by cases hx) (all_cons (h2.star [] env) (ev_sound hΦ a hn h2 c hx) fun s' _ => all_nil) (fun s' vs k r => ?_)
      rw [Rs] at r
      obtain ⟨v, vs', rfl, r1, r2⟩ := r
      rw [Rs] at r2
      subst r2
      exact range1_sound (c.xb.ext (keeps_ext k)) r1 h
    · cases h
  | .range3 a b e, ns, env, N, A, X, s, lk, ρ, p, d, hn, tr, c, h => by
    obtain ⟨_, _, _, _, _, _, rfl, h0, h1, h2, h3, h4⟩ := tr.inv
    subst h0
    simp only [ev] at h
    split at h
    · rename_i i hx
      split at h
      · rename_i j hy
        split at h
        · rename_i k hz
          refine callT_sound c c.base.range (isGlob_of hn h1).1 (isGlob_of hn h1).2 (h2.star _ env) (fun x hx => by
              rw [h3.star, h4.star] at hx; rcases List.mem_cons.mp hx with rfl | hx; rfl; rcases List.mem_cons.mp hx with rfl | hx; rfl; cases hx)
            (all_cons (h2.star _ env) (ev_sound hΦ a hn h2 c hx) fun s' k => all_cons (h3.star _ env) (ev_sound hΦ b hn h3 (c.ext (keeps_ext k)) hy) fun s'' k' => all_cons (h4.star _ env) (ev_sound hΦ e hn h4 (c.ext (keeps_ext (keeps_trans k k'))) hz) fun s''' _ => all_nil) (fun s' vs k r => ?_)
          rw [Rs] at r
          obtain ⟨v, vs', rfl, r1, r2⟩ := r
          rw [Rs] at r2
          obtain ⟨v2, vs', rfl, r2, r3⟩ := r2
          rw [Rs] at r3
          obtain ⟨v3, vs', rfl, r3, r4⟩ := r3
          rw [Rs] at r4
          subst r4
          exact range3_sound (c.xb.ext (keeps_ext k)) r1 r2 r3 h
        · cases h
      · cases h
    · cases h
  | .type a, ns, env, N, A, X, s, lk, ρ, p, d, hn, tr, c, h => by
    obtain ⟨_, _, _, _, rfl, h0, h1, h2⟩ := tr.inv
    subst h0
    simp only [ev] at h
    split at h
    · rename_i x hx
      refine callT_sound c c.base.type (isGlob_of hn h1).1 (isGlob_of hn h1).2 (h2.star [] env) (fun x hx => by cases hx) (all_cons (h2.star [] env) (ev_sound hΦ a hn h2 c hx) fun s' _ => all_nil) (fun s' vs k r => ?_)
      rw [Rs] at r
      obtain ⟨v, vs', rfl, r1, r2⟩ := r
      rw [Rs] at r2
      subst r2
      exact type_sound r1 h
    · cases h
theorem evs_sound {Φ : Phi} (hΦ : Sound prog w h₀ n Φ) : ∀ (es : Es) {ns : Nms} {env : Env} {N : List (Nat × Str)} {A : Around} {X : Addr → Prop} {s : Shared} {lk : Str → Option Value} {ρ : Rho} {ps : List PySem.Expr} {ds : List D},
    env.scope.names = ns → Trs ns N ps es → Cx h₀ n env N A X s.heap lk ρ → evs Φ es ρ = some ds → (∀ pos, EvalsAll prog w A X s ps pos env ds) ∧ ds.length = ps.length
  | .nil, ns, env, N, A, X, s, lk, ρ, ps, ds, hn, tr, c, h => by
    cases tr
    simp only [evs, Option.some.injEq] at h
    subst h
    exact ⟨fun pos => all_nil, rfl⟩
  | .cons e es, ns, env, N, A, X, s, lk, ρ, ps, ds, hn, tr, c, h => by
    cases tr with
    | cons h1 h2 =>
      simp only [evs] at h
      split at h
      · rename_i d hd
        simp only [Option.map_eq_some_iff] at h
        obtain ⟨ds', h, rfl⟩ := h
        refine ⟨fun pos => all_cons (h1.star _ env) (ev_sound hΦ e hn h1 c hd) fun s' k => (evs_sound hΦ es hn h2 (c.ext (keeps_ext k)) h).1 pos, by simp [(evs_sound hΦ es hn h2 c h).2]⟩
      · cases h
theorem tst_sound {Φ : Phi} (hΦ : Sound prog w h₀ n Φ) : ∀ (t : T) {ns : Nms} {env : Env} {N : List (Nat × Str)} {A : Around} {X : Addr → Prop} {s : Shared} {lk : Str → Option Value} {ρ : Rho} {p : PySem.Expr} {b : Bool},
    env.scope.names = ns → TrT ns N p t → Cx h₀ n env N A X s.heap lk ρ → tst Φ t ρ = some b → Tests prog w A s p env b
  | .e a, ns, env, N, A, X, s, lk, ρ, p, b, hn, tr, c, h => by
    simp only [tst] at h
    split at h
    · rename_i b' hb
      cases h
      cases tr with
      | call h1 => exact plainT_sound (fun _ => rfl) (ev_sound hΦ a hn h1 c hb)
      | cmp h1 =>
        refine compare_isTrue h1.noMarkR (wpAny_mono (ev_sound hΦ a hn h1 c hb) (fun v s' e => ?_) fun _ _ e => e)
        have := bool_inv e.2
        subst this
        exact wpAny_truthy_bool ⟨rfl, e.1⟩
    · cases h
  | .not t, ns, env, N, A, X, s, lk, ρ, p, b, hn, tr, c, h => by
    cases tr with
    | not h1 =>
      simp only [tst, Option.map_eq_some_iff] at h
      obtain ⟨b', h, rfl⟩ := h
      exact PyProof.Rows.isTrue_not (wpAny_mono (tst_sound hΦ t hn h1 c h) (fun q s' e => ⟨by rw [e.1], e.2⟩) fun _ _ e => e)
  | .and ts, ns, env, N, A, X, s, lk, ρ, p, b, hn, tr, c, h => by
    cases tr with
    | and h1 =>
      simp only [tst] at h
      exact tand_sound hΦ ts hn h1 c h
  | .or ts, ns, env, N, A, X, s, lk, ρ, p, b, hn, tr, c, h => by
    cases tr with
    | or h1 =>
      simp only [tst] at h
      exact tor_sound hΦ ts hn h1 c h
theorem tand_sound {Φ : Phi} (hΦ : Sound prog w h₀ n Φ) : ∀ (ts : Ts) {ns : Nms} {env : Env} {N : List (Nat × Str)} {A : Around} {X : Addr → Prop} {s : Shared} {lk : Str → Option Value} {ρ : Rho} {ps : List PySem.Expr} {b : Bool} {pos : Pos},
    env.scope.names = ns → TrTs ns N ps ts → Cx h₀ n env N A X s.heap lk ρ → tand Φ ts ρ = some b → Tests prog w A s (.BoolOp .And ps pos) env b
  | .nil, ns, env, N, A, X, s, lk, ρ, ps, b, pos, hn, tr, c, h => by
    cases tr
    simp only [tand, Option.some.injEq] at h
    subst h
    exact PyProof.Rows.isTrue_and_nil ⟨rfl, keeps_refl s⟩
  | .cons t ts, ns, env, N, A, X, s, lk, ρ, ps, b, pos, hn, tr, c, h => by
    cases tr with
    | cons h1 h2 =>
      simp only [tand] at h
      refine PyProof.Rows.isTrue_and ?_
      split at h
      · rename_i ht
        refine wpAny_mono (tst_sound hΦ t hn h1 c ht) (fun q s' e => ?_) fun _ _ e => e
        obtain ⟨rfl, k⟩ := e
        rw [if_pos rfl]
        exact wpAny_mono (tand_sound (pos := pos) hΦ ts hn h2 (c.ext (keeps_ext k)) h) (fun q s'' e => ⟨e.1, keeps_trans k e.2⟩) fun _ _ e => e
      · rename_i ht
        cases h
        refine wpAny_mono (tst_sound hΦ t hn h1 c ht) (fun q s' e => ?_) fun _ _ e => e
        obtain ⟨rfl, k⟩ := e
        rw [if_neg (by decide)]
        exact ⟨rfl, k⟩
      · cases h
theorem tor_sound {Φ : Phi} (hΦ : Sound prog w h₀ n Φ) : ∀ (ts : Ts) {ns : Nms} {env : Env} {N : List (Nat × Str)} {A : Around} {X : Addr → Prop} {s : Shared} {lk : Str → Option Value} {ρ : Rho} {ps : List PySem.Expr} {b : Bool} {pos : Pos},
    env.scope.names = ns → TrTs ns N ps ts → Cx h₀ n env N A X s.heap lk ρ → tor Φ ts ρ = some b → Tests prog w A s (.BoolOp .Or ps pos) env b
  | .nil, ns, env, N, A, X, s, lk, ρ, ps, b, pos, hn, tr, c, h => by
    cases tr
    simp only [tor, Option.some.injEq] at h
    subst h
    exact PyProof.Rows.isTrue_or_nil ⟨rfl, keeps_refl s⟩
  | .cons t ts, ns, env, N, A, X, s, lk, ρ, ps, b, pos, hn, tr, c, h => by
    cases tr with
    | cons h1 h2 =>
      simp only [tor] at h
      refine PyProof.Rows.isTrue_or ?_
      split at h
      · rename_i ht
        refine wpAny_mono (tst_sound hΦ t hn h1 c ht) (fun q s' e => ?_) fun _ _ e => e
        obtain ⟨rfl, k⟩ := e
        rw [if_neg (by decide)]
        exact wpAny_mono (tor_sound (pos := pos) hΦ ts hn h2 (c.ext (keeps_ext k)) h) (fun q s'' e => ⟨e.1, keeps_trans k e.2⟩) fun _ _ e => e
      · rename_i ht
        cases h
        refine wpAny_mono (tst_sound hΦ t hn h1 c ht) (fun q s' e => ?_) fun _ _ e => e
        obtain ⟨rfl, k⟩ := e
        rw [if_pos rfl]
        exact ⟨rfl, k⟩
      · cases h
end
end
end Mine
namespace Mine
open PySem PySem.SeqAt

/-! an expression that does not read the slot m -/
noncomputable def Rho.del (ρ : Rho) (m : Nat) : Rho := List.set ρ m none
theorem del_get_ne {ρ : Rho} {m x : Nat} (h : x ≠ m) : (ρ.del m).get x = ρ.get x := by
  unfold Rho.get Rho.del
  rw [List.getElem?_set_ne (fun e => h e.symm)]
theorem del_get_self {ρ : Rho} {m : Nat} : (ρ.del m).get m = none := by
  unfold Rho.get Rho.del
  by_cases hx : m < ρ.length
  · rw [List.getElem?_set_self hx]; rfl
  · rw [List.getElem?_eq_none (by simp; lia)]; rfl
theorem omap_congr {f g : D → Option D} (h : ∀ d, f d = g d) : ∀ l, omap f l = omap g l
  | [] => rfl
  | x :: l => by simp only [omap, h, omap_congr h l]
theorem ofilt_congr {p q : D → Option Bool} {f g : D → Option D} (hp : ∀ d, p d = q d) (h : ∀ d, f d = g d) : ∀ l, ofilt p f l = ofilt q g l
  | [] => rfl
  | x :: l => by simp only [ofilt, h, hp, ofilt_congr hp h l]
theorem put_same {m x : Nat} {d : D} {ρ ρ' : Rho} {y : Nat} (hr : ∀ x, x ≠ m → ρ.get x = ρ'.get x) (hl : ρ.length = ρ'.length) (hy : y ≠ m) : (ρ.put x d).get y = (ρ'.put x d).get y := by
  by_cases hyx : y = x
  · subst hyx
    unfold Rho.get Rho.put
    by_cases h : y < ρ.length
    · rw [List.getElem?_set_self h, List.getElem?_set_self (by lia)]
    · rw [List.getElem?_eq_none (by simp; lia), List.getElem?_eq_none (by simp; lia)]
  · rw [get_put_ne hyx, get_put_ne hyx]; exact hr y hy
mutual
theorem ev_off (Φ : Phi) (m : Nat) : ∀ (e : E) (ρ ρ' : Rho), e.off m = true → (∀ x, x ≠ m → ρ.get x = ρ'.get x) → ρ.length = ρ'.length → ev Φ e ρ = ev Φ e ρ'
  | .var x, ρ, ρ', h, hr, hl => by
    simp only [E.off, bne_iff_ne] at h
    simp only [ev]; exact hr x h
  | .int _, _, _, _, _, _ => by simp only [ev]
  | .str _, _, _, _, _, _ => by simp only [ev]
  | .bool _, _, _, _, _, _ => by simp only [ev]
  | .ty _, _, _, _, _, _ => by simp only [ev]
  | .lines, _, _, _, _, _ => by simp only [ev]
  | .bin o a b, ρ, ρ', h, hr, hl => by
    simp only [E.off, Bool.and_eq_true] at h
    simp only [ev, ev_off Φ m a ρ ρ' h.1 hr hl, ev_off Φ m b ρ ρ' h.2 hr hl]
  | .neg a, ρ, ρ', h, hr, hl => by
    simp only [E.off] at h
    simp only [ev, ev_off Φ m a ρ ρ' h hr hl]
  | .cmp o a b, ρ, ρ', h, hr, hl => by
    simp only [E.off, Bool.and_eq_true] at h
    simp only [ev, ev_off Φ m a ρ ρ' h.1 hr hl, ev_off Φ m b ρ ρ' h.2 hr hl]
  | .idx a b, ρ, ρ', h, hr, hl => by
    simp only [E.off, Bool.and_eq_true] at h
    simp only [ev, ev_off Φ m a ρ ρ' h.1 hr hl, ev_off Φ m b ρ ρ' h.2 hr hl]
  | .tail a b, ρ, ρ', h, hr, hl => by
    simp only [E.off, Bool.and_eq_true] at h
    simp only [ev, ev_off Φ m a ρ ρ' h.1 hr hl, ev_off Φ m b ρ ρ' h.2 hr hl]
  | .list es, ρ, ρ', h, hr, hl => by
    simp only [E.off] at h
    simp only [ev, evs_off Φ m es ρ ρ' h hr hl]
  | .tup es, ρ, ρ', h, hr, hl => by
    simp only [E.off] at h
    simp only [ev, evs_off Φ m es ρ ρ' h hr hl]
  | .comp elt x it, ρ, ρ', h, hr, hl => by
    simp only [E.off, Bool.and_eq_true] at h
    have hp : ∀ d y, y ≠ m → (ρ.put x d).get y = (ρ'.put x d).get y := fun d y hy => put_same hr hl hy
    simp only [ev, ev_off Φ m it ρ ρ' h.2 hr hl]
    have := fun l => omap_congr (fun d => ev_off Φ m elt (ρ.put x d) (ρ'.put x d) h.1 (hp d) (by unfold Rho.put; simp [hl])) l
    simp only [this]
  | .compIf elt x it c, ρ, ρ', h, hr, hl => by
    simp only [E.off, Bool.and_eq_true] at h
    have hp : ∀ d y, y ≠ m → (ρ.put x d).get y = (ρ'.put x d).get y := fun d y hy => put_same hr hl hy
    simp only [ev, ev_off Φ m it ρ ρ' h.1.2 hr hl]
    have := fun l => ofilt_congr (fun d => tst_off Φ m c (ρ.put x d) (ρ'.put x d) h.2 (hp d) (by unfold Rho.put; simp [hl])) (fun d => ev_off Φ m elt (ρ.put x d) (ρ'.put x d) h.1.1 (hp d) (by unfold Rho.put; simp [hl])) l
    simp only [this]
  | .call f es, ρ, ρ', h, hr, hl => by
    simp only [E.off] at h
    simp only [ev, evs_off Φ m es ρ ρ' h hr hl]
  | .len a, ρ, ρ', h, hr, hl => by
    simp only [E.off] at h
    simp only [ev, ev_off Φ m a ρ ρ' h hr hl]
  | .max a b, ρ, ρ', h, hr, hl => by
    simp only [E.off, Bool.and_eq_true] at h
    simp only [ev, ev_off Φ m a ρ ρ' h.1 hr hl, ev_off Φ m b ρ ρ' h.2 hr hl]
  | .range1 a, ρ, ρ', h, hr, hl => by
    simp only [E.off] at h
    simp only [ev, ev_off Φ m a ρ ρ' h hr hl]
  | .range3 a b c, ρ, ρ', h, hr, hl => by
    simp only [E.off, Bool.and_eq_true] at h
    simp only [ev, ev_off Φ m a ρ ρ' h.1.1 hr hl, ev_off Φ m b ρ ρ' h.1.2 hr hl, ev_off Φ m c ρ ρ' h.2 hr hl]
  | .type a, ρ, ρ', h, hr, hl => by
    simp only [E.off] at h
    simp only [ev, ev_off Φ m a ρ ρ' h hr hl]
theorem evs_off (Φ : Phi) (m : Nat) : ∀ (es : Es) (ρ ρ' : Rho), es.off m = true → (∀ x, x ≠ m → ρ.get x = ρ'.get x) → ρ.length = ρ'.length → evs Φ es ρ = evs Φ es ρ'
  | .nil, _, _, _, _, _ => by simp only [evs]
  | .cons e es, ρ, ρ', h, hr, hl => by
    simp only [Es.off, Bool.and_eq_true] at h
    simp only [evs, ev_off Φ m e ρ ρ' h.1 hr hl, evs_off Φ m es ρ ρ' h.2 hr hl]
theorem tst_off (Φ : Phi) (m : Nat) : ∀ (t : T) (ρ ρ' : Rho), t.off m = true → (∀ x, x ≠ m → ρ.get x = ρ'.get x) → ρ.length = ρ'.length → tst Φ t ρ = tst Φ t ρ'
  | .e a, ρ, ρ', h, hr, hl => by
    simp only [T.off] at h
    simp only [tst, ev_off Φ m a ρ ρ' h hr hl]
  | .not t, ρ, ρ', h, hr, hl => by
    simp only [T.off] at h
    simp only [tst, tst_off Φ m t ρ ρ' h hr hl]
  | .and ts, ρ, ρ', h, hr, hl => by
    simp only [T.off] at h
    simp only [tst, tand_off Φ m ts ρ ρ' h hr hl]
  | .or ts, ρ, ρ', h, hr, hl => by
    simp only [T.off] at h
    simp only [tst, tor_off Φ m ts ρ ρ' h hr hl]
theorem tand_off (Φ : Phi) (m : Nat) : ∀ (ts : Ts) (ρ ρ' : Rho), ts.off m = true → (∀ x, x ≠ m → ρ.get x = ρ'.get x) → ρ.length = ρ'.length → tand Φ ts ρ = tand Φ ts ρ'
  | .nil, _, _, _, _, _ => by simp only [tand]
  | .cons t ts, ρ, ρ', h, hr, hl => by
    simp only [Ts.off, Bool.and_eq_true] at h
    simp only [tand, tst_off Φ m t ρ ρ' h.1 hr hl, tand_off Φ m ts ρ ρ' h.2 hr hl]
theorem tor_off (Φ : Phi) (m : Nat) : ∀ (ts : Ts) (ρ ρ' : Rho), ts.off m = true → (∀ x, x ≠ m → ρ.get x = ρ'.get x) → ρ.length = ρ'.length → tor Φ ts ρ = tor Φ ts ρ'
  | .nil, _, _, _, _, _ => by simp only [tor]
  | .cons t ts, ρ, ρ', h, hr, hl => by
    simp only [Ts.off, Bool.and_eq_true] at h
    simp only [tor, tst_off Φ m t ρ ρ' h.1 hr hl, tor_off Φ m ts ρ ρ' h.2 hr hl]
end
theorem ev_del {Φ : Phi} {m : Nat} {e : E} {ρ : Rho} {d : D} (h : e.off m = true) (hv : ev Φ e ρ = some d) : ev Φ e (ρ.del m) = some d := by
  rw [← hv]
  exact ev_off Φ m e _ _ h (fun x hx => del_get_ne hx) (by simp [Rho.del])

/-! the state between two statements -/
noncomputable def Own (env : Env) (a : Addr) : Prop := a = env.locals ∨ ∃ z, env.cells.lookup z = some a
structure EnvOk (env : Env) (N : List (Nat × Str)) : Prop where
  inj : ∀ u x y, N.lookup u = some y → N.lookup x = some y → u = x
  cellsD : ∀ z z' c, env.cells.lookup z = some c → env.cells.lookup z' = some c → z = z'
  cellsL : ∀ z c, env.cells.lookup z = some c → c ≠ env.locals
noncomputable def Item (pl : Bool) (X : Addr → Prop) (h : Heap) (rows : List Addr) (v : Value) (d : D) : Prop :=
  (R X h v d ∧ (pl = false → ∀ l, d ≠ .list l)) ∨ ∃ r l, ∃ ws : List Value, v = .ref r ∧ r ∈ rows ∧ h.IsList r ws.toArray ∧ d = .list l ∧ l.length ≤ cap ∧ Rs X h ws l
structure Mu (pl : Bool) (X : Addr → Prop) (h : Heap) (t : Addr) (rows : List Addr) (l : List D) : Prop where
  ex : ∃ vs : List Value, h.IsList t vs.toArray ∧ (pl = true → PlainL h t vs.toArray) ∧ vs.length = l.length ∧ (∀ (i : Nat) v d, vs[i]? = some v → l[i]? = some d → Item pl X h rows v d) ∧
    (∀ (i j : Nat) (r : Addr), r ∈ rows → vs[i]? = some (Value.ref r) → vs[j]? = some (Value.ref r) → i = j)
  len : l.length ≤ cap
noncomputable def XX (env : Env) (X₀ : Addr → Prop) (fp : List Addr) (a : Addr) : Prop := X₀ a ∨ Own env a ∨ a ∈ fp

theorem IsList_at {h h' : Heap} {a : Addr} {items : Array Value} (x : h.IsList a items) (k : ∀ o, h.get? a = some o → h'.get? a = some o) : h'.IsList a items :=
  let ⟨o, e, r⟩ := x; ⟨o, k o e, r⟩
theorem Item.mono {pl : Bool} {X : Addr → Prop} {h h' : Heap} {rows : List Addr} {v : Value} {d : D} (x : Item pl X h rows v d) (hk : ∀ a o, ¬ X a → h.get? a = some o → h'.get? a = some o) (hr : ∀ a ∈ rows, ∀ o, h.get? a = some o → h'.get? a = some o) : Item pl X h' rows v d := by
  rcases x with x | ⟨r, l, ws, rfl, hm, hl, rfl, hc, hs⟩
  · exact .inl ⟨R.mono (fun a o q e => ⟨q, hk a o q e⟩) d v x.1, x.2⟩
  · exact .inr ⟨r, l, ws, rfl, hm, IsList_at hl (hr r hm), rfl, hc, Rs.mono (fun a o q e => ⟨q, hk a o q e⟩) l ws hs⟩
theorem Mu.mono {pl : Bool} {X : Addr → Prop} {h h' : Heap} {t : Addr} {rows : List Addr} {l : List D} (x : Mu pl X h t rows l) (hk : ∀ a o, ¬ X a → h.get? a = some o → h'.get? a = some o) (hr : ∀ a, a = t ∨ a ∈ rows → ∀ o, h.get? a = some o → h'.get? a = some o) : Mu pl X h' t rows l := by
  obtain ⟨⟨vs, a1, a2, a3, a4, a5⟩, a6⟩ := x
  refine ⟨⟨vs, IsList_at a1 (hr t (.inl rfl)), fun p => ?_, a3, fun i v d e1 e2 => (a4 i v d e1 e2).mono hk fun a ha => hr a (.inr ha), a5⟩, a6⟩
  obtain ⟨o, k, e, r⟩ := a2 p
  exact ⟨o, k, hr t (.inl rfl) o e, r⟩

structure Sat (h₀ : Heap) (n : Nat) (A : Around) (pl : Bool) (env : Env) (N : List (Nat × Str)) (X₀ : Addr → Prop) (mu : Nat) (Pr : Addr → Obj → Prop) (s₀ : Shared) (ρ : Rho) (s : Shared) (lk : Str → Option Value) (fp : List Addr) : Prop where
  ao : AOk n A
  base : Base h₀
  eok : EnvOk env N
  same : ∃ h tk, s = { s₀ with heap := h, toks := tk }
  pr : ∀ a o, Pr a o → s.heap.get? a = some o
  pr0 : ∀ a o, h₀.get? a = some o → Pr a o
  x0 : ∀ a o, h₀.get? a = some o → ¬ X₀ a
  fm : Fm env lk s.heap
  ownL : ∀ a, Own env a → ∃ o, s.heap.get? a = some o
  ownP : ∀ a, Own env a → (∀ o, ¬ Pr a o) ∧ ¬ X₀ a
  fpL : ∀ a ∈ fp, (∃ o, s.heap.get? a = some o) ∧ (∀ o, ¬ Pr a o) ∧ ¬ X₀ a ∧ ¬ Own env a
  xb0 : XB X₀ s.heap
  sim : ∀ x y d, x ≠ mu → N.lookup x = some y → ρ.get x = some d → ∃ v, lk y = some v ∧ R (XX env X₀ fp) s.heap v d
  mu1 : ∀ d, ρ.get mu = some d → ∃ y t rows l, N.lookup mu = some y ∧ lk y = some (.ref t) ∧ d = .list l ∧ fp = t :: rows ∧ t ∉ rows ∧ Mu pl (XX env X₀ fp) s.heap t rows l
  nomut : ρ.get mu = none → fp = []

section
variable {prog : Program} {w : World} {h₀ : Heap} {n : Nat} {A : Around} {pl : Bool} {env : Env} {N : List (Nat × Str)} {X₀ : Addr → Prop} {mu : Nat} {Pr : Addr → Obj → Prop} {s₀ s : Shared} {ρ : Rho} {lk : Str → Option Value} {fp : List Addr}

theorem Sat.ext (S : Sat h₀ n A pl env N X₀ mu Pr s₀ ρ s lk fp) {s' : Shared} (k : Keeps s s') : Sat h₀ n A pl env N X₀ mu Pr s₀ ρ s' lk fp := by
  have hk := keeps_ext k
  refine ⟨S.ao, S.base, S.eok, ?_, fun a o e => hk a o (S.pr a o e), S.pr0, S.x0, S.fm.ext hk, fun a e => let ⟨o, q⟩ := S.ownL a e; ⟨o, hk a o q⟩, S.ownP, fun a e => let ⟨⟨o, q⟩, r⟩ := S.fpL a e; ⟨⟨o, hk a o q⟩, r⟩, S.xb0.ext hk,
    fun x y d a b c => let ⟨v, e, r⟩ := S.sim x y d a b c; ⟨v, e, r.ext hk⟩, fun d e => ?_, S.nomut⟩
  · obtain ⟨h, tk, rfl⟩ := S.same
    obtain ⟨h', tk', rfl, _⟩ := k
    exact ⟨h', tk', rfl⟩
  · obtain ⟨y, t, rows, l, a1, a2, a3, a4, a5, a6⟩ := S.mu1 d e
    exact ⟨y, t, rows, l, a1, a2, a3, a4, a5, a6.mono (fun a o _ q => hk a o q) fun a _ o q => hk a o q⟩
theorem Sat.pre (S : Sat h₀ n A pl env N X₀ mu Pr s₀ ρ s lk fp) {Pr' : Addr → Obj → Prop} (h1 : ∀ a o, Pr' a o → Pr a o) (h2 : ∀ a o, h₀.get? a = some o → Pr' a o) : Sat h₀ n A pl env N X₀ mu Pr' s₀ ρ s lk fp :=
  { S with pr := fun a o e => S.pr a o (h1 a o e), pr0 := h2, ownP := fun a e => ⟨fun o q => (S.ownP a e).1 o (h1 a o q), (S.ownP a e).2⟩, fpL := fun a e => let ⟨x, y, z⟩ := S.fpL a e; ⟨x, fun o q => y o (h1 a o q), z⟩ }
/-- all that stands outside the frame's own may be protected -/
theorem Sat.prot (S : Sat h₀ n A pl env N X₀ mu Pr s₀ ρ s lk fp) : Sat h₀ n A pl env N X₀ mu (fun a o => s.heap.get? a = some o ∧ ¬ Own env a ∧ a ∉ fp) s₀ ρ s lk fp :=
  { S with
    pr := fun a o e => e.1
    pr0 := fun a o e => ⟨S.pr a o (S.pr0 a o e), fun q => (S.ownP a q).1 o (S.pr0 a o e), fun q => (S.fpL a q).2.1 o (S.pr0 a o e)⟩
    ownP := fun a e => ⟨fun o q => q.2.1 e, (S.ownP a e).2⟩
    fpL := fun a e => let ⟨x, y, z⟩ := S.fpL a e; ⟨x, fun o q => q.2.2 e, z⟩ }

theorem Sat.ctx (S : Sat h₀ n A pl env N X₀ mu Pr s₀ ρ s lk fp) : Ctx h₀ (XX env X₀ fp) s.heap := fun a o e =>
  ⟨fun q => by
    rcases q with q | q | q
    · exact S.x0 a o e q
    · exact (S.ownP a q).1 o (S.pr0 a o e)
    · exact (S.fpL a q).2.1 o (S.pr0 a o e), S.pr a o (S.pr0 a o e)⟩
theorem Sat.xb (S : Sat h₀ n A pl env N X₀ mu Pr s₀ ρ s lk fp) : XB (XX env X₀ fp) s.heap := fun a q => by
  rcases q with q | q | q
  · exact S.xb0 a q
  · exact S.ownL a q
  · exact (S.fpL a q).1

theorem Sat.cx (S : Sat h₀ n A pl env N X₀ mu Pr s₀ ρ s lk fp) : Cx h₀ n env N A (XX env X₀ fp) s.heap lk (ρ.del mu) := by
  refine ⟨S.ao, S.base, S.ctx, S.xb, S.fm, fun x y d e1 e2 => ?_⟩
  by_cases hx : x = mu
  · subst hx; rw [del_get_self] at e2; cases e2
  · rw [del_get_ne hx] at e2; exact S.sim x y d hx e1 e2
theorem Sat.cxAll (S : Sat h₀ n A pl env N X₀ mu Pr s₀ ρ s lk fp) : Cx h₀ n env N A (XX env X₀ []) s.heap lk ρ := by
  have sub : ∀ a, XX env X₀ [] a → XX env X₀ fp a := fun a q => by
    rcases q with q | q | q
    · exact .inl q
    · exact .inr (.inl q)
    · cases q
  have offp : ∀ a ∈ fp, ¬ XX env X₀ [] a := fun a ha q => by
    rcases q with q | q | q
    · exact (S.fpL a ha).2.2.1 q
    · exact (S.fpL a ha).2.2.2 q
    · cases q
  refine ⟨S.ao, S.base, fun a o e => ⟨fun q => (S.ctx a o e).1 (sub a q), (S.ctx a o e).2⟩, fun a q => S.xb a (sub a q), S.fm, fun x y d e1 e2 => ?_⟩
  have weak : ∀ (v : Value) (d : D), R (XX env X₀ fp) s.heap v d → R (XX env X₀ []) s.heap v d := fun v d r => R.mono (fun a o q e => ⟨fun z => q (sub a z), e⟩) d v r
  by_cases hx : x = mu
  · subst hx
    obtain ⟨y', t, rows, l, a1, a2, rfl, rfl, a5, ⟨⟨vs, b1, b2, b3, b4, b5⟩, b6⟩⟩ := S.mu1 d e2
    rw [a1] at e1
    cases e1
    refine ⟨_, a2, ?_⟩
    rw [R]
    obtain ⟨o, g, hc, k, hd⟩ := b1
    refine ⟨t, vs, o, rfl, offp t List.mem_cons_self, ⟨g, hc, k, hd⟩, b6, ?_⟩
    have all : ∀ (l : List D) (vs : List Value), vs.length = l.length → (∀ (i : Nat) v d, vs[i]? = some v → l[i]? = some d → Item pl (XX env X₀ (t :: rows)) s.heap rows v d) → Rs (XX env X₀ []) s.heap vs l := by
      intro l
      induction l with
      | nil => intro vs hl _; rw [Rs]; exact List.eq_nil_of_length_eq_zero hl
      | cons d l ih =>
        intro vs hl hi
        cases vs with
        | nil => simp at hl
        | cons v vs =>
          rw [Rs]
          refine ⟨v, vs, rfl, ?_, ih vs (by simpa using hl) fun i v d p q => hi (i + 1) v d (by simpa using p) (by simpa using q)⟩
          rcases hi 0 v d rfl rfl with r | ⟨r, l', ws, rfl, hm, ⟨o', g', hc', k', hd'⟩, rfl, hcap, hs⟩
          · exact weak v d r.1
          · rw [R]
            exact ⟨r, ws, o', rfl, offp r (List.mem_cons_of_mem _ hm), ⟨g', hc', k', hd'⟩, hcap, Rs.mono (fun a o q e => ⟨fun z => q (sub a z), e⟩) l' ws hs⟩
    exact all l vs b3 b4
  · obtain ⟨v, a, r⟩ := S.sim x y d hx e1 e2
    exact ⟨v, a, weak v d r⟩

/-- a name is bound anew -/
theorem Sat.bound (S : Sat h₀ n A pl env N X₀ mu Pr s₀ ρ s lk fp) {y : Str} {v : Value} {G : Value → Shared → Prop} {Q : Unit → Shared → Prop} (hk : env.kindOf y = some .local ∨ env.kindOf y = some .cell)
    (h : ∀ s', (∃ h tk, s' = { s with heap := h, toks := tk }) → Fm env (fun z => if z = y then some v else lk z) s'.heap → (∀ a o, ¬ Own env a → s.heap.get? a = some o → s'.heap.get? a = some o) → (∀ a, Own env a → ∃ o, s'.heap.get? a = some o) → Q () s') :
    wpAny (model prog w) A (storeName env y v) Q G s := by
  obtain ⟨m, hm, he⟩ := S.fm.loc
  rcases hk with hk | hk
  · refine wpAny_storeName_local hk hm (fun h' hn hs => ?_) (by rw [S.fm.kind]; rfl)
    refine h _ ⟨h', _, rfl⟩ ⟨S.fm.kind, S.fm.glob, S.fm.blt, ⟨_, hn, fun z hz => ?_⟩, fun z hz => ?_⟩ (fun a o q e => hs.extBut a o (fun z => q (.inl z)) e) (fun a q => ?_)
    · by_cases hzy : z = y
      · simp [hzy]
      · simp only [if_neg hzy]; exact he z hz
    · obtain ⟨c, hc, ic⟩ := S.fm.cel z hz
      have hzy : z ≠ y := by rintro rfl; rw [hk] at hz; cases hz
      exact ⟨c, hc, by rw [if_neg hzy]; exact ic.sameBut hs (S.eok.cellsL z c hc)⟩
    · rcases q with rfl | ⟨z, hz⟩
      · obtain ⟨o, _, _, e, _⟩ := hn; exact ⟨o, e⟩
      · obtain ⟨o, e⟩ := S.ownL a (.inr ⟨z, hz⟩)
        exact ⟨o, hs.extBut a o (S.eok.cellsL z a hz) e⟩
  · obtain ⟨c, hc, ic⟩ := S.fm.cel y hk
    refine wpAny_storeName_cell S.fm.kind hk hc ic fun h' hc' hs => ?_
    have hcL := S.eok.cellsL y c hc
    refine h _ ⟨h', _, rfl⟩ ⟨S.fm.kind, S.fm.glob, S.fm.blt, ⟨m, hm.sameBut hs (Ne.symm hcL), fun z hz => ?_⟩, fun z hz => ?_⟩ (fun a o q e => hs.extBut a o (fun z => q (.inr ⟨y, by rw [z]; exact hc⟩)) e) (fun a q => ?_)
    · have hzy : z ≠ y := by rintro rfl; rw [hk] at hz; cases hz
      simp only [if_neg hzy]; exact he z hz
    · obtain ⟨c2, hc2, ic2⟩ := S.fm.cel z hz
      by_cases hzy : z = y
      · subst hzy
        rw [hc] at hc2
        cases hc2
        exact ⟨c, hc, by simpa using hc'⟩
      · refine ⟨c2, hc2, ?_⟩
        rw [if_neg hzy]
        exact ic2.sameBut hs fun e => hzy (S.eok.cellsD z y c2 hc2 (by rw [e]; exact hc))
    · by_cases hac : a = c
      · subst hac
        obtain ⟨o, e, _⟩ := hc'
        exact ⟨o, e⟩
      · obtain ⟨o, e⟩ := S.ownL a q
        exact ⟨o, hs.extBut a o hac e⟩

theorem Sat.store (S : Sat h₀ n A pl env N X₀ mu Pr s₀ ρ s lk fp) {x : Nat} {y : Str} {v : Value} {d : D} {G : Value → Shared → Prop} (hx : x ≠ mu) (hN : N.lookup x = some y) (hk : env.kindOf y = some .local ∨ env.kindOf y = some .cell) (r : R (XX env X₀ fp) s.heap v d) :
    wpAny (model prog w) A (storeName env y v) (fun _ s' => ∃ lk', Sat h₀ n A pl env N X₀ mu Pr s₀ (ρ.put x d) s' lk' fp) G s := by
  refine S.bound hk fun s' ⟨h', tk, e⟩ fm' keep live => ?_
  subst e
  have hkX : ∀ a o, ¬ XX env X₀ fp a → s.heap.get? a = some o → h'.get? a = some o := fun a o q e => keep a o (fun z => q (.inr (.inl z))) e
  refine ⟨_, S.ao, S.base, S.eok, ?_, fun a o q => keep a o (fun z => (S.ownP a z).1 o q) (S.pr a o q), S.pr0, S.x0, fm', live, S.ownP, fun a q => ?_, fun a q => ?_, fun u z d' hu hz hd => ?_, fun d' hd => ?_, fun hd => ?_⟩
  · obtain ⟨h1, t1, rfl⟩ := S.same; exact ⟨h', tk, rfl⟩
  · obtain ⟨⟨o, e⟩, p, q1, q2⟩ := S.fpL a q
    exact ⟨⟨o, keep a o q2 e⟩, p, q1, q2⟩
  · obtain ⟨o, e⟩ := S.xb0 a q
    exact ⟨o, keep a o (fun z => (S.ownP a z).2 q) e⟩
  · by_cases hux : u = x
    · subst hux
      rw [hN] at hz
      cases hz
      have := get_put_eq hd
      subst this
      exact ⟨v, by simp, R.mono (fun a o q e => ⟨q, hkX a o q e⟩) _ v r⟩
    · rw [get_put_ne hux] at hd
      obtain ⟨v', e1, r'⟩ := S.sim u z d' hu hz hd
      have hzy : z ≠ y := by rintro rfl; exact hux (S.eok.inj u x _ hz hN)
      exact ⟨v', by rw [if_neg hzy]; exact e1, R.mono (fun a o q e => ⟨q, hkX a o q e⟩) _ v' r'⟩
  · rw [get_put_ne (Ne.symm hx)] at hd
    obtain ⟨y', t, rows, l, a1, a2, a3, a4, a5, a6⟩ := S.mu1 d' hd
    have hyy : y' ≠ y := by rintro rfl; exact hx (S.eok.inj x mu _ hN a1)
    refine ⟨y', t, rows, l, a1, by rw [if_neg hyy]; exact a2, a3, a4, a5, a6.mono hkX fun a ha o e => ?_⟩
    have hmem : a ∈ fp := by rw [a4]; rcases ha with rfl | ha; exact List.mem_cons_self; exact List.mem_cons_of_mem _ ha
    exact keep a o (S.fpL a hmem).2.2.2 e
  · rw [get_put_ne (Ne.symm hx)] at hd
    exact S.nomut hd

/-- the mutable list comes to be -/
theorem Sat.storeMu {s₁ : Shared} (S : Sat h₀ n A pl env N X₀ mu Pr s₀ ρ s lk fp) (k : Keeps s s₁) (hnone : ρ.get mu = none) {y : Str} {t : Addr} {rows : List Addr} {l : List D} {G : Value → Shared → Prop} (hN : N.lookup mu = some y) (hk : env.kindOf y = some .local ∨ env.kindOf y = some .cell)
    (hfresh : ∀ a ∈ t :: rows, s.heap.get? a = none ∧ ∃ o, s₁.heap.get? a = some o) (htr : t ∉ rows) (hmu : Mu pl (XX env X₀ (t :: rows)) s₁.heap t rows l) (hlt : mu < ρ.length) :
    wpAny (model prog w) A (storeName env y (.ref t)) (fun _ s' => (∀ a o, ¬ Own env a → s₁.heap.get? a = some o → s'.heap.get? a = some o) ∧ ∃ lk', Sat h₀ n A pl env N X₀ mu Pr s₀ (ρ.put mu (.list l)) s' lk' (t :: rows)) G s₁ := by
  have S₁ := S.ext k
  have hfp := S.nomut hnone
  have noPr : ∀ a ∈ t :: rows, ∀ o, ¬ Pr a o := fun a ha o q => by have := S.pr a o q; rw [(hfresh a ha).1] at this; cases this
  have noX : ∀ a ∈ t :: rows, ¬ X₀ a := fun a ha q => by obtain ⟨o, e⟩ := S.xb0 a q; rw [(hfresh a ha).1] at e; cases e
  have noO : ∀ a ∈ t :: rows, ¬ Own env a := fun a ha q => by obtain ⟨o, e⟩ := S.ownL a q; rw [(hfresh a ha).1] at e; cases e
  refine S₁.bound hk fun s' ⟨h', tk, e⟩ fm' keep live => ?_
  subst e
  refine ⟨keep, _, S.ao, S.base, S.eok, ?_, fun a o q => keep a o (fun z => (S.ownP a z).1 o q) (S₁.pr a o q), S.pr0, S.x0, fm', live, S.ownP, fun a q => ?_, fun a q => ?_, fun u z d' hu hz hd => ?_, fun d' hd => ?_, fun hd => ?_⟩
  · obtain ⟨h1, t1, rfl⟩ := S₁.same; exact ⟨h', tk, rfl⟩
  · obtain ⟨o, e⟩ := (hfresh a q).2
    exact ⟨⟨o, keep a o (noO a q) e⟩, noPr a q, noX a q, noO a q⟩
  · obtain ⟨o, e⟩ := S₁.xb0 a q
    exact ⟨o, keep a o (fun z => (S.ownP a z).2 q) e⟩
  · rw [get_put_ne hu] at hd
    obtain ⟨v', e1, r'⟩ := S.sim u z d' hu hz hd
    have hzy : z ≠ y := by rintro rfl; exact hu (S.eok.inj u mu _ hz hN)
    refine ⟨v', by rw [if_neg hzy]; exact e1, R.mono (fun a o q e => ⟨fun zz => ?_, ?_⟩) _ v' r'⟩
    · rcases zz with zz | zz | zz
      · exact q (.inl zz)
      · exact q (.inr (.inl zz))
      · rw [(hfresh a zz).1] at e; cases e
    · exact keep a o (fun z => q (.inr (.inl z))) (keeps_ext k a o e)
  · have := get_put_eq hd
    subst this
    refine ⟨y, t, rows, l, hN, by simp, rfl, rfl, htr, hmu.mono (fun a o q e => keep a o (fun z => q (.inr (.inl z))) e) fun a ha o e => keep a o (noO a ?_) e⟩
    rcases ha with rfl | ha
    · exact List.mem_cons_self
    · exact List.mem_cons_of_mem _ ha
  · exfalso
    unfold Rho.get Rho.put at hd
    rw [List.getElem?_set_self hlt] at hd
    cases hd

/-- a dict that nothing of ours looks at is changed -/
theorem Sat.letGo (S : Sat h₀ n A pl env N X₀ mu Pr s₀ ρ s lk fp) {C : Addr} {m : Str → Option Value} {h' : Heap} (hns : s.heap.Ns C m) (hO : ¬ Own env C) (hf : C ∉ fp) (hP : ∀ o, ¬ Pr C o) (hX : ¬ X₀ C) (hs : Heap.SameBut C s.heap h') :
    Sat h₀ n A pl env N X₀ mu Pr s₀ ρ { s with heap := h' } lk fp := by
  have keep : ∀ b o, b ≠ C → s.heap.get? b = some o → h'.get? b = some o := fun b o hb e => hs.extBut b o hb e
  have dict : ∀ o, s.heap.get? C = some o → noDict o → False := fun o e nd => by
    obtain ⟨o', es, ep, e', hd, _⟩ := hns
    rw [e] at e'
    cases e'
    exact nd es ep hd
  have hkD : ∀ b o, s.heap.get? b = some o → noDict o → h'.get? b = some o := fun b o e nd => keep b o (fun z => by subst z; exact dict o e nd) e
  have isl : ∀ b items, s.heap.IsList b items → h'.IsList b items := fun b items x => IsList_at x fun o e => hkD b o e (by
    obtain ⟨o', e', hc, k, hd⟩ := x
    rw [e] at e'
    cases e'
    intro es ep q
    rw [hd] at q
    cases q)
  refine ⟨S.ao, S.base, S.eok, ?_, fun b o q => keep b o (fun z => hP o (z ▸ q)) (S.pr b o q), S.pr0, S.x0, ⟨S.fm.kind, S.fm.glob, S.fm.blt, ?_, fun z hz => ?_⟩, fun b q => ?_, S.ownP, fun b q => ?_, fun b q => ?_, fun u z d' hu hz hd => ?_, fun d' hd => ?_, S.nomut⟩
  · obtain ⟨h1, t1, rfl⟩ := S.same; exact ⟨h', _, rfl⟩
  · obtain ⟨m, hm, he⟩ := S.fm.loc
    exact ⟨m, hm.sameBut hs (fun e => hO (.inl e.symm)), he⟩
  · obtain ⟨c, hc, ic⟩ := S.fm.cel z hz
    exact ⟨c, hc, ic.sameBut hs (fun e => hO (.inr ⟨z, e ▸ hc⟩))⟩
  · obtain ⟨o, e⟩ := S.ownL b q
    exact ⟨o, keep b o (fun z => hO (z ▸ q)) e⟩
  · obtain ⟨⟨o, e⟩, r⟩ := S.fpL b q
    exact ⟨⟨o, keep b o (fun z => hf (z ▸ q)) e⟩, r⟩
  · obtain ⟨o, e⟩ := S.xb0 b q
    exact ⟨o, keep b o (fun z => hX (z ▸ q)) e⟩
  · obtain ⟨v', e1, r'⟩ := S.sim u z d' hu hz hd
    exact ⟨v', e1, R.monoD (fun b o q e nd => ⟨q, hkD b o e nd⟩) _ v' r'⟩
  · obtain ⟨y, t, rows, l, a1, a2, a3, a4, a5, ⟨⟨vs, b1, b2, b3, b4, b5⟩, b6⟩⟩ := S.mu1 d' hd
    refine ⟨y, t, rows, l, a1, a2, a3, a4, a5, ⟨⟨vs, isl _ _ b1, fun p => ?_, b3, fun i v d e1 e2 => ?_, b5⟩, b6⟩⟩
    · obtain ⟨o, k, e, r1, r2, r3⟩ := b2 p
      exact ⟨o, k, hkD t o e (by intro es ep q; rw [r3] at q; cases q), r1, r2, r3⟩
    · rcases b4 i v d e1 e2 with x | ⟨r, l, ws, rfl, hm, hl, rfl, hc, hs'⟩
      · exact .inl ⟨R.monoD (fun b o q e nd => ⟨q, hkD b o e nd⟩) _ v x.1, x.2⟩
      · exact .inr ⟨r, l, ws, rfl, hm, isl _ _ hl, rfl, hc, Rs.monoD (fun b o q e nd => ⟨q, hkD b o e nd⟩) _ ws hs'⟩

/-- the mutable list is changed -/
theorem Sat.mutate (S : Sat h₀ n A pl env N X₀ mu Pr s₀ ρ s lk fp) {d₀ : D} (hd₀ : ρ.get mu = some d₀) {t : Addr} {rows : List Addr} (hfp : fp = t :: rows) {l' : List D} {a : Addr} (ha : a ∈ fp) {h' : Heap} (hs : Heap.SameBut a s.heap h') (hlive : ∃ o, h'.get? a = some o) (hmu : Mu pl (XX env X₀ fp) h' t rows l') :
    Sat h₀ n A pl env N X₀ mu Pr s₀ (ρ.put mu (.list l')) { s with heap := h' } lk fp := by
  have keep : ∀ b o, b ≠ a → s.heap.get? b = some o → h'.get? b = some o := fun b o hb e => hs.extBut b o hb e
  have notOwn : ∀ b, Own env b → b ≠ a := fun b q e => (S.fpL a ha).2.2.2 (e ▸ q)
  have hkX : ∀ b o, ¬ XX env X₀ fp b → s.heap.get? b = some o → h'.get? b = some o := fun b o q e => keep b o (fun z => q (.inr (.inr (by rw [z]; exact ha)))) e
  refine ⟨S.ao, S.base, S.eok, ?_, fun b o q => keep b o (fun z => (S.fpL a ha).2.1 o (z ▸ q)) (S.pr b o q), S.pr0, S.x0, ⟨S.fm.kind, S.fm.glob, S.fm.blt, ?_, fun z hz => ?_⟩, fun b q => ?_, S.ownP, fun b q => ?_, fun b q => ?_, fun u z d' hu hz hd => ?_, fun d' hd => ?_, fun hd => ?_⟩
  · obtain ⟨h1, t1, rfl⟩ := S.same; exact ⟨h', _, rfl⟩
  · obtain ⟨m, hm, he⟩ := S.fm.loc
    exact ⟨m, hm.sameBut hs (notOwn _ (.inl rfl)), he⟩
  · obtain ⟨c, hc, ic⟩ := S.fm.cel z hz
    exact ⟨c, hc, ic.sameBut hs (notOwn c (.inr ⟨z, hc⟩))⟩
  · obtain ⟨o, e⟩ := S.ownL b q
    exact ⟨o, keep b o (notOwn b q) e⟩
  · obtain ⟨⟨o, e⟩, r⟩ := S.fpL b q
    by_cases hb : b = a
    · subst hb; exact ⟨hlive, r⟩
    · exact ⟨⟨o, keep b o hb e⟩, r⟩
  · obtain ⟨o, e⟩ := S.xb0 b q
    exact ⟨o, keep b o (fun z => (S.fpL a ha).2.2.1 (z ▸ q)) e⟩
  · rw [get_put_ne hu] at hd
    obtain ⟨v', e1, r'⟩ := S.sim u z d' hu hz hd
    exact ⟨v', e1, R.mono (fun b o q e => ⟨q, hkX b o q e⟩) _ v' r'⟩
  · have := get_put_eq hd
    subst this
    obtain ⟨y, t', rows', l, a1, a2, a3, a4, a5, a6⟩ := S.mu1 d₀ hd₀
    rw [hfp] at a4
    cases a4
    exact ⟨y, t, rows, l', a1, a2, rfl, hfp, a5, hmu⟩
  · exfalso
    unfold Rho.get at hd₀
    have hlt : mu < ρ.length := by
      by_cases h : mu < ρ.length
      · exact h
      · rw [List.getElem?_eq_none (by lia)] at hd₀; cases hd₀
    unfold Rho.get Rho.put at hd
    rw [List.getElem?_set_self hlt] at hd
    cases hd
end
end Mine
namespace Mine
open PySem PySem.SeqAt

section
variable {prog : Program} {w : World} {A : Around} {R : Result → Shared → Prop} {s : Shared} {env : Env}
theorem while_step {test : PySem.Expr} {body : List Stmt}
    (h : wpAny (model prog w) A (isTrue test env (eval test env)) (fun b s₂ => if b = true then wpAny (model prog w) A (execs body env) (fun f s₃ => match f with
        | .next | .cont => codeAny (model prog w) A (.whileLoop test body [] env) R s₃
        | .brk => R (.ok .next) s₃
        | .ret v => R (.ok (.ret v)) s₃) NoE s₂ else R (.ok .next) s₂) NoE s) :
    codeAny (model prog w) A (.whileLoop test body [] env) R s := by
  refine codeAny_of_tree ?_
  show wpAny _ A ((whileTurn test body [] env).onRaise (fun x => do noteFrame x env; theTreesLotGoes x)) _ _ s
  refine wpAny_noted ?_
  simp only [whileTurn]
  refine wpAny_bind (wpAny_mono h (fun b s₂ h₂ => ?_) fun _ _ f => f.elim)
  cases b with
  | false =>
    simp only [Bool.false_eq_true, if_false] at h₂ ⊢
    exact wpAny_bind (wpAny_execs_nil (wpAny_pure h₂))
  | true =>
    simp only [if_true] at h₂ ⊢
    refine wpAny_bind (wpAny_mono h₂ (fun f s₃ h₃ => ?_) fun _ _ f => f.elim)
    cases f with
    | next => exact wpAny_pure ⟨rfl, h₃⟩
    | cont => exact wpAny_pure ⟨rfl, h₃⟩
    | brk => exact wpAny_pure h₃
    | ret v => exact wpAny_pure h₃
theorem for_step {y : Str} {px : Pos} {I : Addr} {body : List Stmt}
    (h : wpAny (model prog w) A (pyNext (.ref I)) (fun r s₁ => match r with
      | none => R (.ok .next) s₁
      | some v => wpAny (model prog w) A (storeName env y v) (fun _ s₂ => wpAny (model prog w) A (execs body env) (fun f s₃ => match f with
          | .next | .cont => codeAny (model prog w) A (.forLoop (.Name y px) (.ref I) body [] env) R s₃
          | .brk => R (.ok .next) s₃
          | .ret v => R (.ok (.ret v)) s₃) NoE s₂) NoE s₁) NoE s) :
    codeAny (model prog w) A (.forLoop (.Name y px) (.ref I) body [] env) R s := by
  refine codeAny_of_tree ?_
  show wpAny _ _ ((forTurn (.Name y px) (.ref I) body [] env).onRaise (fun x => do noteFrame x env; theTreesLotGoes x)) _ _ s
  refine wpAny_noted ?_
  simp only [forTurn]
  refine wpAny_bind (wpAny_standAt (wpAny_bind (wpAny_onRaise (wpAny_mono h (fun r s₁ h₁ => ?_) fun _ _ f => f.elim))))
  cases r with
  | none => exact wpAny_pure ⟨rfl, codeAny_block (wpAny_execs_nil h₁)⟩
  | some v =>
    refine wpAny_bind (wpAny_of_eq (a := ()) rfl ?_)
    refine wpAny_bind (wpAny_assign_Name (wpAny_mono h₁ (fun _ s₂ h₂ => wpAny_bind (wpAny_mono h₂ (fun f s₃ h₃ => ?_) fun _ _ f => f.elim)) fun _ _ f => f.elim))
    cases f with
    | next => exact wpAny_pure ⟨rfl, h₃⟩
    | cont => exact wpAny_pure ⟨rfl, h₃⟩
    | brk => exact wpAny_pure h₃
    | ret v => exact wpAny_pure h₃
end
end Mine
namespace Mine
open PySem PySem.SeqAt

section
variable {prog : Program} {w : World} {A : Around} {X : Addr → Prop} {s : Shared} {env : Env} {G : Value → Shared → Prop}

theorem fold_rep1 (v : Value) (k : Nat) : List.foldl (fun x1 x2 => x1 ++ x2) (#[] : Array Value) (List.replicate k #[v]) = (List.replicate k v).toArray := by
  have key : ∀ k (acc : Array Value), List.foldl (fun x1 x2 => x1 ++ x2) acc (List.replicate k #[v]) = acc ++ (List.replicate k v).toArray := by
    intro k
    induction k with
    | zero => intro acc; simp
    | succ k ih =>
      intro acc
      rw [List.replicate_succ, List.foldl_cons, ih, List.replicate_succ]
      apply Array.toList_inj.mp
      simp
  have := key k #[]
  simpa using this

theorem mul1_raw {a : Addr} {v : Value} {e : Nat} {k : Int} {u : Tok} {Q : Value → Shared → Prop} (g : s.heap.get? a = some (lobj [v] e)) (h0 : 0 ≤ k) (h1 : k ≤ 1000)
    (h : Q (.ref s.heap.objs.size) { s with heap := s.heap.push (lobj (List.replicate k.toNat v) 0) }) : wpAny (model prog w) A (binaryOp .Mult (.ref a) (.int k u)) Q G s := by
  refine wpAny_binaryOp_repeat_ref (T := "list") (U := "int") (by decide) ⟨_, g, rfl⟩ (fun s' => typeIs_int s' k u) noFill_list_mul F.fills_int_mul F.slot_int_rmul repeat_list F.slot_int_index.lookup
    (call_meets F.slot_int_rmul (typeIs_int s k u) F.entry_int_rmul (F.args_int_rmul_2 _ _) (lm_int_rmul_list_any k u a #[v] e none #[])
      ⟨g, rfl, ⟨_, g, rfl⟩, call_meets F.slot_list_mul ⟨_, g, rfl⟩ F.entry_list_mul (F.args_list_mul_2 _ _)
        (lm_list_mul_any a #[v] e none #[] k u (by simp [Builtin.List.listFitsIndex]; lia) (by simp; lia) (by simp [Builtin.List.listTooLong, sizeLine]; lia))
        ⟨g, ?_⟩⟩)
  have hne : (#[v] : Array Value).isEmpty = false := rfl
  simp only [hne, Bool.false_eq_true, if_false]
  rw [fold_rep1]
  exact h

/-- [0] * k : a list of its own -/
theorem fill_raw {q : Nat} {p0 p1 p2 : Pos} {pc : PySem.Expr} {k : Int} (hc : ∀ s', Keeps s s' → Evals prog w A X s' pc env (.int k)) (h0 : 0 ≤ k) (h1 : k ≤ 1000) :
    wpAny (model prog w) A (eval (.BinOp (.List [.Constant (.int 0) q p0] p1) .Mult pc p2) env) (fun v s' => Keeps s s' ∧ ∃ r u, v = .ref r ∧ s.heap.get? r = none ∧ s'.heap.get? r = some (lobj (List.replicate k.toNat (.int 0 u)) 0)) NoE s := by
  refine wpAny_BinOp (PyProof.Rows.List_ (PyProof.Rows.args_cons (wpAny_Constant_int (PyProof.Rows.args_nil ?_))))
  have k1 := keeps_push s (lobj [.int 0 s.toks] 0) (s.toks + 1)
  refine wpAny_newObj_type (wpAny_mono (hc { s with heap := s.heap.push (lobj [.int 0 s.toks] 0), toks := s.toks + 1 } k1) (fun vk s₂ h₂ => ?_) fun _ _ e => e) (show 1 ≤ sizeLine by decide)
  obtain ⟨u, rfl⟩ := int_inv h₂.2
  have g : s₂.heap.get? s.heap.objs.size = some (lobj [.int 0 s.toks] 0) := keeps_ext h₂.1 _ _ (Heap.get?_push_size _ rfl)
  refine mul1_raw g h0 h1 ⟨keeps_trans (keeps_trans k1 h₂.1) ⟨_, s₂.toks, rfl, fun b o e => Heap.get?_push_of_some _ e⟩, s₂.heap.objs.size, s.toks, rfl, ?_, Heap.get?_push_size _ rfl⟩
  cases q : s.heap.get? s₂.heap.objs.size with
  | none => rfl
  | some o =>
    have := keeps_ext (keeps_trans k1 h₂.1) _ _ q
    exact absurd (Heap.lt_size this) (Nat.lt_irrefl _)
end

section
variable {prog : Program} {w : World} {h₀ : Heap} {n : Nat} {A : Around} {pl : Bool} {env : Env} {N : List (Nat × Str)} {X₀ : Addr → Prop} {mu : Nat} {Pr : Addr → Obj → Prop} {s₀ s : Shared} {ρ : Rho} {lk : Str → Option Value} {fp : List Addr}

theorem Mu.plain {X : Addr → Prop} {h : Heap} {t : Addr} {vs : List Value} {e : Nat} {l : List D} (g : h.get? t = some (lobj vs e)) (hr : Rs X h vs l) (hl : l.length ≤ cap) (hnl : pl = false → ∀ d ∈ l, ∀ l', d ≠ .list l') : Mu pl X h t [] l := by
  refine ⟨⟨vs, ⟨_, g, rfl, e, rfl⟩, fun _ => ⟨_, e, g, rfl, rfl, rfl⟩, hr.length, fun i v d e1 e2 => ?_, fun i j r hm => by cases hm⟩, hl⟩
  obtain ⟨v', e3, r⟩ := hr.get e2
  rw [e1] at e3
  cases e3
  exact .inl ⟨r, fun p => hnl p d (List.mem_of_getElem? e2)⟩

theorem mkNil_sound (S : Sat h₀ n A pl env N X₀ mu Pr s₀ ρ s lk fp) {y : Str} {p' p1 pos : Pos} (hN : N.lookup mu = some y) (hk : env.kindOf y = some .local ∨ env.kindOf y = some .cell) (hlt : mu < ρ.length) (hnone : ρ.get mu = none) :
    wpAny (model prog w) A (exec (.Assign [.Name y p'] (.List [] p1) pos) env) (fun f s' => f = .next ∧ ∃ lk fp, Sat h₀ n A pl env N X₀ mu Pr s₀ (ρ.put mu (.list [])) s' lk fp) NoE s := by
  refine wpAny_Assign_Name (PyProof.Rows.List_ (PyProof.Rows.args_nil ?_))
  refine wpAny_newObj_type ?_ (show 0 ≤ sizeLine by decide)
  have k1 : Keeps s { s with heap := s.heap.push (lobj [] 0) } := keeps_push s (lobj [] 0) s.toks
  have g : (s.heap.push (lobj [] 0)).get? s.heap.objs.size = some (lobj [] 0) := Heap.get?_push_size _ rfl
  refine wpAny_mono (S.storeMu k1 hnone hN hk (t := s.heap.objs.size) (rows := []) (l := []) (fun a ha => ?_) (fun q => by cases q) (Mu.plain g (by rw [Rs]) (Nat.zero_le _) (fun _ d hd => by cases hd)) hlt) (fun _ s' ⟨_, lk', S'⟩ => ⟨rfl, lk', _, S'⟩) fun _ _ e => e
  have e := List.mem_singleton.mp ha
  subst e
  exact ⟨Heap.get?_none_of_le (Nat.le_refl _), _, g⟩

theorem mkFill_sound (S : Sat h₀ n A pl env N X₀ mu Pr s₀ ρ s lk fp) {y : Str} {q : Nat} {p' p0 p1 p2 pos : Pos} {pe : PySem.Expr} {k : Int} (hN : N.lookup mu = some y) (hk : env.kindOf y = some .local ∨ env.kindOf y = some .cell) (hlt : mu < ρ.length) (hnone : ρ.get mu = none)
    (he : ∀ s', Keeps s s' → Evals prog w A (XX env X₀ []) s' pe env (.int k)) (h0 : 0 ≤ k) (h1 : k ≤ 1000) :
    wpAny (model prog w) A (exec (.Assign [.Name y p'] (.BinOp (.List [.Constant (.int 0) q p0] p1) .Mult pe p2) pos) env) (fun f s' => f = .next ∧ ∃ lk fp, Sat h₀ n A pl env N X₀ mu Pr s₀ (ρ.put mu (.list (List.replicate k.toNat (.int 0)))) s' lk fp) NoE s := by
  refine wpAny_Assign_Name (wpAny_mono (fill_raw he h0 h1) (fun v s₁ h₁ => ?_) fun _ _ e => e)
  obtain ⟨k1, r, u, rfl, hfresh, g⟩ := h₁
  refine wpAny_mono (S.storeMu k1 hnone hN hk (t := r) (rows := []) (l := List.replicate k.toNat (.int 0)) (fun a ha => ?_) (fun q => by cases q) (Mu.plain g (Rs.replicate (by rw [R]; exact ⟨u, rfl⟩) _) ?_ (fun _ d hd l' e => by rw [(List.mem_replicate.mp hd).2] at e; cases e)) hlt) (fun _ s' ⟨_, lk', S'⟩ => ⟨rfl, lk', _, S'⟩) fun _ _ e => e
  · have e := List.mem_singleton.mp ha
    subst e
    exact ⟨hfresh, _, g⟩
  · rw [List.length_replicate]
    have : cap = 1000000 := rfl
    lia

/-- a list of rows, each [0] * k -/
theorem mkTab_sound (S : Sat h₀ n A pl env N X₀ mu Pr s₀ ρ s lk fp) {y z : Str} {q : Nat} {py p0 p1 p2 px pr pos' pos : Pos} {pc pit : PySem.Expr} {sc : Scope} {x' : Nat} {cp : List (Nat × Str)} {k m : Int} (hN : N.lookup mu = some y) (hk : env.kindOf y = some .local ∨ env.kindOf y = some .cell) (hlt : mu < ρ.length) (hnone : ρ.get mu = none)
    (ok : CompOk env N sc x' z cp) (hset : ∀ v, foldedSetIterable pit env v = pure v)
    (hsw : swapsWith (.ListComp (.BinOp (.List [.Constant (.int 0) q p0] p1) .Mult pc p2) [⟨.Name z px, pit, [], 0⟩] sc pos') (some (.Name y py)) pos.line env = pure true)
    {dr : D} {ds : List D} (hit : Evals prog w A (XX env X₀ []) s pit env dr) (hi : items dr = some ds) (hds : ds.length = m.toNat)
    (hc : ∀ C X' s' lk' e, Cx h₀ n (compEnvC sc (clOf env sc.names []) C env) ((x', z) :: cp) A X' s'.heap lk' (ρ.put x' e) → Evals prog w A X' s' pc (compEnvC sc (clOf env sc.names []) C env) (.int k)) (h0 : 0 ≤ k) (h1 : k ≤ 1000) (hm1 : m ≤ 1000) :
    wpAny (model prog w) A (exec (.Assign [.Name y py] (.ListComp (.BinOp (.List [.Constant (.int 0) q p0] p1) .Mult pc p2) [⟨.Name z px, pit, [], 0⟩] sc pos') pos) env)
      (fun f s' => f = .next ∧ ∃ lk fp, Sat h₀ n A pl env N X₀ mu Pr s₀ (ρ.put mu (.list (List.replicate m.toNat (.list (List.replicate k.toNat (.int 0)))))) s' lk fp) NoE s := by
  have hfp := S.nomut hnone
  subst hfp
  have c := S.cxAll
  have hcells : ∀ z ∈ sc.names, z.2 = .free → ∃ a, env.cells.lookup z.1 = some a := fun z hz hf => by
    obtain ⟨a, ha, _⟩ := S.fm.cel z.1 (ok.free z hz hf)
    exact ⟨a, ha⟩
  rw [exec_Assign_Name_used _ _ _ _ hsw]
  refine wpAny_bind (wpAny_standAt (wpAny_bind ?_))
  show wpAny _ A (do let _ ← comprehension _ sc env _ (newList []) false (eval pit env) (some (assign (.Name y py) env))) _ _ s
  refine wpAny_bind (wpAny_mono (wpAny_comprehension_free (use := some (assign (.Name y py) env)) (Q := fun _ s' => ∃ lk fp, Sat h₀ n A pl env N X₀ mu Pr s₀ (ρ.put mu (.list (List.replicate m.toNat (.list (List.replicate k.toNat (.int 0)))))) s' lk fp)
    rfl hset (closure_is hcells) ok.kind ok.locs (wpAny_mono hit (fun xv s₁ h₁ => ?_) fun _ _ e => e)) (fun _ s' hq => wpAny_pure (wpAny_pure ⟨rfl, hq⟩)) fun _ _ e => e)
  have S₁ := S.ext h₁.1
  have c₁ := c.ext (keeps_ext h₁.1)
  obtain ⟨hiter, hdl⟩ := iter_sound (prog := prog) (w := w) (G := NoE) S.ao c₁.xb h₁.2 hi
  refine wpAny_mono hiter (fun it s₂ h₂ => ?_) fun _ _ e => e
  obtain ⟨wfp, P, St, rfl, hk₂, its, hst, hsize⟩ := h₂
  have e12 := keeps_ext hk₂
  have hsz₁ : s₁.heap.objs.size < s₂.heap.objs.size := by rw [hsize]; exact Nat.lt_succ_self _
  have lt1 : ∀ b o, s₁.heap.get? b = some o → b < s₁.heap.objs.size := fun b o q => Heap.lt_size q
  have lt2 : ∀ b o, s₂.heap.get? b = some o → b < s₂.heap.objs.size := fun b o q => Heap.lt_size q
  obtain ⟨X', hX'⟩ : ∃ X' : Addr → Prop, X' = fun a => XX env X₀ [] a ∨ a = s₁.heap.objs.size ∨ a = s₂.heap.objs.size ∨ a = s₂.heap.objs.size + 1 := ⟨_, rfl⟩
  have fresh1 : ∀ a, X' a → XX env X₀ [] a ∨ s₁.heap.get? a = none := by
    intro a ha
    rw [hX'] at ha
    rcases ha with ha | ha | ha | ha
    · exact .inl ha
    all_goals
      right
      cases q : s₁.heap.get? a with
      | none => rfl
      | some o =>
        exfalso
        have h1 := lt1 a o q
        rw [ha] at h1
        first
          | exact Nat.lt_irrefl _ h1
          | exact Nat.lt_asymm h1 hsz₁
          | exact Nat.lt_asymm (Nat.lt_of_succ_lt h1) hsz₁
  have iLive : ∃ o, s₂.heap.get? s₁.heap.objs.size = some o := its.live 0 _ hst
  refine comp_core (Inv := fun i vs h => ∃ rws : List Addr, vs = rws.map Value.ref ∧ rws.length = i ∧ rws.Nodup ∧ ∀ r ∈ rws, s₂.heap.get? r = none ∧ r ≠ s₂.heap.objs.size ∧ r ≠ s₂.heap.objs.size + 1 ∧ ∃ u, h.get? r = some (lobj (List.replicate k.toNat (.int 0 u)) 0))
    its.W hst (fun b hb => ?_) its.inI hdl ok.nocell ok.kind ok.tgt ?_ ?_ ?_ (fun h i q => its.live i h q) ?_
  · rcases its.old b hb with rfl | ⟨_, o, q⟩
    · exact hsz₁
    · exact Nat.lt_trans (lt1 b o q) hsz₁
  · rintro i vs h h' ⟨rws, a1, a2, a3, a4⟩ hkk
    refine ⟨rws, a1, a2, a3, fun r hr => ?_⟩
    obtain ⟨b1, b2, b3, u, b4⟩ := a4 r hr
    refine ⟨b1, b2, b3, u, hkk r _ (fun e => ?_) b2 b3 b4⟩
    obtain ⟨o, q⟩ := iLive
    rw [← e, b1] at q
    cases q
  · intro h _
    exact ⟨[], rfl, rfl, List.nodup_nil, fun r hr => by cases hr⟩
  · rintro i v vs s' mm hik hP hlen ⟨h3, tk3, rfl⟩ hk3 _ hst3 ⟨oD, hoD⟩ hns hm ⟨rws, a1, a2, a3, a4⟩
    refine wpAny_tests_nil ⟨keeps_refl _, ?_⟩
    simp only [if_true]
    obtain ⟨e, he⟩ : ∃ e, ds[i]? = some e := ⟨ds[i], List.getElem?_eq_getElem hik⟩
    have rv := its.val i v e hP he
    have k13 : Ext s₁.heap h3 := fun b o q => hk3 b o (Nat.ne_of_lt (lt1 b o q)) (e12 b o q)
    have off : ∀ a o, ¬ XX env X₀ [] a → s₁.heap.get? a = some o → ¬ X' a := by
      intro a o q1 q2 hx
      rcases fresh1 a hx with h1 | h1
      · exact q1 h1
      · rw [q2] at h1; cases h1
    have rv' : R X' h3 v e := R.mono (fun a o q1 q2 => ⟨off a o q1 q2, k13 a o q2⟩) e v rv
    have xb' : XB X' h3 := by
      intro a ha
      rw [hX'] at ha
      rcases ha with ha | rfl | rfl | rfl
      · obtain ⟨o, q⟩ := c₁.xb a ha; exact ⟨o, k13 a o q⟩
      · exact its.live _ _ hst3
      · exact ⟨oD, hoD⟩
      · obtain ⟨o, _, _, q, _⟩ := hns; exact ⟨o, q⟩
    obtain ⟨lk', cin⟩ := c₁.inner ok fresh1 xb' k13 hns hm rv'
    refine wpAny_mono (fill_raw (s := { s₂ with heap := h3, toks := tk3 }) (X := X') (fun s' kk => hc _ X' s' lk' e (cin.ext (keeps_ext kk))) h0 h1) (fun v5 s₅ h₅ => ?_) fun _ _ e => e
    obtain ⟨kk, r, u, rfl, hfr, g⟩ := h₅
    have hfr' : h3.get? r = none := hfr
    refine ⟨kk, rws ++ [r], by rw [a1]; simp, by simp [a2], ?_, fun r' hr' => ?_⟩
    · rw [List.nodup_append]
      refine ⟨a3, by simp, fun a ha b hb => ?_⟩
      rw [List.mem_singleton.mp hb]
      rintro rfl
      obtain ⟨_, _, _, u', q⟩ := a4 a ha
      rw [hfr'] at q
      cases q
    · rcases List.mem_append.mp hr' with hr' | hr'
      · obtain ⟨b1, b2, b3, u', b4⟩ := a4 r' hr'
        exact ⟨b1, b2, b3, u', keeps_ext kk _ _ b4⟩
      · rw [List.mem_singleton.mp hr']
        refine ⟨?_, ?_, ?_, u, g⟩
        · cases qq : s₂.heap.get? r with
          | none => rfl
          | some o =>
            by_cases hrI : r = s₁.heap.objs.size
            · obtain ⟨o', q'⟩ := its.live _ _ hst3
              rw [hrI] at hfr'
              rw [hfr'] at q'
              cases q'
            · have := hk3 r o hrI qq
              have this' : h3.get? r = some o := this
              rw [hfr'] at this'
              cases this'
        · rintro rfl
          have hoD' : h3.get? _ = some oD := hoD
          rw [hfr'] at hoD'; cases hoD'
        · rintro rfl
          obtain ⟨o, _, _, q, _⟩ := hns
          have q' : h3.get? _ = some o := q
          rw [hfr'] at q'; cases q'
  · rintro h' tk m' vs e hns' hacc hlen ⟨rws, a1, a2, a3, a4⟩ hk3
    have hDC : s₂.heap.objs.size ≠ s₂.heap.objs.size + 1 := Nat.ne_of_lt (Nat.lt_succ_self _)
    have kS : Keeps s { s₂ with heap := h', toks := tk } := by
      obtain ⟨hh1, t1, rfl, q1⟩ := h₁.1
      obtain ⟨hh2, t2, rfl, q2⟩ := hk₂
      refine ⟨h', tk, rfl, fun b o qq => ?_⟩
      exact hk3 b o (Nat.ne_of_lt (lt1 b o (q1 b o qq))) (q2 b o (q1 b o qq))
    have none_s : ∀ a, s₂.heap.get? a = none → s.heap.get? a = none := fun a ha => by
      cases qq : s.heap.get? a with
      | none => rfl
      | some o => rw [e12 a o (keeps_ext h₁.1 a o qq)] at ha; cases ha
    obtain ⟨oC, _, _, hoC, _⟩ := id hns'
    have hvs : vs.length = m.toNat := by rw [a1, List.length_map, a2, hds]
    show wpAny _ A (assign (.Name y py) env (.ref s₂.heap.objs.size)) _ _ _
    refine wpAny_assign_Name ?_
    have hmu : Mu pl (XX env X₀ (s₂.heap.objs.size :: rws)) h' s₂.heap.objs.size rws (List.replicate m.toNat (.list (List.replicate k.toNat (.int 0)))) := by
      refine ⟨⟨vs, ⟨_, hacc, rfl, e, rfl⟩, fun _ => ⟨_, e, hacc, rfl, rfl, rfl⟩, by rw [hvs, List.length_replicate], fun i v d e1 e2 => ?_, fun i j r hm e1 e2 => ?_⟩, ?_⟩
      · rw [a1, List.getElem?_map, Option.map_eq_some_iff] at e1
        obtain ⟨r, hr, rfl⟩ := e1
        have hmem := List.mem_of_getElem? hr
        obtain ⟨_, _, _, u, g⟩ := a4 r hmem
        have hd : d = .list (List.replicate k.toNat (.int 0)) := by
          have := List.mem_of_getElem? e2
          exact (List.mem_replicate.mp this).2
        subst hd
        refine .inr ⟨r, _, _, rfl, hmem, ⟨_, g, rfl, 0, rfl⟩, rfl, ?_, Rs.replicate (by rw [R]; exact ⟨u, rfl⟩) _⟩
        rw [List.length_replicate]
        have : cap = 1000000 := rfl
        lia
      · rw [a1, List.getElem?_map, Option.map_eq_some_iff] at e1 e2
        obtain ⟨r1, hr1, q1⟩ := e1
        obtain ⟨r2, hr2, q2⟩ := e2
        cases q1
        cases q2
        obtain ⟨hi1, g1⟩ := List.getElem?_eq_some_iff.mp hr1
        obtain ⟨hi2, g2⟩ := List.getElem?_eq_some_iff.mp hr2
        exact (List.getElem_inj a3).mp (g1.trans g2.symm)
      · rw [List.length_replicate]
        have : cap = 1000000 := rfl
        lia
    refine wpAny_mono (S.storeMu (s₁ := { s₂ with heap := h', toks := tk }) kS hnone hN hk (t := s₂.heap.objs.size) (rows := rws) (l := List.replicate m.toNat (.list (List.replicate k.toNat (.int 0)))) (fun a ha => ?_) (fun hmem => ?_) hmu hlt) (fun _ s₄ h₄ => ?_) fun _ _ e => e
    · rcases List.mem_cons.mp ha with rfl | ha
      · exact ⟨none_s _ (Heap.get?_none_of_le (Nat.le_refl _)), _, hacc⟩
      · obtain ⟨b1, _, _, u, b4⟩ := a4 a ha
        exact ⟨none_s a b1, _, b4⟩
    · exact (a4 _ hmem).2.1 rfl
    · obtain ⟨keep, lk', S'⟩ := h₄
      have hCs : s.heap.get? (s₂.heap.objs.size + 1) = none := none_s _ (Heap.get?_none_of_le (Nat.le_succ _))
      have hCO : ¬ Own env (s₂.heap.objs.size + 1) := fun q => by obtain ⟨o, e⟩ := S.ownL _ q; rw [hCs] at e; cases e
      have hns₄ : s₄.heap.Ns (s₂.heap.objs.size + 1) m' := hns'.at' fun o q => keep _ o hCO q
      refine ⟨m', hns₄, fun h'' hsb => ⟨lk', _, S'.letGo hns₄ hCO (fun q => ?_) (fun o q => ?_) (fun q => ?_) hsb⟩⟩
      · rcases List.mem_cons.mp q with q | q
        · exact hDC q.symm
        · exact (a4 _ q).2.2.1 rfl
      · have := S.pr _ o q; rw [hCs] at this; cases this
      · obtain ⟨o, e⟩ := S.xb0 _ q; rw [hCs] at e; cases e
end
end Mine
namespace Mine
open PySem PySem.SeqAt

theorem R.notX {X : Addr → Prop} {h : Heap} {r : Addr} {d : D} (x : R X h (.ref r) d) : ¬ X r := by
  cases d with
  | bool b => have := bool_inv x; cases this
  | int b => obtain ⟨t, e⟩ := int_inv x; cases e
  | str b => obtain ⟨s, t, e, _⟩ := str_inv x; cases e
  | ty b => rw [R] at x; cases x
  | rng l =>
    rw [R] at x
    obtain ⟨a, _, _, _, _, _, _, e, hx, _⟩ := x
    cases e; exact hx
  | list l => obtain ⟨a, _, _, e, hx, _⟩ := list_inv x; cases e; exact hx
  | tup l => obtain ⟨a, _, _, e, hx, _⟩ := tup_inv x; cases e; exact hx
theorem flat_noref {X : Addr → Prop} {h : Heap} {v : Value} {d : D} (x : R X h v d) (hf : d.flat = true) (r : Addr) : v ≠ .ref r := by
  rintro rfl
  have : R (fun _ => True) h (.ref r) d := flat_any hf x
  exact this.notX trivial
theorem flat_nolist {d : D} (hf : d.flat = true) (l : List D) : d ≠ .list l := by
  rintro rfl; cases hf

section
variable {prog : Program} {w : World} {h₀ : Heap} {n : Nat} {A : Around} {pl : Bool} {env : Env} {N : List (Nat × Str)} {X₀ : Addr → Prop} {mu : Nat} {Pr : Addr → Obj → Prop} {s₀ s : Shared} {ρ : Rho} {lk : Str → Option Value} {fp : List Addr} {Φ : Phi} {ns : Nms}

theorem Sat.name (S : Sat h₀ n A pl env N X₀ mu Pr s₀ ρ s lk fp) {y : Str} {pos : Pos} {v : Value} {Q : Value → Shared → Prop} {G : Value → Shared → Prop} (hk : env.kindOf y = some .local ∨ env.kindOf y = some .cell) (hd : (y == ("__debug__" : Str)) = false) (hv : lk y = some v) (h : Q v s) :
    wpAny (model prog w) A (eval (.Name y pos) env) Q G s := by
  refine wpAny_Name ?_ hd
  rcases hk with hk | hk
  · obtain ⟨m, hm, he⟩ := S.fm.loc
    exact wpAny_loadName_local S.fm.kind hk hm ((he y hk).trans hv) h
  · obtain ⟨cc, hc, ic⟩ := S.fm.cel y hk
    rw [hv] at ic
    exact wpAny_loadName_cell S.fm.kind hk hc ic h

/-- a value that may be kept -/
theorem Sat.eval (S : Sat h₀ n A pl env N X₀ mu Pr s₀ ρ s lk fp) (hΦ : Sound prog w h₀ n Φ) (hn : env.scope.names = ns) {pe : PySem.Expr} {e : E} {d : D} (tr : Tr ns N pe e) (h : ev Φ e ρ = some d) (hf : fine mu e d = true) : Evals prog w A (XX env X₀ fp) s pe env d := by
  unfold fine at hf
  rw [Bool.or_eq_true] at hf
  rcases hf with hf | hf
  · exact wpAny_mono (ev_sound hΦ e hn tr S.cxAll h) (fun v s' q => ⟨q.1, flat_any hf q.2⟩) fun _ _ q => q
  · exact ev_sound hΦ e hn tr S.cx (ev_del hf h)
/-- a flat value, whatever it reads -/
theorem Sat.evalF (S : Sat h₀ n A pl env N X₀ mu Pr s₀ ρ s lk fp) (hΦ : Sound prog w h₀ n Φ) (hn : env.scope.names = ns) {pe : PySem.Expr} {e : E} {d : D} (tr : Tr ns N pe e) (h : ev Φ e ρ = some d) (hf : d.flat = true) : Evals prog w A (XX env X₀ fp) s pe env d :=
  S.eval hΦ hn tr h (by unfold fine; rw [hf]; rfl)

theorem append_sound (S : Sat h₀ n A true env N X₀ mu Pr s₀ ρ s lk fp) (hΦ : Sound prog w h₀ n Φ) (hn : env.scope.names = ns) {y : Str} {p0 ap cpos pos : Pos} {pe : PySem.Expr} {e : E} {d : D} {l : List D} (hN : N.lookup mu = some y) (hv : isVar ns y = true) (tr : Tr ns N pe e) (hline : (ap.endLine == cpos.line) = true)
    (hm : ρ.get mu = some (.list l)) (h : ev Φ e ρ = some d) (hf : fine mu e d = true) (hl : l.length < cap) :
    wpAny (model prog w) A (exec (.Expr (.Call (.Attribute (.Name y p0) "append" ap) [pe] [] cpos) pos) env) (fun f s' => f = .next ∧ ∃ lk fp, Sat h₀ n A true env N X₀ mu Pr s₀ (ρ.put mu (.list (l ++ [d]))) s' lk fp) NoE s := by
  have hi : interactive env = false := by unfold interactive; rw [S.fm.kind]; rfl
  obtain ⟨y', t, rows, l', a1, a2, e3, a4, a5, a6⟩ := S.mu1 _ hm
  cases e3
  rw [hN] at a1
  cases a1
  have htrees : backTo cpos (starEach [pe] env) = [(false, PySem.eval pe env)] := by rw [tr.star]; rfl
  refine wpAny_Expr (wpAny_Call_append rfl ?_ hline htrees (S.name (isVar_of hn hv).1 (isVar_of hn hv).2 a2 ?_)) hi rfl
  · rw [htrees]; rfl
  obtain ⟨⟨vs, b1, b2, b3, b4, b5⟩, b6⟩ := a6
  refine ⟨t, vs.toArray, rfl, b2 rfl, wpAny_mono (S.eval hΦ hn tr h hf) (fun v s₂ h₂ => ?_) fun _ _ q => q⟩
  have S₂ := S.ext h₂.1
  have pl₂ := (b2 rfl).keeps (keeps_ext h₂.1)
  have hc : cap = 1000000 := rfl
  have htfp : t ∈ fp := by rw [a4]; exact List.mem_cons_self
  refine list_append_plainL pl₂ (fun h' hpl hs => ⟨rfl, lk, fp, S₂.mutate hm a4 htfp hs ?_ ?_⟩) (by rw [List.size_toArray, b3]; exact Nat.le_trans (Nat.le_of_lt hl) (by decide))
  · obtain ⟨o, _, q, _⟩ := hpl; exact ⟨o, q⟩
  · have hkX : ∀ b o, ¬ XX env X₀ fp b → s₂.heap.get? b = some o → h'.get? b = some o := fun b o q z => hs.extBut b o (fun w => q (.inr (.inr (w ▸ htfp)))) z
    have hpush : vs.toArray.push v = (vs ++ [v]).toArray := by simp
    rw [hpush] at hpl
    have rv : R (XX env X₀ fp) h' v d := R.mono (fun b o q z => ⟨q, hkX b o q z⟩) d v h₂.2
    refine ⟨⟨vs ++ [v], hpl.isList, fun _ => hpl, by simp [b3], fun i v' d' e1 e2 => ?_, fun i j r hr e1 e2 => ?_⟩, by simp; lia⟩
    · by_cases hi : i < vs.length
      · rw [List.getElem?_append_left hi] at e1
        rw [List.getElem?_append_left (by lia)] at e2
        exact ((b4 i v' d' e1 e2).mono (fun a o _ q => keeps_ext h₂.1 a o q) fun a _ o q => keeps_ext h₂.1 a o q).mono hkX fun a ha o q => hs.extBut a o (fun z => a5 (z ▸ ha)) q
      · have hil : i = vs.length := by
          have := (List.getElem?_eq_some_iff.mp e1).1
          simp at this; lia
        subst hil
        rw [List.getElem?_append_right (Nat.le_refl _)] at e1
        rw [List.getElem?_append_right (by lia)] at e2
        simp at e1
        rw [b3] at e2
        simp at e2
        subst e1 e2
        exact .inl ⟨rv, fun q => by cases q⟩
    · have hrX : XX env X₀ fp r := .inr (.inr (by rw [a4]; exact List.mem_cons_of_mem _ hr))
      have old : ∀ i : Nat, (vs ++ [v])[i]? = some (Value.ref r) → i < vs.length ∧ vs[i]? = some (Value.ref r) := by
        intro i e1
        by_cases hi : i < vs.length
        · rw [List.getElem?_append_left hi] at e1; exact ⟨hi, e1⟩
        · exfalso
          rw [List.getElem?_append_right (by lia)] at e1
          have hv' := List.mem_of_getElem? e1
          rw [List.mem_singleton] at hv'
          rw [← hv'] at rv
          exact rv.notX hrX
      exact b5 i j r hr (old i e1).2 (old j e2).2

theorem set1_sound (S : Sat h₀ n A false env N X₀ mu Pr s₀ ρ s lk fp) (hΦ : Sound prog w h₀ n Φ) (hn : env.scope.names = ns) {y : Str} {p0 p' pos : Pos} {pe pi : PySem.Expr} {e i : E} {d : D} {l : List D} {k : Int} (hN : N.lookup mu = some y) (hv : isVar ns y = true) (tr : Tr ns N pe e) (tri : Tr ns N pi i)
    (hsw : swapsWith pe (some (.Subscript (.Name y p0) pi p')) pos.line env = pure false)
    (hm : ρ.get mu = some (.list l)) (hi : ev Φ i ρ = some (.int k)) (h0 : 0 ≤ k) (h1 : k < l.length) (h : ev Φ e ρ = some d) (hf : d.flat = true) :
    wpAny (model prog w) A (exec (.Assign [.Subscript (.Name y p0) pi p'] pe pos) env) (fun f s' => f = .next ∧ ∃ lk fp, Sat h₀ n A false env N X₀ mu Pr s₀ (ρ.put mu (.list (l.set k.toNat d))) s' lk fp) NoE s := by
  refine wpAny_Assign_Subscript (wpAny_mono (S.evalF hΦ hn tr h hf) (fun v s₁ h₁ => ?_) fun _ _ q => q) hsw
  have S₁ := S.ext h₁.1
  obtain ⟨y', t, rows, l', a1, a2, e3, a4, a5, a6⟩ := S₁.mu1 _ hm
  cases e3
  rw [hN] at a1
  cases a1
  refine S₁.name (isVar_of hn hv).1 (isVar_of hn hv).2 a2 (wpAny_mono (S₁.evalF hΦ hn tri hi rfl) (fun vi s₂ h₂ => ?_) fun _ _ q => q)
  obtain ⟨u, rfl⟩ := int_inv h₂.2
  have S₂ := S₁.ext h₂.1
  have a6' := a6.mono (h' := s₂.heap) (fun a o _ q => keeps_ext h₂.1 a o q) fun a _ o q => keeps_ext h₂.1 a o q
  obtain ⟨⟨vs, b1, b2, b3, b4, b5⟩, b6⟩ := a6'
  have hc : cap = 1000000 := rfl
  have htfp : t ∈ fp := by rw [a4]; exact List.mem_cons_self
  refine wpAny_setItem_list b1 h0 (by lia) (by rw [List.size_toArray, b3]; exact h1) fun h' hil hs => ⟨rfl, lk, fp, S₂.mutate hm a4 htfp hs ?_ ?_⟩
  · obtain ⟨o, q, _⟩ := hil; exact ⟨o, q⟩
  · have hkX : ∀ b o, ¬ XX env X₀ fp b → s₂.heap.get? b = some o → h'.get? b = some o := fun b o q z => hs.extBut b o (fun w => q (.inr (.inr (w ▸ htfp)))) z
    have hset : vs.toArray.setIfInBounds k.toNat v = (vs.set k.toNat v).toArray := by simp
    rw [hset] at hil
    have rv : R (XX env X₀ fp) h' v d := flat_any hf h₁.2
    refine ⟨⟨vs.set k.toNat v, hil, (fun q => by cases q), by simp [b3], fun j v' d' e1 e2 => ?_, fun i j r hr e1 e2 => ?_⟩, by simp; lia⟩
    · by_cases hj : k.toNat = j
      · subst hj
        have g1 : k.toNat < vs.length := by rw [b3]; lia
        have g2 : k.toNat < l.length := by lia
        rw [List.getElem?_set_self g1] at e1
        rw [List.getElem?_set_self g2] at e2
        cases e1
        cases e2
        exact .inl ⟨rv, fun _ => flat_nolist hf⟩
      · rw [List.getElem?_set_ne hj] at e1 e2
        exact (b4 j v' d' e1 e2).mono hkX fun a ha o q => hs.extBut a o (fun z => a5 (z ▸ ha)) q
    · have old : ∀ j : Nat, (vs.set k.toNat v)[j]? = some (Value.ref r) → vs[j]? = some (Value.ref r) := by
        intro j e1
        by_cases hj : k.toNat = j
        · subst hj
          have g1 : k.toNat < vs.length := by rw [b3]; lia
          rw [List.getElem?_set_self g1] at e1
          cases e1
          exact absurd rfl (flat_noref rv hf r)
        · rwa [List.getElem?_set_ne hj] at e1
      exact b5 i j r hr (old i e1) (old j e2)

theorem set2_sound (S : Sat h₀ n A false env N X₀ mu Pr s₀ ρ s lk fp) (hΦ : Sound prog w h₀ n Φ) (hn : env.scope.names = ns) {y : Str} {p0 p' p'' pos : Pos} {pe pi pj : PySem.Expr} {e i j : E} {d : D} {l r : List D} {k m : Int} (hN : N.lookup mu = some y) (hv : isVar ns y = true) (tr : Tr ns N pe e) (tri : Tr ns N pi i) (trj : Tr ns N pj j)
    (hsw : swapsWith pe (some (.Subscript (.Subscript (.Name y p0) pi p') pj p'')) pos.line env = pure false)
    (hm : ρ.get mu = some (.list l)) (hi : ev Φ i ρ = some (.int k)) (h0 : 0 ≤ k) (hr : l[k.toNat]? = some (.list r)) (hj : ev Φ j ρ = some (.int m)) (h2 : 0 ≤ m) (h3 : m < r.length) (h : ev Φ e ρ = some d) (hf : d.flat = true) :
    wpAny (model prog w) A (exec (.Assign [.Subscript (.Subscript (.Name y p0) pi p') pj p''] pe pos) env) (fun f s' => f = .next ∧ ∃ lk fp, Sat h₀ n A false env N X₀ mu Pr s₀ (ρ.put mu (.list (l.set k.toNat (.list (r.set m.toNat d))))) s' lk fp) NoE s := by
  refine wpAny_Assign_Subscript (wpAny_mono (S.evalF hΦ hn tr h hf) (fun v s₁ h₁ => ?_) fun _ _ q => q) hsw
  have S₁ := S.ext h₁.1
  obtain ⟨y', t, rows, l', a1, a2, e3, a4, a5, a6⟩ := S₁.mu1 _ hm
  cases e3
  rw [hN] at a1
  cases a1
  have hc : cap = 1000000 := rfl
  have hkl : k.toNat < l.length := (List.getElem?_eq_some_iff.mp hr).1
  refine PyProof.Rows.Subscript_ (S₁.name (isVar_of hn hv).1 (isVar_of hn hv).2 a2 (wpAny_mono (S₁.evalF hΦ hn tri hi rfl) (fun vi s₂ h₂ => ?_) fun _ _ q => q))
  obtain ⟨u, rfl⟩ := int_inv h₂.2
  have a6' := a6.mono (h' := s₂.heap) (fun a o _ q => keeps_ext h₂.1 a o q) fun a _ o q => keeps_ext h₂.1 a o q
  obtain ⟨⟨vs, b1, b2, b3, b4, b5⟩, b6⟩ := a6'
  obtain ⟨x, hx⟩ : ∃ x, vs[k.toNat]? = some x := ⟨vs[k.toNat]'(by lia), List.getElem?_eq_getElem (by lia)⟩
  have htail : subscripted pi false (Value.ref t) (Value.int k u) = operate [Value.ref t, Value.int k u] (getItem (Value.ref t) (Value.int k u)) := by
    have := tri.noSlice
    cases pi <;> first | rfl | exact absurd rfl (this _ _ _ _)
  refine PyProof.Rows.tail_any b1.typeIs slot_list_getitem.lookup (wpAny_getItem_list b1 h0 (by lia) (x := x) (by simpa using hx) ?_) htail
  have S₂ := S₁.ext h₂.1
  refine wpAny_mono (S₂.evalF hΦ hn trj hj rfl) (fun vj s₃ h₃ => ?_) fun _ _ q => q
  obtain ⟨u2, rfl⟩ := int_inv h₃.2
  have S₃ := S₂.ext h₃.1
  rcases b4 k.toNat x (.list r) hx hr with hbad | ⟨a, r', ws, rfl, hmem, hil, er, hcap, hws⟩
  · exact absurd rfl (hbad.2 rfl r)
  cases er
  have isl3 : s₃.heap.IsList a ws.toArray := IsList_at hil fun o q => keeps_ext h₃.1 a o q
  have hwl := hws.length
  have hafp : a ∈ fp := by rw [a4]; exact List.mem_cons_of_mem _ hmem
  have hta : t ≠ a := fun z => a5 (z ▸ hmem)
  refine wpAny_setItem_list isl3 h2 (by lia) (by rw [List.size_toArray, hwl]; exact h3) fun h' hil' hs => ⟨rfl, lk, fp, S₃.mutate hm a4 hafp hs ?_ ?_⟩
  · obtain ⟨o, q, _⟩ := hil'; exact ⟨o, q⟩
  · have hkX : ∀ b o, ¬ XX env X₀ fp b → s₃.heap.get? b = some o → h'.get? b = some o := fun b o q z => hs.extBut b o (fun w => q (.inr (.inr (w ▸ hafp)))) z
    have k23 : ∀ b o, s₂.heap.get? b = some o → s₃.heap.get? b = some o := fun b o q => keeps_ext h₃.1 b o q
    have hset : ws.toArray.setIfInBounds m.toNat v = (ws.set m.toNat v).toArray := by simp
    rw [hset] at hil'
    have rv : R (XX env X₀ fp) h' v d := flat_any hf h₁.2
    refine ⟨⟨vs, IsList_at b1 fun o q => hs.extBut t o hta (k23 t o q), (fun q => by cases q), by simp [b3], fun i' v' d' e1 e2 => ?_, b5⟩, by simp; lia⟩
    by_cases hj' : k.toNat = i'
    · subst hj'
      rw [List.getElem?_set_self hkl] at e2
      cases e2
      rw [hx] at e1
      cases e1
      refine .inr ⟨a, _, _, rfl, hmem, hil', rfl, by simp; lia, Rs.set rv _ (Rs.mono (fun b o q z => ⟨q, hkX b o q (k23 b o z)⟩) r ws hws)⟩
    · rw [List.getElem?_set_ne hj'] at e2
      rcases b4 i' v' d' e1 e2 with q | ⟨b, l2, ws2, rfl, hm2, hl2, rfl, hc2, hr2⟩
      · exact .inl ⟨R.mono (fun b o q z => ⟨q, hkX b o q (k23 b o z)⟩) _ v' q.1, q.2⟩
      · have hba : b ≠ a := by
          rintro rfl
          exact hj' (b5 _ _ b hmem hx e1)
        exact .inr ⟨b, l2, ws2, rfl, hm2, IsList_at hl2 fun o q => hs.extBut b o hba (k23 b o q), rfl, hc2, Rs.mono (fun b o q z => ⟨q, hkX b o q (k23 b o z)⟩) l2 ws2 hr2⟩
end
end Mine
namespace Mine
open PySem PySem.SeqAt

noncomputable def E.noComp : E → Bool
  | .comp _ _ _ => false
  | .compIf _ _ _ _ => false
  | _ => true
theorem Tr.noSwap' {ns : Nms} {N : List (Nat × Str)} {p : PySem.Expr} {e : E} (h : Tr ns N p e) (hc : e.noComp = true) (t : Option PySem.Expr) (line : Nat) (env : Env) : swapsWith p t line env = pure false :=
  h.noSwap t line env (fun _ _ _ q => by subst q; cases hc) (fun _ _ _ _ q => by subst q; cases hc)

noncomputable def swOk (ns : Nms) (y : Str) (sc : Scope) (l l' : Nat) : Bool :=
  (ns.lookup y == some .local) && (l == l') && !(sc.names.any fun (n, k) => n == y && (k == .local || k == .cell))

mutual
inductive TrS (pl : Bool) (mu : Nat) (ns : Nms) (N : List (Nat × Str)) : Stmt → S → Prop
  | assign {x : Nat} {y : Str} {e : E} {pe : PySem.Expr} {py pos : Pos} : N.lookup x = some y → isVar ns y = true → Tr ns N pe e → e.noComp = true → TrS pl mu ns N (.Assign [.Name y py] pe pos) (.assign x e)
  | aug {x : Nat} {y : Str} {e : E} {pe : PySem.Expr} {py pos : Pos} : N.lookup x = some y → isVar ns y = true → Tr ns N pe e → TrS pl mu ns N (.AugAssign (.Name y py) .Add pe pos) (.aug x e)
  | mkNil {y : Str} {py p1 pos : Pos} : N.lookup mu = some y → isVar ns y = true → TrS pl mu ns N (.Assign [.Name y py] (.List [] p1) pos) (.mkNil mu)
  | mkFill {y : Str} {e : E} {pe : PySem.Expr} {q : Nat} {py p0 p1 p2 pos : Pos} : N.lookup mu = some y → isVar ns y = true → Tr ns N pe e → TrS pl mu ns N (.Assign [.Name y py] (.BinOp (.List [.Constant (.int 0) q p0] p1) .Mult pe p2) pos) (.mkFill mu e)
  | mkTab {x' : Nat} {y z rg : Str} {c r : E} {pc pr : PySem.Expr} {sc : Scope} {q : Nat} {py p0 p1 p2 p3 p4 px pos' pos : Pos} (cp : List (Nat × Str)) : N.lookup mu = some y → isVar ns y = true → compOk ns N sc x' z cp = true → swOk ns y sc py.line pos'.line = true →
      rg = Str.ofString "range" → isGlob ns rg = true → Tr ns N pr r → Tr (relabN sc.names) ((x', z) :: cp) pc c →
      TrS pl mu ns N (.Assign [.Name y py] (.ListComp (.BinOp (.List [.Constant (.int 0) q p0] p1) .Mult pc p2) [⟨.Name z px, .Call (.Name rg p3) [pr] [] p4, [], 0⟩] sc pos') pos) (.mkTab mu x' c r)
  | append {y : Str} {e : E} {pe : PySem.Expr} {p0 ap cpos pos : Pos} : pl = true → N.lookup mu = some y → isVar ns y = true → Tr ns N pe e → (ap.endLine == cpos.line) = true →
      TrS pl mu ns N (.Expr (.Call (.Attribute (.Name y p0) "append" ap) [pe] [] cpos) pos) (.append mu e)
  | set1 {y : Str} {i e : E} {pi pe : PySem.Expr} {p0 p' pos : Pos} : pl = false → N.lookup mu = some y → isVar ns y = true → Tr ns N pe e → e.noComp = true → Tr ns N pi i →
      TrS pl mu ns N (.Assign [.Subscript (.Name y p0) pi p'] pe pos) (.set1 mu i e)
  | set2 {y : Str} {i j e : E} {pi pj pe : PySem.Expr} {p0 p' p'' pos : Pos} : pl = false → N.lookup mu = some y → isVar ns y = true → Tr ns N pe e → e.noComp = true → Tr ns N pi i → Tr ns N pj j →
      TrS pl mu ns N (.Assign [.Subscript (.Subscript (.Name y p0) pi p') pj p''] pe pos) (.set2 mu i j e)
  | ite {t : T} {b c : List S} {pt : PySem.Expr} {pb pc : List Stmt} {pos : Pos} : TrT ns N pt t → TrSs pl mu ns N pb b → TrSs pl mu ns N pc c → TrS pl mu ns N (.If pt pb pc pos) (.ite t b c)
  | for_ {x : Nat} {y : Str} {e : E} {b : List S} {pe : PySem.Expr} {pb : List Stmt} {px pos : Pos} : N.lookup x = some y → isVar ns y = true → Tr ns N pe e → TrSs pl mu ns N pb b → TrS pl mu ns N (.For (.Name y px) pe pb [] pos) (.for_ x e b)
  | while_ {t : T} {b : List S} {pt : PySem.Expr} {pb : List Stmt} {pos : Pos} : TrT ns N pt t → TrSs pl mu ns N pb b → TrS pl mu ns N (.While pt pb [] pos) (.while_ t b)
  | ret {e : E} {pe : PySem.Expr} {pos : Pos} : Tr ns N pe e → TrS pl mu ns N (.Return (some pe) pos) (.ret e)
inductive TrSs (pl : Bool) (mu : Nat) (ns : Nms) (N : List (Nat × Str)) : List Stmt → List S → Prop
  | nil : TrSs pl mu ns N [] []
  | cons {p : Stmt} {ps : List Stmt} {s : S} {ss : List S} : TrS pl mu ns N p s → TrSs pl mu ns N ps ss → TrSs pl mu ns N (p :: ps) (s :: ss)
end

/-- what a tie says, by the mini statement's head -/
noncomputable def TrSInv (pl : Bool) (mu : Nat) (ns : Nms) (N : List (Nat × Str)) (p : Stmt) : S → Prop
  | .assign x e => ∃ y pe py pos, p = .Assign [.Name y py] pe pos ∧ N.lookup x = some y ∧ isVar ns y = true ∧ Tr ns N pe e ∧ e.noComp = true
  | .aug x e => ∃ y pe py pos, p = .AugAssign (.Name y py) .Add pe pos ∧ N.lookup x = some y ∧ isVar ns y = true ∧ Tr ns N pe e
  | .mkNil x => ∃ y py p1 pos, p = .Assign [.Name y py] (.List [] p1) pos ∧ x = mu ∧ N.lookup mu = some y ∧ isVar ns y = true
  | .mkFill x e => ∃ y pe q py p0 p1 p2 pos, p = .Assign [.Name y py] (.BinOp (.List [.Constant (.int 0) q p0] p1) .Mult pe p2) pos ∧ x = mu ∧ N.lookup mu = some y ∧ isVar ns y = true ∧ Tr ns N pe e
  | .mkTab x x' c r => ∃ y z rg pc pr sc q py p0 p1 p2 p3 p4 px pos' pos cp, p = .Assign [.Name y py] (.ListComp (.BinOp (.List [.Constant (.int 0) q p0] p1) .Mult pc p2) [⟨.Name z px, .Call (.Name rg p3) [pr] [] p4, [], 0⟩] sc pos') pos ∧ x = mu ∧
      N.lookup mu = some y ∧ isVar ns y = true ∧ compOk ns N sc x' z cp = true ∧ swOk ns y sc py.line pos'.line = true ∧ rg = Str.ofString "range" ∧ isGlob ns rg = true ∧ Tr ns N pr r ∧ Tr (relabN sc.names) ((x', z) :: cp) pc c
  | .append x e => ∃ y pe p0 ap cpos pos, p = .Expr (.Call (.Attribute (.Name y p0) "append" ap) [pe] [] cpos) pos ∧ x = mu ∧ pl = true ∧ N.lookup mu = some y ∧ isVar ns y = true ∧ Tr ns N pe e ∧ (ap.endLine == cpos.line) = true
  | .set1 x i e => ∃ y pi pe p0 p' pos, p = .Assign [.Subscript (.Name y p0) pi p'] pe pos ∧ x = mu ∧ pl = false ∧ N.lookup mu = some y ∧ isVar ns y = true ∧ Tr ns N pe e ∧ e.noComp = true ∧ Tr ns N pi i
  | .set2 x i j e => ∃ y pi pj pe p0 p' p'' pos, p = .Assign [.Subscript (.Subscript (.Name y p0) pi p') pj p''] pe pos ∧ x = mu ∧ pl = false ∧ N.lookup mu = some y ∧ isVar ns y = true ∧ Tr ns N pe e ∧ e.noComp = true ∧ Tr ns N pi i ∧ Tr ns N pj j
  | .ite t b c => ∃ pt pb pc pos, p = .If pt pb pc pos ∧ TrT ns N pt t ∧ TrSs pl mu ns N pb b ∧ TrSs pl mu ns N pc c
  | .for_ x e b => ∃ y pe pb px pos, p = .For (.Name y px) pe pb [] pos ∧ N.lookup x = some y ∧ isVar ns y = true ∧ Tr ns N pe e ∧ TrSs pl mu ns N pb b
  | .while_ t b => ∃ pt pb pos, p = .While pt pb [] pos ∧ TrT ns N pt t ∧ TrSs pl mu ns N pb b
  | .ret e => ∃ pe pos, p = .Return (some pe) pos ∧ Tr ns N pe e
theorem TrS.inv {pl : Bool} {mu : Nat} {ns : Nms} {N : List (Nat × Str)} {p : Stmt} {st : S} (h : TrS pl mu ns N p st) : TrSInv pl mu ns N p st := by
  cases h with
  | assign a b c d => exact ⟨_, _, _, _, rfl, a, b, c, d⟩
  | aug a b c => exact ⟨_, _, _, _, rfl, a, b, c⟩
  | mkNil a b => exact ⟨_, _, _, _, rfl, rfl, a, b⟩
  | mkFill a b c => exact ⟨_, _, _, _, _, _, _, _, rfl, rfl, a, b, c⟩
  | mkTab cp a b c d e f g h => exact ⟨_, _, _, _, _, _, _, _, _, _, _, _, _, _, _, _, cp, rfl, rfl, a, b, c, d, e, f, g, h⟩
  | append a b c d e => exact ⟨_, _, _, _, _, _, rfl, rfl, a, b, c, d, e⟩
  | set1 a b c d e f => exact ⟨_, _, _, _, _, _, rfl, rfl, a, b, c, d, e, f⟩
  | set2 a b c d e f g => exact ⟨_, _, _, _, _, _, _, _, rfl, rfl, a, b, c, d, e, f, g⟩
  | ite a b c => exact ⟨_, _, _, _, rfl, a, b, c⟩
  | for_ a b c d => exact ⟨_, _, _, _, _, rfl, a, b, c, d⟩
  | while_ a b => exact ⟨_, _, _, rfl, a, b⟩
  | ret a => exact ⟨_, _, rfl, a⟩
theorem TrSs.nil_inv {pl : Bool} {mu : Nat} {ns : Nms} {N : List (Nat × Str)} {ps : List Stmt} (h : TrSs pl mu ns N ps []) : ps = [] := by cases h; rfl
theorem TrSs.cons_inv {pl : Bool} {mu : Nat} {ns : Nms} {N : List (Nat × Str)} {ps : List Stmt} {st : S} {l : List S} (h : TrSs pl mu ns N ps (st :: l)) : ∃ q qs, ps = q :: qs ∧ TrS pl mu ns N q st ∧ TrSs pl mu ns N qs l := by
  cases h with
  | cons a b => exact ⟨_, _, rfl, a, b⟩

section
variable {prog : Program} {w : World} {h₀ : Heap} {n : Nat} {A : Around} {pl : Bool} {env : Env} {N : List (Nat × Str)} {X₀ : Addr → Prop} {mu : Nat} {Pr : Addr → Obj → Prop} {s₀ s : Shared} {ρ : Rho} {lk : Str → Option Value} {fp : List Addr} {Φ : Phi} {ns : Nms}

theorem XX.imp {X₁ X₂ : Addr → Prop} (h : ∀ a, X₂ a → X₁ a) {a : Addr} (x : XX env X₂ fp a) : XX env X₁ fp a := by
  rcases x with x | x | x
  · exact .inl (h a x)
  · exact .inr (.inl x)
  · exact .inr (.inr x)

theorem Item.weak {X X' : Addr → Prop} {h h' : Heap} {rows : List Addr} {v : Value} {d : D} (x : Item pl X h rows v d) (hk : ∀ a o, ¬ X a → h.get? a = some o → ¬ X' a ∧ h'.get? a = some o) (hr : ∀ a ∈ rows, ∀ o, h.get? a = some o → h'.get? a = some o) : Item pl X' h' rows v d := by
  rcases x with x | ⟨r, l, ws, rfl, hm, hl, rfl, hc, hs⟩
  · exact .inl ⟨R.mono hk d v x.1, x.2⟩
  · exact .inr ⟨r, l, ws, rfl, hm, IsList_at hl (hr r hm), rfl, hc, Rs.mono hk l ws hs⟩
theorem Mu.weak {X X' : Addr → Prop} {h h' : Heap} {t : Addr} {rows : List Addr} {l : List D} (x : Mu pl X h t rows l) (hk : ∀ a o, ¬ X a → h.get? a = some o → ¬ X' a ∧ h'.get? a = some o) (hr : ∀ a, a = t ∨ a ∈ rows → ∀ o, h.get? a = some o → h'.get? a = some o) : Mu pl X' h' t rows l := by
  obtain ⟨⟨vs, a1, a2, a3, a4, a5⟩, a6⟩ := x
  refine ⟨⟨vs, IsList_at a1 (hr t (.inl rfl)), fun p => ?_, a3, fun i v d e1 e2 => (a4 i v d e1 e2).weak hk fun a ha => hr a (.inr ha), a5⟩, a6⟩
  obtain ⟨o, k, e, r⟩ := a2 p
  exact ⟨o, k, hr t (.inl rfl) o e, r⟩

/-- other addresses are shut out -/
theorem Sat.newX {X₁ : Addr → Prop} (S : Sat h₀ n A pl env N X₀ mu Pr s₀ ρ s lk fp) {s' : Shared} (k : Keeps s s') (h1 : ∀ a, X₁ a → X₀ a ∨ s.heap.get? a = none) (hb : XB X₁ s'.heap) : Sat h₀ n A pl env N X₁ mu Pr s₀ ρ s' lk fp := by
  have S' := S.ext k
  have off : ∀ a o, s.heap.get? a = some o → X₁ a → X₀ a := fun a o e q => by
    rcases h1 a q with q | q
    · exact q
    · rw [e] at q; cases q
  have hk : ∀ a o, ¬ XX env X₀ fp a → s.heap.get? a = some o → ¬ XX env X₁ fp a ∧ s'.heap.get? a = some o := fun a o q e => by
    refine ⟨fun z => q ?_, keeps_ext k a o e⟩
    rcases z with z | z | z
    · exact .inl (off a o e z)
    · exact .inr (.inl z)
    · exact .inr (.inr z)
  refine ⟨S.ao, S.base, S.eok, S'.same, S'.pr, S.pr0, fun a o e q => S.x0 a o e (off a o (S.pr a o (S.pr0 a o e)) q), S'.fm, S'.ownL, fun a q => ⟨(S.ownP a q).1, fun z => ?_⟩, fun a q => ?_, hb, fun x y d a b c => ?_, fun d e => ?_, S.nomut⟩
  · obtain ⟨o, e⟩ := S.ownL a q
    exact (S.ownP a q).2 (off a o e z)
  · obtain ⟨⟨o, e⟩, r1, r2, r3⟩ := S.fpL a q
    exact ⟨⟨o, keeps_ext k a o e⟩, r1, fun z => r2 (off a o e z), r3⟩
  · obtain ⟨v, e, r⟩ := S.sim x y d a b c
    exact ⟨v, e, R.mono hk d v r⟩
  · obtain ⟨y, t, rows, l, a1, a2, a3, a4, a5, a6⟩ := S.mu1 d e
    exact ⟨y, t, rows, l, a1, a2, a3, a4, a5, a6.weak hk fun a _ o q => keeps_ext k a o q⟩
/-- an object that is shut out is changed -/
theorem Sat.touch {X₁ : Addr → Prop} (S : Sat h₀ n A pl env N X₁ mu Pr s₀ ρ s lk fp) {I : Addr} (hI : X₁ I) (hP : ∀ o, ¬ Pr I o) {h' : Heap} {tk : Nat} (hs : ∀ b o, b ≠ I → s.heap.get? b = some o → h'.get? b = some o) (h2 : ∀ a, X₀ a → X₁ a) (hb : XB X₀ h') :
    Sat h₀ n A pl env N X₀ mu Pr s₀ ρ { s with heap := h', toks := tk } lk fp := by
  have nO : ∀ a, Own env a → a ≠ I := fun a q e => (S.ownP a q).2 (e ▸ hI)
  have nF : ∀ a, a ∈ fp → a ≠ I := fun a q e => (S.fpL a q).2.2.1 (e ▸ hI)
  have hk : ∀ a o, ¬ XX env X₁ fp a → s.heap.get? a = some o → ¬ XX env X₀ fp a ∧ h'.get? a = some o := fun a o q e => ⟨fun z => q (XX.imp h2 z), hs a o (fun z => q (.inl (z ▸ hI))) e⟩
  refine ⟨S.ao, S.base, S.eok, ?_, fun a o e => hs a o (fun z => hP o (z ▸ e)) (S.pr a o e), S.pr0, fun a o e q => S.x0 a o e (h2 a q), ⟨S.fm.kind, S.fm.glob, S.fm.blt, ?_, fun z hz => ?_⟩, fun a q => ?_, fun a q => ⟨(S.ownP a q).1, fun z => (S.ownP a q).2 (h2 a z)⟩, fun a q => ?_, hb, fun x y d a b c => ?_, fun d e => ?_, S.nomut⟩
  · obtain ⟨h1, t1, rfl⟩ := S.same; exact ⟨h', tk, rfl⟩
  · obtain ⟨m, hm, he⟩ := S.fm.loc
    exact ⟨m, hm.at' fun o q => hs _ o (nO _ (.inl rfl)) q, he⟩
  · obtain ⟨c, hc, ic⟩ := S.fm.cel z hz
    obtain ⟨o, e, r⟩ := ic
    exact ⟨c, hc, o, hs c o (nO c (.inr ⟨z, hc⟩)) e, r⟩
  · obtain ⟨o, e⟩ := S.ownL a q
    exact ⟨o, hs a o (nO a q) e⟩
  · obtain ⟨⟨o, e⟩, r1, r2, r3⟩ := S.fpL a q
    exact ⟨⟨o, hs a o (nF a q) e⟩, r1, fun z => r2 (h2 a z), r3⟩
  · obtain ⟨v, e, r⟩ := S.sim x y d a b c
    exact ⟨v, e, R.mono hk d v r⟩
  · obtain ⟨y, t, rows, l, a1, a2, a3, a4, a5, a6⟩ := S.mu1 d e
    refine ⟨y, t, rows, l, a1, a2, a3, a4, a5, a6.weak hk fun a ha o q => hs a o (nF a ?_) q⟩
    rw [a4]
    rcases ha with rfl | ha
    · exact List.mem_cons_self
    · exact List.mem_cons_of_mem _ ha

/-- what a statement leaves behind -/
noncomputable def Post (h₀ : Heap) (n : Nat) (A : Around) (pl : Bool) (env : Env) (N : List (Nat × Str)) (X₀ : Addr → Prop) (mu : Nat) (Pr : Addr → Obj → Prop) (s₀ : Shared) : Out → Flow → Shared → Prop
  | .next ρ, f, s' => f = .next ∧ ∃ lk fp, Sat h₀ n A pl env N X₀ mu Pr s₀ ρ s' lk fp
  | .ret d, f, s' => ∃ v, f = .ret v ∧ (∃ h tk, s' = { s₀ with heap := h, toks := tk }) ∧ (∀ a o, Pr a o → s'.heap.get? a = some o) ∧ R X₀ s'.heap v d
theorem Post.weak {X₁ : Addr → Prop} {Pr₁ : Addr → Obj → Prop} {o : Out} {f : Flow} {s' : Shared} (h : Post h₀ n A pl env N X₁ mu Pr₁ s₀ o f s') (hX : ∀ a, X₀ a → X₁ a) (hP : ∀ a o, Pr a o → Pr₁ a o) (h0 : ∀ a o, h₀.get? a = some o → Pr a o) : Post h₀ n A pl env N X₀ mu Pr s₀ o f s' := by
  cases o with
  | next ρ =>
    obtain ⟨rfl, lk, fp, S⟩ := h
    exact ⟨rfl, lk, fp, (S.newX (keeps_refl _) (fun a q => .inl (hX a q)) fun a q => S.xb0 a (hX a q)).pre hP h0⟩
  | ret d =>
    obtain ⟨v, rfl, a, b, c⟩ := h
    exact ⟨v, rfl, a, fun x o q => b x o (hP x o q), R.mono (fun a o q e => ⟨fun z => q (hX a z), e⟩) d v c⟩

/-- what is shown of a piece of code -/
noncomputable def Goal (prog : Program) (w : World) (h₀ : Heap) (n : Nat) (A : Around) (pl : Bool) (env : Env) (ns : Nms) (N : List (Nat × Str)) (mu : Nat) (s₀ : Shared) : C → Rho → Out → Prop
  | .stmt st, ρ, o => ∀ ps, TrS pl mu ns N ps st → ∀ (X₀ : Addr → Prop) (Pr : Addr → Obj → Prop) (s : Shared) (lk : Str → Option Value) (fp : List Addr), Sat h₀ n A pl env N X₀ mu Pr s₀ ρ s lk fp →
      wpAny (model prog w) A (exec ps env) (Post h₀ n A pl env N X₀ mu Pr s₀ o) NoE s ∧
      ∀ t b pos, ps = .While t b [] pos → ∀ K : Result → Shared → Prop, (∀ f s', Post h₀ n A pl env N X₀ mu Pr s₀ o f s' → K (.ok f) s') → codeAny (model prog w) A (.whileLoop t b [] env) K s
  | .seq l, ρ, o => ∀ ps, TrSs pl mu ns N ps l → ∀ (X₀ : Addr → Prop) (Pr : Addr → Obj → Prop) (s : Shared) (lk : Str → Option Value) (fp : List Addr), Sat h₀ n A pl env N X₀ mu Pr s₀ ρ s lk fp → wpAny (model prog w) A (execs ps env) (Post h₀ n A pl env N X₀ mu Pr s₀ o) NoE s
  | .loop x ds b, ρ, o => ∀ (y : Str) (px : Pos) ps, N.lookup x = some y → isVar ns y = true → x ≠ mu → TrSs pl mu ns N ps b → ∀ (dsAll : List D) (i : Nat), ds = dsAll.drop i →
      ∀ (X₀ X₁ : Addr → Prop) (Pr : Addr → Obj → Prop) (s : Shared) (lk : Str → Option Value) (fp : List Addr) (I : Addr) (wfp : List Addr) (P : Nat → Value → Prop) (St : Nat → Heap → Prop) (h₁ : Heap) (fp₁ : List Addr),
      Walks prog w A I wfp [I] dsAll.length P St → (∀ b ∈ wfp, b = I ∨ ∃ o, Pr b o) → (∀ i h, St i h → ∃ o, h.get? I = some o) → (∀ a, X₁ a ↔ X₀ a ∨ a = I) → ¬ X₀ I → (∀ o, ¬ Pr I o) →
      (∀ a o, ¬ XX env X₁ fp₁ a → h₁.get? a = some o → Pr a o) → (∀ (j : Nat) v d, P j v → dsAll[j]? = some d → R (XX env X₁ fp₁) h₁ v d) →
      Sat h₀ n A pl env N X₁ mu Pr s₀ ρ s lk fp → St i s.heap → i ≤ dsAll.length →
      ∀ K : Result → Shared → Prop, (∀ f s', Post h₀ n A pl env N X₀ mu Pr s₀ o f s' → K (.ok f) s') → codeAny (model prog w) A (.forLoop (.Name y px) (.ref I) ps [] env) K s

theorem swOk_of (hn : env.scope.names = ns) (hk : env.scope.kind = .function) {y : Str} {sc : Scope} {py pos' : Pos} (h : swOk ns y sc py.line pos'.line = true) (e : PySem.Expr) (g : List Comprehension) (line : Nat) : swapsWith (.ListComp e g sc pos') (some (.Name y py)) line env = pure true := by
  have hb : env.blockKind = .function := by unfold Env.blockKind; rw [hk]; rfl
  unfold swOk at h
  simp only [Bool.and_eq_true] at h
  obtain ⟨⟨h1, h2⟩, h3⟩ := h
  unfold swapsWith
  simp only [hb, Env.kindOf, hn, h1]
  show (pure (_ && _ && _ && _) : Sem Bool) = pure true
  congr 1
  simp only [Bool.and_eq_true]
  exact ⟨⟨⟨rfl, trivial⟩, h2⟩, h3⟩

theorem run_sound (hΦ : Sound prog w h₀ n Φ) (hn : env.scope.names = ns) {c : C} {ρ : Rho} {o : Out} (hr : Run Φ mu c ρ o) : Goal prog w h₀ n A pl env ns N mu s₀ c ρ o := by
  induction hr with
  | nil =>
    intro ps tr X₀ Pr s lk fp S
    cases tr.nil_inv
    exact wpAny_execs_nil ⟨rfl, lk, fp, S⟩
  | cons _ _ ih1 ih2 =>
    intro ps tr X₀ Pr s lk fp S
    obtain ⟨_, _, rfl, t1, t2⟩ := tr.cons_inv
    refine wpAny_execs_cons (wpAny_mono (ih1 _ t1 X₀ Pr s lk fp S).1 (fun f s' h => ?_) fun _ _ q => q)
    obtain ⟨rfl, lk', fp', S'⟩ := h
    exact ih2 _ t2 X₀ Pr s' lk' fp' S'
  | stop _ ih =>
    intro ps tr X₀ Pr s lk fp S
    obtain ⟨_, _, rfl, t1, t2⟩ := tr.cons_inv
    refine wpAny_execs_cons (wpAny_mono (ih _ t1 X₀ Pr s lk fp S).1 (fun f s' h => ?_) fun _ _ q => q)
    obtain ⟨v, rfl, h⟩ := h
    exact ⟨v, rfl, h⟩
  | assign hx he hf =>
    intro ps tr X₀ Pr s lk fp S
    obtain ⟨_, _, _, _, rfl, h1, h2, h3, h4⟩ := tr.inv
    refine ⟨wpAny_Assign_Name (wpAny_mono (S.eval hΦ hn h3 he hf) (fun v s' h => ?_) fun _ _ q => q) (h3.noSwap' h4 _ _ _), fun _ _ _ q => by cases q⟩
    exact wpAny_mono ((S.ext h.1).store hx h1 (isVar_of hn h2).1 h.2) (fun _ s'' ⟨lk', S'⟩ => ⟨rfl, lk', fp, S'⟩) fun _ _ q => q
  | @aug x e ρ i j hx hg he =>
    intro ps tr X₀ Pr s lk fp S
    obtain ⟨y, _, _, _, rfl, h1, h2, h3⟩ := tr.inv
    refine ⟨wpAny_AugAssign_Name ?_, fun _ _ _ q => by cases q⟩
    obtain ⟨v, hv, r⟩ := S.sim _ _ _ hx h1 hg
    obtain ⟨t, rfl⟩ := int_inv r
    have rest : ∀ Q : Value → Shared → Prop, Q (.int i t) s → wpAny (model prog w) A (loadName env y) Q NoE s := by
      intro Q hQ
      rcases (isVar_of hn h2).1 with hk | hk
      · obtain ⟨m, hm, he⟩ := S.fm.loc
        exact wpAny_loadName_local S.fm.kind hk hm ((he y hk).trans hv) hQ
      · obtain ⟨cc, hc, ic⟩ := S.fm.cel y hk
        rw [hv] at ic
        exact wpAny_loadName_cell S.fm.kind hk hc ic hQ
    refine rest _ (wpAny_mono (S.evalF hΦ hn h3 he rfl) (fun v s' h => ?_) fun _ _ q => q)
    obtain ⟨u, rfl⟩ := int_inv h.2
    refine PyProof.Rows.iadd_int ?_
    exact wpAny_mono (((S.ext h.1).ext (keeps_tok _ _)).store hx h1 (isVar_of hn h2).1 (d := .int _) (by rw [R]; exact ⟨_, rfl⟩)) (fun _ s'' ⟨lk', S'⟩ => ⟨rfl, lk', fp, S'⟩) fun _ _ q => q
  | mkNil hl hg =>
    intro ps tr X₀ Pr s lk fp S
    obtain ⟨_, _, _, _, rfl, _, h1, h2⟩ := tr.inv
    exact ⟨mkNil_sound S h1 (isVar_of hn h2).1 hl hg, fun _ _ _ q => by cases q⟩
  | mkFill hl hg he h0 h1' =>
    intro ps tr X₀ Pr s lk fp S
    obtain ⟨_, _, _, _, _, _, _, _, rfl, _, h1, h2, h3⟩ := tr.inv
    exact ⟨mkFill_sound S h1 (isVar_of hn h2).1 hl hg (fun s' k => ev_sound hΦ _ hn h3 (by have := (S.ext k).cxAll; exact this) he) h0 h1', fun _ _ _ q => by cases q⟩
  | @mkTab y c r ρ k m hl hg hy hcy hcm hrm hc h0 h1' hr h2' h3' =>
    intro ps tr X₀ Pr s lk fp S
    obtain ⟨_, _, _, _, _, _, _, _, _, _, _, _, _, _, _, _, cp, rfl, _, h1, h2, h3, h4, h5, h6, h7, h8⟩ := tr.inv
    refine ⟨mkTab_sound S h1 (isVar_of hn h2).1 hl hg (compOk_of hn h3) (fun v => rfl) (swOk_of hn S.fm.kind h4 _ _ _) (pr := by assumption) (dr := .rng (rngL 0 m 1)) (ds := (rngL 0 m 1).map .int)
      (ev_sound hΦ (.range1 r) hn (.range1 h5 h6 h7) S.cxAll ?_) rfl ?_ (fun C X' s' lk' e cx => ev_sound hΦ c ?_ h8 cx ?_) h0 h1' h3', fun _ _ _ q => by cases q⟩
    · simp only [ev, hr]
      unfold rangeD small
      rw [if_pos]
      simp; lia
    · unfold rngL rngN
      simp
    · exact relabel_names (compOk_of hn h3) S.fm.kind
    · rw [← hc]
      exact ev_off Φ _ c _ _ hcy (fun x hx => get_put_ne hx) (by unfold Rho.put; simp)
  | append hg he hf hl =>
    intro ps tr X₀ Pr s lk fp S
    obtain ⟨_, _, _, _, _, _, rfl, _, h0, h1, h2, h3, h4⟩ := tr.inv
    subst h0
    exact ⟨append_sound S hΦ hn h1 h2 h3 h4 hg he hf hl, fun _ _ _ q => by cases q⟩
  | set1 hg hi h0 h1' he hf =>
    intro ps tr X₀ Pr s lk fp S
    obtain ⟨_, _, _, _, _, _, rfl, _, h00, h1, h2, h3, h4, h5⟩ := tr.inv
    subst h00
    exact ⟨set1_sound S hΦ hn h1 h2 h3 h5 (h3.noSwap' h4 _ _ _) hg hi h0 h1' he hf, fun _ _ _ q => by cases q⟩
  | set2 hg hi h0 hr hj h1' h2' he hf =>
    intro ps tr X₀ Pr s lk fp S
    obtain ⟨_, _, _, _, _, _, _, _, rfl, _, h00, h1, h2, h3, h4, h5, h6⟩ := tr.inv
    subst h00
    exact ⟨set2_sound S hΦ hn h1 h2 h3 h5 h6 (h3.noSwap' h4 _ _ _) hg hi h0 hr hj h1' h2' he hf, fun _ _ _ q => by cases q⟩
  | iteT ht _ ih =>
    intro ps tr X₀ Pr s lk fp S
    obtain ⟨_, _, _, _, rfl, h1, h2, h3⟩ := tr.inv
    refine ⟨wpAny_If (wpAny_mono (tst_sound hΦ _ hn h1 S.cxAll ht) (fun b s' h => ?_) fun _ _ q => q), fun _ _ _ q => by cases q⟩
    rw [h.1, if_pos rfl]
    exact ih _ h2 X₀ Pr s' lk fp (S.ext h.2)
  | iteF ht _ ih =>
    intro ps tr X₀ Pr s lk fp S
    obtain ⟨_, _, _, _, rfl, h1, h2, h3⟩ := tr.inv
    refine ⟨wpAny_If (wpAny_mono (tst_sound hΦ _ hn h1 S.cxAll ht) (fun b s' h => ?_) fun _ _ q => q), fun _ _ _ q => by cases q⟩
    rw [h.1, if_neg (by decide)]
    exact ih _ h3 X₀ Pr s' lk fp (S.ext h.2)
  | @for_ x e b ρ d ds o hx he hoff hi _ ih =>
    intro ps tr X₀ Pr s lk fp S
    obtain ⟨_, _, _, _, _, rfl, h1, h2, h3, h4⟩ := tr.inv
    refine ⟨wpAny_For (wpAny_mono (ev_sound hΦ e hn h3 S.cx (ev_del hoff he)) (fun v s₁ hv => ?_) fun _ _ q => q) (h3.noSet env), fun _ _ _ q => by cases q⟩
    have S₁ := S.ext hv.1
    obtain ⟨hiter, hdl⟩ := iter_sound (prog := prog) (w := w) (G := NoE) S.ao S₁.xb hv.2 hi
    refine wpAny_mono hiter (fun it s₂ h₂ => ?_) fun _ _ q => q
    obtain ⟨wfp, P, St, rfl, hk, its, hst, hsz⟩ := h₂
    have hnone : s₁.heap.get? s₁.heap.objs.size = none := Heap.get?_none_of_le (Nat.le_refl _)
    have nX : ¬ X₀ s₁.heap.objs.size := fun q => by obtain ⟨o, e⟩ := S₁.xb0 _ q; rw [hnone] at e; cases e
    have offI : ∀ a o, s₁.heap.get? a = some o → ¬ XX env X₀ fp a → ¬ XX env (fun a => X₀ a ∨ a = s₁.heap.objs.size) fp a := fun a o e q z => by
      rcases z with (z | z) | z | z
      · exact q (.inl z)
      · rw [z, hnone] at e; cases e
      · exact q (.inr (.inl z))
      · exact q (.inr (.inr z))
    have hb : XB (fun a => X₀ a ∨ a = s₁.heap.objs.size) s₂.heap := fun a q => by
      rcases q with q | q
      · obtain ⟨o, e⟩ := S₁.xb0 a q; exact ⟨o, keeps_ext hk a o e⟩
      · rw [q]; exact its.live 0 _ hst
    have S₂ := S₁.prot.newX (X₁ := fun a => X₀ a ∨ a = s₁.heap.objs.size) hk (fun a q => q.elim .inl fun q => .inr (by rw [q]; exact hnone)) hb
    refine ih _ _ _ h1 h2 hx h4 ds 0 (by simp) X₀ _ _ s₂ lk fp _ wfp P St s₁.heap fp its.W (fun b hb => ?_) its.live (fun a => Iff.rfl) nX (fun o q => by rw [hnone] at q; cases q.1) (fun a o q e => ⟨e, fun z => q (.inr (.inl z)), fun z => q (.inr (.inr z))⟩)
      (fun j v' d' hp hd => ?_) S₂ hst (Nat.zero_le _) _ (fun f s' hp => ?_)
    · rcases its.old b hb with q | ⟨q, o, e⟩
      · exact .inl q
      · exact .inr ⟨o, e, fun z => q (.inr (.inl z)), fun z => q (.inr (.inr z))⟩
    · exact R.mono (fun a o q e => ⟨offI a o e q, e⟩) _ _ (its.val j v' d' hp hd)
    · exact hp.weak (fun a q => q) (fun a o q => ⟨S₁.pr a o q, fun z => (S.ownP a z).1 o q, fun z => (S.fpL a z).2.1 o q⟩) S.pr0
  | loopNil =>
    intro y px ps h1 h2 hx tr dsAll i hds X₀ X₁ Pr s lk fp I wfp P St h₁ fp₁ W hw hlive hX nX hPI hold hval S hst hi K hK
    have hi' : i = dsAll.length := by
      have := congrArg List.length hds
      simp at this; lia
    subst hi'
    refine for_step (W.done s _ _ hst fun h' tk hs => ?_)
    refine hK _ _ ⟨rfl, lk, fp, S.touch ((hX I).mpr (.inr rfl)) hPI (fun b o q e => hs b o (fun z => q (List.mem_singleton.mp z)) e) (fun a q => (hX a).mpr (.inl q)) fun a q => ?_⟩
    obtain ⟨o, e⟩ := S.xb0 a ((hX a).mpr (.inl q))
    exact ⟨o, hs a o (fun z => nX (by rw [← List.mem_singleton.mp z]; exact q)) e⟩
  | @loopCons x d ds b ρ ρ' o _ _ ih1 ih2 =>
    intro y px ps h1 h2 hx tr dsAll i hds X₀ X₁ Pr s lk fp I wfp P St h₁ fp₁ W hw hlive hX nX hPI hold hval S hst hi K hK
    have hXI : X₁ I := (hX I).mpr (.inr rfl)
    have hlt : i < dsAll.length := by
      have := congrArg List.length hds
      simp at this; lia
    have hd : dsAll[i]? = some d := by
      have : (dsAll.drop i)[0]? = some d := by rw [← hds]; rfl
      simpa using this
    have hds' : ds = dsAll.drop (i + 1) := by
      rw [← List.drop_drop, ← hds]; rfl
    refine for_step (W.item i s _ _ hlt hst fun v h' tk hp hst' hs => ?_)
    have hs' : ∀ b o, b ≠ I → s.heap.get? b = some o → h'.get? b = some o := fun b o q e => hs b o (fun z => q (List.mem_singleton.mp z)) e
    have S₁ := S.touch (h' := h') (tk := tk) hXI hPI hs' (fun a q => q) fun a q => by
      by_cases ha : a = I
      · rw [ha]; exact hlive _ _ hst'
      · obtain ⟨o, e⟩ := S.xb0 a q; exact ⟨o, hs' a o ha e⟩
    have rv : R (XX env X₁ fp) h' v d := R.mono (fun a o q e => by
      have hpr := hold a o q e
      refine ⟨fun z => ?_, S₁.pr a o hpr⟩
      rcases z with z | z | z
      · exact q (.inl z)
      · exact q (.inr (.inl z))
      · exact (S₁.fpL a z).2.1 o hpr) d v (hval i v d hp hd)
    have PI : ∀ a o, Pr a o → h'.get? a = some o ∧ ¬ Own env a ∧ a ∉ fp := fun a o q => ⟨S₁.pr a o q, fun z => (S₁.ownP a z).1 o q, fun z => (S₁.fpL a z).2.1 o q⟩
    refine wpAny_mono (S₁.prot.store hx h1 (isVar_of hn h2).1 rv) (fun _ s₂ h₂ => ?_) fun _ _ q => q
    obtain ⟨lk₂, S₂⟩ := h₂
    refine wpAny_mono (ih1 _ tr X₁ _ s₂ lk₂ fp S₂) (fun f s₃ h₃ => ?_) fun _ _ q => q
    obtain ⟨rfl, lk₃, fp₃, S₃⟩ := h₃
    refine ih2 y px ps h1 h2 hx tr dsAll (i + 1) hds' X₀ X₁ Pr s₃ lk₃ fp₃ I wfp P St h₁ fp₁ W hw hlive hX nX hPI hold hval (S₃.pre PI S.pr0) (W.frame _ h' _ hst' fun b hb o e => S₃.pr b o ⟨e, fun z => ?_, fun z => ?_⟩) hlt K hK
    · rcases hw b hb with rfl | ⟨o', q⟩
      · exact (S₁.ownP _ z).2 hXI
      · exact (PI b o' q).2.1 z
    · rcases hw b hb with rfl | ⟨o', q⟩
      · exact (S₁.fpL _ z).2.2.1 hXI
      · exact (PI b o' q).2.2 z
  | @loopStop x d ds b ρ r _ ih1 =>
    intro y px ps h1 h2 hx tr dsAll i hds X₀ X₁ Pr s lk fp I wfp P St h₁ fp₁ W hw hlive hX nX hPI hold hval S hst hi K hK
    have hXI : X₁ I := (hX I).mpr (.inr rfl)
    have hlt : i < dsAll.length := by
      have := congrArg List.length hds
      simp at this; lia
    have hd : dsAll[i]? = some d := by
      have : (dsAll.drop i)[0]? = some d := by rw [← hds]; rfl
      simpa using this
    refine for_step (W.item i s _ _ hlt hst fun v h' tk hp hst' hs => ?_)
    have hs' : ∀ b o, b ≠ I → s.heap.get? b = some o → h'.get? b = some o := fun b o q e => hs b o (fun z => q (List.mem_singleton.mp z)) e
    have S₁ := S.touch (h' := h') (tk := tk) hXI hPI hs' (fun a q => q) fun a q => by
      by_cases ha : a = I
      · rw [ha]; exact hlive _ _ hst'
      · obtain ⟨o, e⟩ := S.xb0 a q; exact ⟨o, hs' a o ha e⟩
    have rv : R (XX env X₁ fp) h' v d := R.mono (fun a o q e => by
      have hpr := hold a o q e
      refine ⟨fun z => ?_, S₁.pr a o hpr⟩
      rcases z with z | z | z
      · exact q (.inl z)
      · exact q (.inr (.inl z))
      · exact (S₁.fpL a z).2.1 o hpr) d v (hval i v d hp hd)
    refine wpAny_mono (S₁.store hx h1 (isVar_of hn h2).1 rv) (fun _ s₂ h₂ => ?_) fun _ _ q => q
    obtain ⟨lk₂, S₂⟩ := h₂
    refine wpAny_mono (ih1 _ tr X₁ _ s₂ lk₂ fp S₂) (fun f s₃ h₃ => ?_) fun _ _ q => q
    have h₃' := h₃.weak (X₀ := X₀) (Pr := Pr) (fun a q => (hX a).mpr (.inl q)) (fun a o q => q) S.pr0
    obtain ⟨v, rfl, _⟩ := h₃
    exact hK _ _ h₃'
  | @whileF t b ρ ht =>
    intro ps tr X₀ Pr s lk fp S
    obtain ⟨pt, pb, _, rfl, h1, h2⟩ := tr.inv
    have key : ∀ K : Result → Shared → Prop, (∀ f s', Post h₀ n A pl env N X₀ mu Pr s₀ (.next ρ) f s' → K (.ok f) s') → codeAny (model prog w) A (.whileLoop pt pb [] env) K s := fun K hK => while_step (wpAny_mono (tst_sound hΦ _ hn h1 S.cxAll ht) (fun b s' h => by
      rw [h.1, if_neg (by decide)]
      exact hK _ _ ⟨rfl, lk, fp, S.ext h.2⟩) fun _ _ q => q)
    exact ⟨wpAny_While (key _ fun f s' q => q), fun _ _ _ q => by cases q; exact key⟩
  | @whileT t b ρ ρ' o ht _ _ ih1 ih2 =>
    intro ps tr X₀ Pr s lk fp S
    have tr' := tr
    obtain ⟨pt, pb, _, rfl, h1, h2⟩ := tr.inv
    have key : ∀ K : Result → Shared → Prop, (∀ f s', Post h₀ n A pl env N X₀ mu Pr s₀ o f s' → K (.ok f) s') → codeAny (model prog w) A (.whileLoop pt pb [] env) K s := fun K hK => while_step (wpAny_mono (tst_sound hΦ _ hn h1 S.cxAll ht) (fun b s' h => by
      rw [h.1, if_pos rfl]
      refine wpAny_mono (ih1 _ h2 X₀ Pr s' lk fp (S.ext h.2)) (fun f s₃ h₃ => ?_) fun _ _ q => q
      obtain ⟨rfl, lk₃, fp₃, S₃⟩ := h₃
      exact (ih2 _ tr' X₀ Pr s₃ lk₃ fp₃ S₃).2 _ _ _ rfl K hK) fun _ _ q => q)
    exact ⟨wpAny_While (key _ fun f s' q => q), fun _ _ _ q => by cases q; exact key⟩
  | @whileR t b ρ d ht _ ih1 =>
    intro ps tr X₀ Pr s lk fp S
    obtain ⟨pt, pb, _, rfl, h1, h2⟩ := tr.inv
    have key : ∀ K : Result → Shared → Prop, (∀ f s', Post h₀ n A pl env N X₀ mu Pr s₀ (.ret d) f s' → K (.ok f) s') → codeAny (model prog w) A (.whileLoop pt pb [] env) K s := fun K hK => while_step (wpAny_mono (tst_sound hΦ _ hn h1 S.cxAll ht) (fun b s' h => by
      rw [h.1, if_pos rfl]
      refine wpAny_mono (ih1 _ h2 X₀ Pr s' lk fp (S.ext h.2)) (fun f s₃ h₃ => ?_) fun _ _ q => q
      have h₃' := h₃
      obtain ⟨v, rfl, _⟩ := h₃
      exact hK _ _ h₃') fun _ _ q => q)
    exact ⟨wpAny_While (key _ fun f s' q => q), fun _ _ _ q => by cases q; exact key⟩
  | ret he =>
    intro ps tr X₀ Pr s lk fp S
    obtain ⟨_, _, rfl, h1⟩ := tr.inv
    refine ⟨wpAny_Return_some (wpAny_mono (ev_sound hΦ _ hn h1 S.cxAll he) (fun v s' h => ?_) fun _ _ q => q), fun _ _ _ q => by cases q⟩
    have S' := S.ext h.1
    exact ⟨v, rfl, S'.same, S'.pr, R.mono (fun a o q e => ⟨fun z => q (.inl z), e⟩) _ _ h.2⟩
end
end Mine
namespace Mine
open PySem PySem.SeqAt

theorem bindL_off {kindOf : Str → Option NameKind} : ∀ (binds : List (Str × Value)) (m : Str → Option Value) (y : Str), (∀ z ∈ binds, z.1 ≠ y) → bindL kindOf binds m y = m y
  | [], m, y, _ => rfl
  | (k, v) :: r, m, y, h => by
    unfold bindL
    rw [bindL_off r _ y fun z hz => h z (List.mem_cons_of_mem _ hz)]
    split
    · have := h (k, v) List.mem_cons_self
      exact if_neg fun e => this e.symm
    · rfl
theorem bindC_off {kindOf : Str → Option NameKind} : ∀ (binds : List (Str × Value)) (m : Str → Option Value) (y : Str), (∀ z ∈ binds, z.1 ≠ y) → bindC kindOf binds m y = m y
  | [], m, y, _ => rfl
  | (k, v) :: r, m, y, h => by
    unfold bindC
    rw [bindC_off r _ y fun z hz => h z (List.mem_cons_of_mem _ hz)]
    split
    · rfl
    · have := h (k, v) List.mem_cons_self
      exact if_neg fun e => this e.symm
theorem bindL_in {kindOf : Str → Option NameKind} {y : Str} {v : Value} (hk : kindOf y = some .local) : ∀ (binds : List (Str × Value)) (m : Str → Option Value), (binds.map (·.1)).Nodup → (y, v) ∈ binds → bindL kindOf binds m y = some v
  | (k, v') :: r, m, hd, h => by
    unfold bindL
    rw [List.map_cons, List.nodup_cons] at hd
    rcases List.mem_cons.mp h with e | h
    · cases e
      rw [if_pos hk, bindL_off r _ y]
      · exact if_pos rfl
      · intro z hz e
        exact hd.1 (List.mem_map.mpr ⟨z, hz, e⟩)
    · exact bindL_in hk r _ hd.2 h
theorem bindC_in {kindOf : Str → Option NameKind} {y : Str} {v : Value} (hk : kindOf y = some .cell) : ∀ (binds : List (Str × Value)) (m : Str → Option Value), (binds.map (·.1)).Nodup → (y, v) ∈ binds → bindC kindOf binds m y = some v
  | (k, v') :: r, m, hd, h => by
    unfold bindC
    rw [List.map_cons, List.nodup_cons] at hd
    rcases List.mem_cons.mp h with e | h
    · cases e
      have : ¬ kindOf y = some .local := by rw [hk]; decide
      rw [if_neg this, bindC_off r _ y]
      · exact if_pos rfl
      · intro z hz e
        exact hd.1 (List.mem_map.mpr ⟨z, hz, e⟩)
    · exact bindC_in hk r _ hd.2 h
theorem cells_some {x : Str} : ∀ (names : List (Str × NameKind)) (n : Nat) (acc : List (Str × Addr)), ((acc.lookup x).isSome = true ∨ (x, NameKind.cell) ∈ names) → ((cellsFrom n names acc).lookup x).isSome = true
  | [], n, acc, h => by
    rcases h with h | h
    · exact h
    · cases h
  | (k, kind) :: r, n, acc, h => by
    unfold cellsFrom
    split
    · rename_i hc
      refine cells_some r _ _ ?_
      rcases h with h | h
      · left
        rw [List.lookup_cons]
        split
        · rfl
        · exact h
      · rcases List.mem_cons.mp h with e | h
        · cases e
          left
          rw [List.lookup_cons, beq_self_eq_true]; rfl
        · exact .inr h
    · rename_i hc
      refine cells_some r _ _ ?_
      rcases h with h | h
      · exact .inl h
      · rcases List.mem_cons.mp h with e | h
        · cases e
          exact absurd rfl hc
        · exact .inr h

/-- the parameters come first, and no name twice -/
noncomputable def nOk (ns : Nms) (params : List Str) (N : List (Nat × Str)) : Bool :=
  (N.map (·.2)).Nodup && params.Nodup && (List.range params.length).all (fun i => N.lookup i == params[i]?) && params.all fun y => isVar ns y
theorem nOk_inj {N : List (Nat × Str)} (h : (N.map (·.2)).Nodup) : ∀ u x y, N.lookup u = some y → N.lookup x = some y → u = x := by
  induction N with
  | nil => intro u x y e; cases e
  | cons p r ih =>
    intro u x y e1 e2
    rw [List.map_cons, List.nodup_cons] at h
    rw [List.lookup_cons] at e1 e2
    have hin : ∀ z, r.lookup z = some y → y ∈ r.map (·.2) := fun z e => List.mem_map.mpr ⟨(z, y), mem_of_lookup2 e, rfl⟩
    split at e1 <;> split at e2
    · rename_i _ q1 _ q2
      exact (beq_iff_eq.mp q1).trans (beq_iff_eq.mp q2).symm
    · cases e1
      exact absurd (hin x e2) h.1
    · cases e2
      exact absurd (hin u e1) h.1
    · exact ih h.2 u x y e1 e2

theorem Rs.getElem {X : Addr → Prop} {h : Heap} : ∀ {vs : List Value} {ds : List D} (r : Rs X h vs ds) (i : Nat) (d : D), ds[i]? = some d → ∃ v, vs[i]? = some v ∧ R X h v d
  | vs, [], r, i, d, e => by simp at e
  | vs, d' :: ds, r, i, d, e => by
    rw [Rs] at r
    obtain ⟨v, vs', rfl, r1, r2⟩ := r
    cases i with
    | zero =>
      have : d' = d := by simpa using e
      subst this
      exact ⟨v, rfl, r1⟩
    | succ i => exact r2.getElem i d (by simpa using e)

noncomputable def rho0 (ds : List D) (k : Nat) : Rho := ds.map some ++ List.replicate k none
theorem rho0_get {ds : List D} {k x : Nat} {d : D} (h : (rho0 ds k).get x = some d) : ds[x]? = some d := by
  unfold rho0 Rho.get at h
  by_cases hx : x < ds.length
  · rw [List.getElem?_append_left (by simpa using hx)] at h
    rw [List.getElem?_map] at h
    rw [List.getElem?_eq_getElem hx] at h ⊢
    simpa using h
  · rw [List.getElem?_append_right (by simpa using hx)] at h
    rw [List.getElem?_replicate] at h
    split at h <;> simp at h

section
variable {prog : Program} {w : World} {h₀ : Heap} {n : Nat} {pl : Bool} {N : List (Nat × Str)} {mu : Nat} {Φ : Phi}

structure FdOk (h₀ : Heap) (fd : FuncData) (sc : Scope) (body : List Stmt) (params : List Str) : Prop where
  code : h₀.CodeRec fd.code fd.qualname
  body : fd.body = .stmts body
  scope : fd.scope = sc
  bind : ∀ vals : List Value, vals.length = params.length → bindArgs fd ⟨vals, []⟩ = pure (params.zip vals)
  clo : fd.closure = []
  glob : fd.globals = mainGlobals
  blt : fd.builtins = builtinsNs
noncomputable def scOk (sc : Scope) : Bool := sc.kind == .function && sc.isCoroutine == false && sc.isGenerator == false

theorem fn_at (hb : Base h₀) (hΦ : Sound prog w h₀ n Φ) {ds : List D} {d : D} {a : Addr} {o : Obj} {fd : FuncData} {sc : Scope} {body : List Stmt} {params : List Str} {p : List S} (k : Nat)
    (ho : h₀.get? a = some o) (hd : o.data = .func fd) (ok : FdOk h₀ fd sc body params) (hsc : scOk sc = true) (hN : nOk sc.names params N = true) (hl : ds.length = params.length)
    (tr : TrSs pl mu sc.names N body p) (hmu : (rho0 ds k).get mu = none) (hrun : Run Φ mu (.seq p) (rho0 ds k) (.ret d))
    (A : Around) (X : Addr → Prop) (s : Shared) (vs : List Value) (ao : AOk (n + 1) A) (ctx : Ctx h₀ X s.heap) (xb : XB X s.heap) (rs : Rs X s.heap vs ds) : wpAny (model prog w) A (call (.ref a) vs) (Ev X s d) NoE s := by
  unfold scOk at hsc
  simp only [Bool.and_eq_true, beq_iff_eq] at hsc
  obtain ⟨⟨hkind, hco⟩, hgen⟩ := hsc
  unfold nOk at hN
  simp only [Bool.and_eq_true, decide_eq_true_eq, List.all_eq_true, List.mem_range, beq_iff_eq] at hN
  obtain ⟨⟨⟨hN1, hN2⟩, hN3⟩, hN4⟩ := hN
  have hvl : vs.length = params.length := by rw [rs.length, hl]
  have hsub : ∀ b o, h₀.get? b = some o → s.heap.get? b = some o := fun b o e => (ctx b o e).2
  have hzip : (params.zip vs).map (·.1) = params := by rw [List.map_fst_zip]; lia
  have kd : ∀ y, (callEnvC fd s.heap.objs.size a).kindOf y = sc.names.lookup y := fun y => by
    show fd.scope.names.lookup y = _
    rw [ok.scope]
  have kds : ∀ y ∈ params, sc.names.lookup y = some .local ∨ sc.names.lookup y = some .cell := fun y hy => by
    have := hN4 y hy
    unfold isVar at this
    simp only [Bool.and_eq_true, Bool.or_eq_true, beq_iff_eq] at this
    exact this.1
  have hcells : ∀ y, sc.names.lookup y = some .cell → ((cellsFrom (s.heap.objs.size + 1) fd.scope.names []).lookup y).isSome = true := fun y hy => by
    rw [ok.scope]
    exact cells_some _ _ _ (.inr (mem_of_lookup hy))
  refine wpAny_call (codeAny_call_cells (by have := ao.dp; have : recursionLimit = 1000 := rfl; lia) (hsub a o ho) hd (hb.lim.keeps hsub) (ok.code.keeps hsub) ok.body (ok.bind vs hvl) ok.clo (fun x hx => ?_) (fun s₁ ic => ?_) (by rw [ok.scope]; exact hco) (by rw [ok.scope]; exact hgen) (by rw [ok.scope]; exact hkind))
  · have hx' : x.1 ∈ params := by rw [← hzip]; exact List.mem_map.mpr ⟨x, hx, rfl⟩
    rcases kds x.1 hx' with q | q
    · left; rw [ok.scope]; exact q
    · right; rw [ok.scope]; refine ⟨q, ?_⟩
      have := hcells x.1 q
      rwa [ok.scope] at this
  have hloc : (callEnvC fd s.heap.objs.size a).locals = s.heap.objs.size := rfl
  have hcl : (callEnvC fd s.heap.objs.size a).cells = cellsFrom (s.heap.objs.size + 1) fd.scope.names [] := rfl
  have lt : ∀ b o, s.heap.get? b = some o → b < s.heap.objs.size := fun b o e => Heap.lt_size e
  have own : ∀ b, Own (callEnvC fd s.heap.objs.size a) b → s.heap.get? b = none := fun b q => by
    cases e : s.heap.get? b with
    | none => rfl
    | some o =>
      have h1 := lt b o e
      rcases q with rfl | ⟨z, hz⟩
      · exact absurd h1 (Nat.lt_irrefl _)
      · exact absurd (Nat.lt_trans h1 (ic.above z b (mem_of_lookup hz))) (Nat.lt_irrefl _)
  have S : Sat h₀ n (A.deeper (callEnvC fd s.heap.objs.size a)) pl (callEnvC fd s.heap.objs.size a) N X mu (fun b o => s.heap.get? b = some o) s (rho0 ds k) s₁
      (fun y => if sc.names.lookup y = some .cell then bindC (callEnvC fd s.heap.objs.size a).kindOf (params.zip vs) (fun _ => none) y else bindL (callEnvC fd s.heap.objs.size a).kindOf (params.zip vs) (fun _ => none) y) [] := by
    refine ⟨⟨ao.hd, ?_, ?_⟩, hb, ⟨nOk_inj hN1, fun z z' c h1 h2 => name_of_addr ic.apart (mem_of_lookup h1) (mem_of_lookup h2), fun z c h => Nat.ne_of_gt (ic.above z c (mem_of_lookup h))⟩, ic.toInCall.same, ic.toInCall.keep, hsub, fun b o e => (ctx b o e).1,
      ⟨?_, ok.glob, ok.blt, ⟨_, ic.toInCall.ns, fun y hy => ?_⟩, fun y hy => ?_⟩, fun b q => ?_, fun b q => ⟨fun o e => ?_, fun hx => ?_⟩, fun b q => (by cases q), xb.ext ic.toInCall.keep, fun x y d' hx hN' hd' => ?_, fun d' e => ?_, fun _ => rfl⟩
    · have := ao.dp
      show A.depth + 1 + n < 600
      lia
    · have := ao.un
      show A.units + 3 + 20 * n < 9000
      lia
    · show fd.scope.kind = _
      rw [ok.scope]; exact hkind
    · rw [kd] at hy
      rw [if_neg (by rw [hy]; decide)]
    · rw [kd] at hy
      rw [if_pos hy]
      obtain ⟨c, hc⟩ := Option.isSome_iff_exists.mp (hcells y hy)
      exact ⟨c, hc, ic.cell y c hc⟩
    · rcases q with rfl | ⟨z, hz⟩
      · obtain ⟨o, _, _, e, _⟩ := ic.toInCall.ns; exact ⟨o, e⟩
      · obtain ⟨o, e, _⟩ := ic.cell z b hz; exact ⟨o, e⟩
    · rw [own b q] at e; cases e
    · obtain ⟨o, e⟩ := xb b hx
      rw [own b q] at e; cases e
    · have hdx := rho0_get hd'
      obtain ⟨v, hv, r⟩ := rs.getElem x d' hdx
      have hxl : x < params.length := by rw [← hl]; exact (List.getElem?_eq_some_iff.mp hdx).1
      have hpy : params[x]? = some y := by rw [← hN3 x hxl]; exact hN'
      have hym : y ∈ params := List.mem_of_getElem? hpy
      have hmem : (y, v) ∈ params.zip vs := by
        apply List.mem_of_getElem? (i := x)
        rw [List.getElem?_zip_eq_some]
        exact ⟨hpy, hv⟩
      refine ⟨v, ?_, R.mono (fun b o q e => ⟨fun z => ?_, ic.toInCall.keep b o e⟩) d' v r⟩
      · rcases kds y hym with q | q
        · rw [if_neg (by rw [q]; decide)]
          exact bindL_in (by rw [kd]; exact q) _ _ (by rw [hzip]; exact hN2) hmem
        · rw [if_pos q]
          exact bindC_in (by rw [kd]; exact q) _ _ (by rw [hzip]; exact hN2) hmem
      · rcases z with z | z | z
        · exact q z
        · rw [own b z] at e; cases e
        · cases z
    · rw [hmu] at e; cases e
  have G := run_sound (prog := prog) (w := w) (A := A.deeper (callEnvC fd s.heap.objs.size a)) (pl := pl) (env := callEnvC fd s.heap.objs.size a) (ns := sc.names) (N := N) (s₀ := s) hΦ (by show fd.scope.names = _; rw [ok.scope]) hrun
  refine wpAny_mono (G body tr X _ s₁ _ [] S) (fun f s' h => ?_) fun _ _ q => q.elim
  obtain ⟨v, rfl, ⟨h', tk, rfl⟩, h2, h3⟩ := h
  exact ⟨⟨h', tk, rfl, h2⟩, h3⟩
theorem fn_of (hb : Base h₀) (hΦ : Sound prog w h₀ n Φ) {f : String} {ds : List D} {d : D} {a : Addr} {o : Obj} {fd : FuncData} {sc : Scope} {body : List Stmt} {params : List Str} {p : List S} (k : Nat)
    (hg : GB h₀ (Str.ofString f) (.ref a)) (ho : h₀.get? a = some o) (hd : o.data = .func fd) (ok : FdOk h₀ fd sc body params) (hsc : scOk sc = true) (hN : nOk sc.names params N = true) (hl : ds.length = params.length)
    (tr : TrSs pl mu sc.names N body p) (hmu : (rho0 ds k).get mu = none) (hrun : Run Φ mu (.seq p) (rho0 ds k) (.ret d)) : Fn prog w h₀ (n + 1) f ds d :=
  ⟨a, o, fd, hg, ho, hd, fn_at hb hΦ k ho hd ok hsc hN hl tr hmu hrun⟩
end
end Mine
set_option maxRecDepth 100000
namespace Mine
open PySem

noncomputable def fdef (i : Nat) : Option (Str × Arguments × List Stmt × Scope) := match PySem.Challenge.pw_sx_yweave_2.main.body[i]? with
  | some (.FunctionDef n a b _ _ _ sc _ _ _) => some (n, a, b, sc)
  | _ => none
noncomputable def bod (i : Nat) : List Stmt := match fdef i with | some x => x.2.2.1 | none => []
noncomputable def scp (i : Nat) : Scope := match fdef i with | some x => x.2.2.2 | none => default
noncomputable def prm (i : Nat) : Arguments := match fdef i with | some x => x.2.1 | none => default

/-! lcs_table -/
noncomputable def N1 : List (Nat × Str) := [(0, Str.ofString "a"), (1, Str.ofString "b"), (2, Str.ofString "table"), (3, Str.ofString "i"), (4, Str.ofString "j")]
noncomputable def q1 : List Str := [Str.ofString "a", Str.ofString "b"]
theorem sc1 : scOk (scp 1) = true := by decide +kernel
theorem nk1 : nOk (scp 1).names q1 N1 = true := by decide +kernel
theorem v1_2 {pos : Pos} : Tr (scp 1).names N1 (.Name (Str.ofString "table") pos) (.var 2) := .var rfl (by decide +kernel)
theorem v1_0 {pos : Pos} : Tr (scp 1).names N1 (.Name (Str.ofString "a") pos) (.var 0) := .var rfl (by decide +kernel)
theorem v1_1 {pos : Pos} : Tr (scp 1).names N1 (.Name (Str.ofString "b") pos) (.var 1) := .var rfl (by decide +kernel)
theorem v1_3 {pos : Pos} : Tr (scp 1).names N1 (.Name (Str.ofString "i") pos) (.var 3) := .var rfl (by decide +kernel)
theorem v1_4 {pos : Pos} : Tr (scp 1).names N1 (.Name (Str.ofString "j") pos) (.var 4) := .var rfl (by decide +kernel)
theorem g1_range : isGlob (scp 1).names (Str.ofString "range") = true := by decide +kernel
theorem g1_len : isGlob (scp 1).names (Str.ofString "len") = true := by decide +kernel
theorem g1_max : isGlob (scp 1).names (Str.ofString "max") = true := by decide +kernel
theorem tr1 : TrSs false 2 (scp 1).names N1 (bod 1) p_lcs_table :=
  (.cons (.mkTab [(1, Str.ofString "b")] rfl (by decide +kernel) (by decide +kernel) (by decide +kernel) rfl (by decide +kernel) (.bin rfl (.len rfl g1_len v1_0) .int) (.bin rfl (.len rfl (by decide +kernel) (.var rfl (by decide +kernel))) .int))
    (.cons (.for_ rfl (by decide +kernel) (.range3 rfl g1_range (.bin rfl (.len rfl g1_len v1_0) .int) (.neg .int) (.neg .int)) (.cons (.for_ rfl (by decide +kernel) (.range3 rfl g1_range (.bin rfl (.len rfl g1_len v1_1) .int) (.neg .int) (.neg .int)) (.cons (.ite (.cmp (.cmp rfl (.idx v1_0 v1_3) (.idx v1_1 v1_4))) (.cons (.set2 rfl rfl (by decide +kernel) (.bin rfl (.idx (.idx v1_2 (.bin rfl v1_3 .int)) (.bin rfl v1_4 .int)) .int) rfl v1_3 v1_4)
    .nil) (.cons (.set2 rfl rfl (by decide +kernel) (.max rfl g1_max (.idx (.idx v1_2 (.bin rfl v1_3 .int)) v1_4) (.idx (.idx v1_2 v1_3) (.bin rfl v1_4 .int))) rfl v1_3 v1_4)
    .nil))
    .nil))
    .nil))
    (.cons (.ret v1_2)
    .nil)))
/-! lcs_length -/
noncomputable def N2 : List (Nat × Str) := [(0, Str.ofString "a"), (1, Str.ofString "b")]
noncomputable def q2 : List Str := [Str.ofString "a", Str.ofString "b"]
theorem sc2 : scOk (scp 2) = true := by decide +kernel
theorem nk2 : nOk (scp 2).names q2 N2 = true := by decide +kernel
theorem v2_0 {pos : Pos} : Tr (scp 2).names N2 (.Name (Str.ofString "a") pos) (.var 0) := .var rfl (by decide +kernel)
theorem v2_1 {pos : Pos} : Tr (scp 2).names N2 (.Name (Str.ofString "b") pos) (.var 1) := .var rfl (by decide +kernel)
theorem g2_lcs_table : isGlob (scp 2).names (Str.ofString "lcs_table") = true := by decide +kernel
theorem tr2 : TrSs false 99 (scp 2).names N2 (bod 2) p_lcs_length :=
  (.cons (.ret (.idx (.idx (.call rfl g2_lcs_table (.cons v2_0 (.cons v2_1 .nil))) .int) .int))
    .nil)
/-! matches_of -/
noncomputable def N3 : List (Nat × Str) := [(0, Str.ofString "a"), (1, Str.ofString "b"), (2, Str.ofString "table"), (3, Str.ofString "matches"), (4, Str.ofString "i"), (5, Str.ofString "j")]
noncomputable def q3 : List Str := [Str.ofString "a", Str.ofString "b"]
theorem sc3 : scOk (scp 3) = true := by decide +kernel
theorem nk3 : nOk (scp 3).names q3 N3 = true := by decide +kernel
theorem v3_3 {pos : Pos} : Tr (scp 3).names N3 (.Name (Str.ofString "matches") pos) (.var 3) := .var rfl (by decide +kernel)
theorem v3_4 {pos : Pos} : Tr (scp 3).names N3 (.Name (Str.ofString "i") pos) (.var 4) := .var rfl (by decide +kernel)
theorem v3_0 {pos : Pos} : Tr (scp 3).names N3 (.Name (Str.ofString "a") pos) (.var 0) := .var rfl (by decide +kernel)
theorem v3_5 {pos : Pos} : Tr (scp 3).names N3 (.Name (Str.ofString "j") pos) (.var 5) := .var rfl (by decide +kernel)
theorem v3_1 {pos : Pos} : Tr (scp 3).names N3 (.Name (Str.ofString "b") pos) (.var 1) := .var rfl (by decide +kernel)
theorem v3_2 {pos : Pos} : Tr (scp 3).names N3 (.Name (Str.ofString "table") pos) (.var 2) := .var rfl (by decide +kernel)
theorem g3_len : isGlob (scp 3).names (Str.ofString "len") = true := by decide +kernel
theorem g3_lcs_table : isGlob (scp 3).names (Str.ofString "lcs_table") = true := by decide +kernel
theorem tr3 : TrSs true 3 (scp 3).names N3 (bod 3) p_matches_of :=
  (.cons (.assign rfl (by decide +kernel) (.call rfl g3_lcs_table (.cons v3_0 (.cons v3_1 .nil))) rfl)
    (.cons (.mkNil rfl (by decide +kernel))
    (.cons (.assign rfl (by decide +kernel) .int rfl)
    (.cons (.assign rfl (by decide +kernel) .int rfl)
    (.cons (.while_ (.and (.cons (.cmp (.cmp rfl v3_4 (.len rfl g3_len v3_0))) (.cons (.cmp (.cmp rfl v3_5 (.len rfl g3_len v3_1))) .nil))) (.cons (.ite (.cmp (.cmp rfl (.idx v3_0 v3_4) (.idx v3_1 v3_5))) (.cons (.append rfl rfl (by decide +kernel) (.tup (by decide +kernel) (.cons v3_4 (.cons v3_5 .nil))) (by decide +kernel))
    (.cons (.aug rfl (by decide +kernel) .int)
    (.cons (.aug rfl (by decide +kernel) .int)
    .nil))) (.cons (.ite (.cmp (.cmp rfl (.idx (.idx v3_2 (.bin rfl v3_4 .int)) v3_5) (.idx (.idx v3_2 v3_4) (.bin rfl v3_5 .int)))) (.cons (.aug rfl (by decide +kernel) .int)
    .nil) (.cons (.aug rfl (by decide +kernel) .int)
    .nil))
    .nil))
    .nil))
    (.cons (.ret v3_3)
    .nil))))))
/-! lcs_of -/
noncomputable def N4 : List (Nat × Str) := [(0, Str.ofString "a"), (1, Str.ofString "b")]
noncomputable def q4 : List Str := [Str.ofString "a", Str.ofString "b"]
theorem sc4 : scOk (scp 4) = true := by decide +kernel
theorem nk4 : nOk (scp 4).names q4 N4 = true := by decide +kernel
theorem v4_0 {pos : Pos} : Tr (scp 4).names N4 (.Name (Str.ofString "a") pos) (.var 0) := .var rfl (by decide +kernel)
theorem v4_1 {pos : Pos} : Tr (scp 4).names N4 (.Name (Str.ofString "b") pos) (.var 1) := .var rfl (by decide +kernel)
theorem g4_matches_of : isGlob (scp 4).names (Str.ofString "matches_of") = true := by decide +kernel
theorem tr4 : TrSs false 99 (scp 4).names N4 (bod 4) p_lcs_of :=
  (.cons (.ret (.comp [(0, Str.ofString "a")] (by decide +kernel) (.call rfl g4_matches_of (.cons v4_0 (.cons v4_1 .nil))) (.idx (.var rfl (by decide +kernel)) (.idx (.var rfl (by decide +kernel)) .int))))
    .nil)
/-! is_subsequence -/
noncomputable def N5 : List (Nat × Str) := [(0, Str.ofString "s"), (1, Str.ofString "a"), (2, Str.ofString "found"), (3, Str.ofString "line")]
noncomputable def q5 : List Str := [Str.ofString "s", Str.ofString "a"]
theorem sc5 : scOk (scp 5) = true := by decide +kernel
theorem nk5 : nOk (scp 5).names q5 N5 = true := by decide +kernel
theorem v5_2 {pos : Pos} : Tr (scp 5).names N5 (.Name (Str.ofString "found") pos) (.var 2) := .var rfl (by decide +kernel)
theorem v5_0 {pos : Pos} : Tr (scp 5).names N5 (.Name (Str.ofString "s") pos) (.var 0) := .var rfl (by decide +kernel)
theorem v5_1 {pos : Pos} : Tr (scp 5).names N5 (.Name (Str.ofString "a") pos) (.var 1) := .var rfl (by decide +kernel)
theorem v5_3 {pos : Pos} : Tr (scp 5).names N5 (.Name (Str.ofString "line") pos) (.var 3) := .var rfl (by decide +kernel)
theorem g5_len : isGlob (scp 5).names (Str.ofString "len") = true := by decide +kernel
theorem tr5 : TrSs false 99 (scp 5).names N5 (bod 5) p_is_subsequence :=
  (.cons (.assign rfl (by decide +kernel) .int rfl)
    (.cons (.for_ rfl (by decide +kernel) v5_1 (.cons (.ite (.and (.cons (.cmp (.cmp rfl v5_2 (.len rfl g5_len v5_0))) (.cons (.cmp (.cmp rfl (.idx v5_0 v5_2) v5_3)) .nil))) (.cons (.aug rfl (by decide +kernel) .int)
    .nil) .nil)
    .nil))
    (.cons (.ret (.cmp rfl v5_2 (.len rfl g5_len v5_0)))
    .nil)))
/-! myers_distance -/
noncomputable def N6 : List (Nat × Str) := [(0, Str.ofString "a"), (1, Str.ofString "b"), (2, Str.ofString "most"), (3, Str.ofString "shift"), (4, Str.ofString "reach"), (5, Str.ofString "d"), (6, Str.ofString "k"), (7, Str.ofString "x")]
noncomputable def q6 : List Str := [Str.ofString "a", Str.ofString "b"]
theorem sc6 : scOk (scp 6) = true := by decide +kernel
theorem nk6 : nOk (scp 6).names q6 N6 = true := by decide +kernel
theorem v6_2 {pos : Pos} : Tr (scp 6).names N6 (.Name (Str.ofString "most") pos) (.var 2) := .var rfl (by decide +kernel)
theorem v6_5 {pos : Pos} : Tr (scp 6).names N6 (.Name (Str.ofString "d") pos) (.var 5) := .var rfl (by decide +kernel)
theorem v6_7 {pos : Pos} : Tr (scp 6).names N6 (.Name (Str.ofString "x") pos) (.var 7) := .var rfl (by decide +kernel)
theorem v6_0 {pos : Pos} : Tr (scp 6).names N6 (.Name (Str.ofString "a") pos) (.var 0) := .var rfl (by decide +kernel)
theorem v6_6 {pos : Pos} : Tr (scp 6).names N6 (.Name (Str.ofString "k") pos) (.var 6) := .var rfl (by decide +kernel)
theorem v6_1 {pos : Pos} : Tr (scp 6).names N6 (.Name (Str.ofString "b") pos) (.var 1) := .var rfl (by decide +kernel)
theorem v6_3 {pos : Pos} : Tr (scp 6).names N6 (.Name (Str.ofString "shift") pos) (.var 3) := .var rfl (by decide +kernel)
theorem v6_4 {pos : Pos} : Tr (scp 6).names N6 (.Name (Str.ofString "reach") pos) (.var 4) := .var rfl (by decide +kernel)
theorem g6_range : isGlob (scp 6).names (Str.ofString "range") = true := by decide +kernel
theorem g6_len : isGlob (scp 6).names (Str.ofString "len") = true := by decide +kernel
theorem tr6 : TrSs false 4 (scp 6).names N6 (bod 6) p_myers_distance :=
  (.cons (.assign rfl (by decide +kernel) (.bin rfl (.len rfl g6_len v6_0) (.len rfl g6_len v6_1)) rfl)
    (.cons (.assign rfl (by decide +kernel) (.bin rfl v6_2 .int) rfl)
    (.cons (.mkFill rfl (by decide +kernel) (.bin rfl (.bin rfl .int v6_2) .int))
    (.cons (.for_ rfl (by decide +kernel) (.range1 rfl g6_range (.bin rfl v6_2 .int)) (.cons (.for_ rfl (by decide +kernel) (.range3 rfl g6_range (.neg v6_5) (.bin rfl v6_5 .int) .int) (.cons (.ite (.or (.cons (.cmp (.cmp rfl v6_6 (.neg v6_5))) (.cons (.and (.cons (.cmp (.cmp rfl v6_6 v6_5)) (.cons (.cmp (.cmp rfl (.idx v6_4 (.bin rfl (.bin rfl v6_6 .int) v6_3)) (.idx v6_4 (.bin rfl (.bin rfl v6_6 .int) v6_3)))) .nil))) .nil))) (.cons (.assign rfl (by decide +kernel) (.idx v6_4 (.bin rfl (.bin rfl v6_6 .int) v6_3)) rfl)
    .nil) (.cons (.assign rfl (by decide +kernel) (.bin rfl (.idx v6_4 (.bin rfl (.bin rfl v6_6 .int) v6_3)) .int) rfl)
    .nil))
    (.cons (.while_ (.and (.cons (.cmp (.cmp rfl v6_7 (.len rfl g6_len v6_0))) (.cons (.cmp (.cmp rfl (.bin rfl v6_7 v6_6) (.len rfl g6_len v6_1))) (.cons (.cmp (.cmp rfl (.idx v6_0 v6_7) (.idx v6_1 (.bin rfl v6_7 v6_6)))) .nil)))) (.cons (.aug rfl (by decide +kernel) .int)
    .nil))
    (.cons (.set1 rfl rfl (by decide +kernel) v6_7 rfl (.bin rfl v6_6 v6_3))
    (.cons (.ite (.and (.cons (.cmp (.cmp rfl v6_7 (.len rfl g6_len v6_0))) (.cons (.cmp (.cmp rfl (.bin rfl v6_7 v6_6) (.len rfl g6_len v6_1))) .nil))) (.cons (.ret v6_5)
    .nil) .nil)
    .nil)))))
    .nil))
    (.cons (.ret v6_2)
    .nil)))))
/-! _law_text -/
noncomputable def N9 : List (Nat × Str) := [(0, Str.ofString "cells"), (1, Str.ofString "size"), (2, Str.ofString "text"), (3, Str.ofString "x")]
noncomputable def q9 : List Str := [Str.ofString "cells", Str.ofString "size"]
theorem sc9 : scOk (scp 9) = true := by decide +kernel
theorem nk9 : nOk (scp 9).names q9 N9 = true := by decide +kernel
theorem v9_2 {pos : Pos} : Tr (scp 9).names N9 (.Name (Str.ofString "text") pos) (.var 2) := .var rfl (by decide +kernel)
theorem v9_0 {pos : Pos} : Tr (scp 9).names N9 (.Name (Str.ofString "cells") pos) (.var 0) := .var rfl (by decide +kernel)
theorem v9_1 {pos : Pos} : Tr (scp 9).names N9 (.Name (Str.ofString "size") pos) (.var 1) := .var rfl (by decide +kernel)
theorem v9_3 {pos : Pos} : Tr (scp 9).names N9 (.Name (Str.ofString "x") pos) (.var 3) := .var rfl (by decide +kernel)
theorem g9_len : isGlob (scp 9).names (Str.ofString "len") = true := by decide +kernel
theorem g9_law_lines : isGlob (scp 9).names (Str.ofString "_law_lines") = true := by decide +kernel
theorem tr9 : TrSs true 2 (scp 9).names N9 (bod 9) p_law_text :=
  (.cons (.mkNil rfl (by decide +kernel))
    (.cons (.for_ rfl (by decide +kernel) v9_0 (.cons (.ite (.cmp (.cmp rfl (.len rfl g9_len v9_2) v9_1)) (.cons (.append rfl rfl (by decide +kernel) (.idx (.lines rfl g9_law_lines) (.bin rfl v9_3 .int)) (by decide +kernel))
    .nil) .nil)
    .nil))
    (.cons (.ret v9_2)
    .nil)))
/-! _law_matchings -/
noncomputable def N10 : List (Nat × Str) := [(0, Str.ofString "a"), (1, Str.ofString "b"), (2, Str.ofString "ways"), (3, Str.ofString "i"), (4, Str.ofString "j")]
noncomputable def q10 : List Str := [Str.ofString "a", Str.ofString "b"]
theorem sc10 : scOk (scp 10) = true := by decide +kernel
theorem nk10 : nOk (scp 10).names q10 N10 = true := by decide +kernel
theorem v10_2 {pos : Pos} : Tr (scp 10).names N10 (.Name (Str.ofString "ways") pos) (.var 2) := .var rfl (by decide +kernel)
theorem v10_0 {pos : Pos} : Tr (scp 10).names N10 (.Name (Str.ofString "a") pos) (.var 0) := .var rfl (by decide +kernel)
theorem v10_1 {pos : Pos} : Tr (scp 10).names N10 (.Name (Str.ofString "b") pos) (.var 1) := .var rfl (by decide +kernel)
theorem v10_3 {pos : Pos} : Tr (scp 10).names N10 (.Name (Str.ofString "i") pos) (.var 3) := .var rfl (by decide +kernel)
theorem v10_4 {pos : Pos} : Tr (scp 10).names N10 (.Name (Str.ofString "j") pos) (.var 4) := .var rfl (by decide +kernel)
theorem g10_range : isGlob (scp 10).names (Str.ofString "range") = true := by decide +kernel
theorem g10_len : isGlob (scp 10).names (Str.ofString "len") = true := by decide +kernel
theorem tr10 : TrSs false 99 (scp 10).names N10 (bod 10) p_law_matchings :=
  (.cons (.assign rfl (by decide +kernel) (.list (by decide +kernel) (.cons (.list (by decide +kernel) .nil) .nil)) rfl)
    (.cons (.for_ rfl (by decide +kernel) (.range1 rfl g10_range (.len rfl g10_len v10_0)) (.cons (.for_ rfl (by decide +kernel) (.range1 rfl g10_range (.len rfl g10_len v10_1)) (.cons (.ite (.cmp (.cmp rfl (.idx v10_0 v10_3) (.idx v10_1 v10_4))) (.cons (.assign rfl (by decide +kernel) (.bin rfl v10_2 (.compIf [(3, Str.ofString "i"), (4, Str.ofString "j")] (by decide +kernel) v10_2 (.bin rfl (.var rfl (by decide +kernel)) (.list (by decide +kernel) (.cons (.tup (by decide +kernel) (.cons (.var rfl (by decide +kernel)) (.cons (.var rfl (by decide +kernel)) .nil))) .nil))) (.or (.cons (.cmp (.cmp rfl (.var rfl (by decide +kernel)) (.list (by decide +kernel) .nil))) (.cons (.and (.cons (.cmp (.cmp rfl (.idx (.idx (.var rfl (by decide +kernel)) (.neg .int)) .int) (.var rfl (by decide +kernel)))) (.cons (.cmp (.cmp rfl (.idx (.idx (.var rfl (by decide +kernel)) (.neg .int)) .int) (.var rfl (by decide +kernel)))) .nil))) .nil))))) rfl)
    .nil) .nil)
    .nil))
    .nil))
    (.cons (.ret v10_2)
    .nil)))
/-! _law_path -/
noncomputable def N11 : List (Nat × Str) := [(0, Str.ofString "way"), (1, Str.ofString "n"), (2, Str.ofString "m"), (3, Str.ofString "path"), (4, Str.ofString "i"), (5, Str.ofString "j"), (6, Str.ofString "pair")]
noncomputable def q11 : List Str := [Str.ofString "way", Str.ofString "n", Str.ofString "m"]
theorem sc11 : scOk (scp 11) = true := by decide +kernel
theorem nk11 : nOk (scp 11).names q11 N11 = true := by decide +kernel
theorem v11_3 {pos : Pos} : Tr (scp 11).names N11 (.Name (Str.ofString "path") pos) (.var 3) := .var rfl (by decide +kernel)
theorem v11_0 {pos : Pos} : Tr (scp 11).names N11 (.Name (Str.ofString "way") pos) (.var 0) := .var rfl (by decide +kernel)
theorem v11_1 {pos : Pos} : Tr (scp 11).names N11 (.Name (Str.ofString "n") pos) (.var 1) := .var rfl (by decide +kernel)
theorem v11_2 {pos : Pos} : Tr (scp 11).names N11 (.Name (Str.ofString "m") pos) (.var 2) := .var rfl (by decide +kernel)
theorem v11_6 {pos : Pos} : Tr (scp 11).names N11 (.Name (Str.ofString "pair") pos) (.var 6) := .var rfl (by decide +kernel)
theorem v11_4 {pos : Pos} : Tr (scp 11).names N11 (.Name (Str.ofString "i") pos) (.var 4) := .var rfl (by decide +kernel)
theorem v11_5 {pos : Pos} : Tr (scp 11).names N11 (.Name (Str.ofString "j") pos) (.var 5) := .var rfl (by decide +kernel)
theorem tr11 : TrSs false 99 (scp 11).names N11 (bod 11) p_law_path :=
  (.cons (.assign rfl (by decide +kernel) (.str (by decide +kernel) (by decide +kernel) (by decide +kernel)) rfl)
    (.cons (.assign rfl (by decide +kernel) .int rfl)
    (.cons (.assign rfl (by decide +kernel) .int rfl)
    (.cons (.for_ rfl (by decide +kernel) (.bin rfl v11_0 (.list (by decide +kernel) (.cons (.tup (by decide +kernel) (.cons v11_1 (.cons v11_2 .nil))) .nil))) (.cons (.assign rfl (by decide +kernel) (.bin rfl (.bin rfl (.bin rfl v11_3 (.bin rfl (.str (by decide +kernel) (by decide +kernel) (by decide +kernel)) (.bin rfl (.idx v11_6 .int) v11_4))) (.bin rfl (.str (by decide +kernel) (by decide +kernel) (by decide +kernel)) (.bin rfl (.idx v11_6 .int) v11_5))) (.str (by decide +kernel) (by decide +kernel) (by decide +kernel))) rfl)
    (.cons (.assign rfl (by decide +kernel) (.bin rfl (.idx v11_6 .int) .int) rfl)
    (.cons (.assign rfl (by decide +kernel) (.bin rfl (.idx v11_6 .int) .int) rfl)
    .nil))))
    (.cons (.ret v11_3)
    .nil)))))
/-! _law_best -/
noncomputable def N12 : List (Nat × Str) := [(0, Str.ofString "a"), (1, Str.ofString "b"), (2, Str.ofString "best"), (3, Str.ofString "path"), (4, Str.ofString "way"), (5, Str.ofString "here")]
noncomputable def q12 : List Str := [Str.ofString "a", Str.ofString "b"]
theorem sc12 : scOk (scp 12) = true := by decide +kernel
theorem nk12 : nOk (scp 12).names q12 N12 = true := by decide +kernel
theorem v12_2 {pos : Pos} : Tr (scp 12).names N12 (.Name (Str.ofString "best") pos) (.var 2) := .var rfl (by decide +kernel)
theorem v12_0 {pos : Pos} : Tr (scp 12).names N12 (.Name (Str.ofString "a") pos) (.var 0) := .var rfl (by decide +kernel)
theorem v12_1 {pos : Pos} : Tr (scp 12).names N12 (.Name (Str.ofString "b") pos) (.var 1) := .var rfl (by decide +kernel)
theorem v12_5 {pos : Pos} : Tr (scp 12).names N12 (.Name (Str.ofString "here") pos) (.var 5) := .var rfl (by decide +kernel)
theorem v12_3 {pos : Pos} : Tr (scp 12).names N12 (.Name (Str.ofString "path") pos) (.var 3) := .var rfl (by decide +kernel)
theorem v12_4 {pos : Pos} : Tr (scp 12).names N12 (.Name (Str.ofString "way") pos) (.var 4) := .var rfl (by decide +kernel)
theorem g12_law_matchings : isGlob (scp 12).names (Str.ofString "_law_matchings") = true := by decide +kernel
theorem g12_len : isGlob (scp 12).names (Str.ofString "len") = true := by decide +kernel
theorem g12_law_path : isGlob (scp 12).names (Str.ofString "_law_path") = true := by decide +kernel
theorem tr12 : TrSs false 99 (scp 12).names N12 (bod 12) p_law_best :=
  (.cons (.assign rfl (by decide +kernel) (.list (by decide +kernel) .nil) rfl)
    (.cons (.assign rfl (by decide +kernel) (.call rfl g12_law_path (.cons (.list (by decide +kernel) .nil) (.cons (.len rfl g12_len v12_0) (.cons (.len rfl g12_len v12_1) .nil)))) rfl)
    (.cons (.for_ rfl (by decide +kernel) (.call rfl g12_law_matchings (.cons v12_0 (.cons v12_1 .nil))) (.cons (.assign rfl (by decide +kernel) (.call rfl g12_law_path (.cons v12_4 (.cons (.len rfl g12_len v12_0) (.cons (.len rfl g12_len v12_1) .nil)))) rfl)
    (.cons (.ite (.cmp (.cmp rfl (.tup (by decide +kernel) (.cons (.len rfl g12_len v12_5) (.cons v12_5 .nil))) (.tup (by decide +kernel) (.cons (.len rfl g12_len v12_3) (.cons v12_3 .nil))))) (.cons (.assign rfl (by decide +kernel) v12_4 rfl)
    (.cons (.assign rfl (by decide +kernel) v12_5 rfl)
    .nil)) .nil)
    .nil)))
    (.cons (.ret v12_2)
    .nil))))
/-! _law_words -/
noncomputable def N13 : List (Nat × Str) := [(0, Str.ofString "a"), (1, Str.ofString "words"), (2, Str.ofString "line")]
noncomputable def q13 : List Str := [Str.ofString "a"]
theorem sc13 : scOk (scp 13) = true := by decide +kernel
theorem nk13 : nOk (scp 13).names q13 N13 = true := by decide +kernel
theorem v13_1 {pos : Pos} : Tr (scp 13).names N13 (.Name (Str.ofString "words") pos) (.var 1) := .var rfl (by decide +kernel)
theorem v13_0 {pos : Pos} : Tr (scp 13).names N13 (.Name (Str.ofString "a") pos) (.var 0) := .var rfl (by decide +kernel)
theorem tr13 : TrSs false 99 (scp 13).names N13 (bod 13) p_law_words :=
  (.cons (.assign rfl (by decide +kernel) (.list (by decide +kernel) (.cons (.list (by decide +kernel) .nil) .nil)) rfl)
    (.cons (.for_ rfl (by decide +kernel) v13_0 (.cons (.assign rfl (by decide +kernel) (.bin rfl v13_1 (.comp [(2, Str.ofString "line")] (by decide +kernel) v13_1 (.bin rfl (.var rfl (by decide +kernel)) (.list (by decide +kernel) (.cons (.var rfl (by decide +kernel)) .nil))))) rfl)
    .nil))
    (.cons (.ret v13_1)
    .nil)))
/-! _law_number -/
noncomputable def N14 : List (Nat × Str) := [(0, Str.ofString "got"), (1, Str.ofString "want")]
noncomputable def q14 : List Str := [Str.ofString "got", Str.ofString "want"]
theorem sc14 : scOk (scp 14) = true := by decide +kernel
theorem nk14 : nOk (scp 14).names q14 N14 = true := by decide +kernel
theorem v14_0 {pos : Pos} : Tr (scp 14).names N14 (.Name (Str.ofString "got") pos) (.var 0) := .var rfl (by decide +kernel)
theorem v14_1 {pos : Pos} : Tr (scp 14).names N14 (.Name (Str.ofString "want") pos) (.var 1) := .var rfl (by decide +kernel)
theorem g14_type : isGlob (scp 14).names (Str.ofString "type") = true := by decide +kernel
theorem g14_int : isGlob (scp 14).names (Str.ofString "int") = true := by decide +kernel
theorem tr14 : TrSs false 99 (scp 14).names N14 (bod 14) p_law_number :=
  (.cons (.ite (.not (.cmp (.cmp rfl (.type rfl g14_type v14_0) (.ty rfl (by decide +kernel) g14_int)))) (.cons (.ret .bool)
    .nil) .nil)
    (.cons (.ite (.cmp (.cmp rfl v14_0 v14_1)) (.cons (.ret .bool)
    .nil) .nil)
    (.cons (.ret .bool)
    .nil)))
/-! law -/
noncomputable def N15 : List (Nat × Str) := [(0, Str.ofString "script"), (1, Str.ofString "n"), (2, Str.ofString "m"), (3, Str.ofString "size"), (4, Str.ofString "a_cells"), (5, Str.ofString "b_cells"), (6, Str.ofString "part_cells"), (7, Str.ofString "a"), (8, Str.ofString "b"), (9, Str.ofString "part"), (10, Str.ofString "a_again"), (11, Str.ofString "b_again"), (12, Str.ofString "part_again"), (13, Str.ofString "best"), (14, Str.ofString "want"), (15, Str.ofString "pairs"), (16, Str.ofString "pair"), (17, Str.ofString "place"), (18, Str.ofString "common"), (19, Str.ofString "table"), (20, Str.ofString "row"), (21, Str.ofString "p"), (22, Str.ofString "q"), (23, Str.ofString "due"), (24, Str.ofString "told")]
noncomputable def q15 : List Str := [Str.ofString "script"]
theorem sc15 : scOk (scp 15) = true := by decide +kernel
theorem nk15 : nOk (scp 15).names q15 N15 = true := by decide +kernel
theorem v15_9 {pos : Pos} : Tr (scp 15).names N15 (.Name (Str.ofString "part") pos) (.var 9) := .var rfl (by decide +kernel)
theorem v15_12 {pos : Pos} : Tr (scp 15).names N15 (.Name (Str.ofString "part_again") pos) (.var 12) := .var rfl (by decide +kernel)
theorem v15_8 {pos : Pos} : Tr (scp 15).names N15 (.Name (Str.ofString "b") pos) (.var 8) := .var rfl (by decide +kernel)
theorem v15_11 {pos : Pos} : Tr (scp 15).names N15 (.Name (Str.ofString "b_again") pos) (.var 11) := .var rfl (by decide +kernel)
theorem v15_7 {pos : Pos} : Tr (scp 15).names N15 (.Name (Str.ofString "a") pos) (.var 7) := .var rfl (by decide +kernel)
theorem v15_10 {pos : Pos} : Tr (scp 15).names N15 (.Name (Str.ofString "a_again") pos) (.var 10) := .var rfl (by decide +kernel)
theorem v15_24 {pos : Pos} : Tr (scp 15).names N15 (.Name (Str.ofString "told") pos) (.var 24) := .var rfl (by decide +kernel)
theorem v15_23 {pos : Pos} : Tr (scp 15).names N15 (.Name (Str.ofString "due") pos) (.var 23) := .var rfl (by decide +kernel)
theorem v15_19 {pos : Pos} : Tr (scp 15).names N15 (.Name (Str.ofString "table") pos) (.var 19) := .var rfl (by decide +kernel)
theorem v15_21 {pos : Pos} : Tr (scp 15).names N15 (.Name (Str.ofString "p") pos) (.var 21) := .var rfl (by decide +kernel)
theorem v15_22 {pos : Pos} : Tr (scp 15).names N15 (.Name (Str.ofString "q") pos) (.var 22) := .var rfl (by decide +kernel)
theorem v15_0 {pos : Pos} : Tr (scp 15).names N15 (.Name (Str.ofString "script") pos) (.var 0) := .var rfl (by decide +kernel)
theorem v15_2 {pos : Pos} : Tr (scp 15).names N15 (.Name (Str.ofString "m") pos) (.var 2) := .var rfl (by decide +kernel)
theorem v15_1 {pos : Pos} : Tr (scp 15).names N15 (.Name (Str.ofString "n") pos) (.var 1) := .var rfl (by decide +kernel)
theorem v15_20 {pos : Pos} : Tr (scp 15).names N15 (.Name (Str.ofString "row") pos) (.var 20) := .var rfl (by decide +kernel)
theorem v15_18 {pos : Pos} : Tr (scp 15).names N15 (.Name (Str.ofString "common") pos) (.var 18) := .var rfl (by decide +kernel)
theorem v15_13 {pos : Pos} : Tr (scp 15).names N15 (.Name (Str.ofString "best") pos) (.var 13) := .var rfl (by decide +kernel)
theorem v15_15 {pos : Pos} : Tr (scp 15).names N15 (.Name (Str.ofString "pairs") pos) (.var 15) := .var rfl (by decide +kernel)
theorem v15_16 {pos : Pos} : Tr (scp 15).names N15 (.Name (Str.ofString "pair") pos) (.var 16) := .var rfl (by decide +kernel)
theorem v15_17 {pos : Pos} : Tr (scp 15).names N15 (.Name (Str.ofString "place") pos) (.var 17) := .var rfl (by decide +kernel)
theorem v15_14 {pos : Pos} : Tr (scp 15).names N15 (.Name (Str.ofString "want") pos) (.var 14) := .var rfl (by decide +kernel)
theorem v15_6 {pos : Pos} : Tr (scp 15).names N15 (.Name (Str.ofString "part_cells") pos) (.var 6) := .var rfl (by decide +kernel)
theorem v15_3 {pos : Pos} : Tr (scp 15).names N15 (.Name (Str.ofString "size") pos) (.var 3) := .var rfl (by decide +kernel)
theorem v15_5 {pos : Pos} : Tr (scp 15).names N15 (.Name (Str.ofString "b_cells") pos) (.var 5) := .var rfl (by decide +kernel)
theorem v15_4 {pos : Pos} : Tr (scp 15).names N15 (.Name (Str.ofString "a_cells") pos) (.var 4) := .var rfl (by decide +kernel)
theorem g15_type : isGlob (scp 15).names (Str.ofString "type") = true := by decide +kernel
theorem g15_bool : isGlob (scp 15).names (Str.ofString "bool") = true := by decide +kernel
theorem g15_is_subsequence : isGlob (scp 15).names (Str.ofString "is_subsequence") = true := by decide +kernel
theorem g15_law_words : isGlob (scp 15).names (Str.ofString "_law_words") = true := by decide +kernel
theorem g15_law_number : isGlob (scp 15).names (Str.ofString "_law_number") = true := by decide +kernel
theorem g15_len : isGlob (scp 15).names (Str.ofString "len") = true := by decide +kernel
theorem g15_law_best : isGlob (scp 15).names (Str.ofString "_law_best") = true := by decide +kernel
theorem g15_lcs_table : isGlob (scp 15).names (Str.ofString "lcs_table") = true := by decide +kernel
theorem g15_list : isGlob (scp 15).names (Str.ofString "list") = true := by decide +kernel
theorem g15_lcs_of : isGlob (scp 15).names (Str.ofString "lcs_of") = true := by decide +kernel
theorem g15_int : isGlob (scp 15).names (Str.ofString "int") = true := by decide +kernel
theorem g15_tuple : isGlob (scp 15).names (Str.ofString "tuple") = true := by decide +kernel
theorem g15_matches_of : isGlob (scp 15).names (Str.ofString "matches_of") = true := by decide +kernel
theorem g15_lcs_length : isGlob (scp 15).names (Str.ofString "lcs_length") = true := by decide +kernel
theorem g15_myers_distance : isGlob (scp 15).names (Str.ofString "myers_distance") = true := by decide +kernel
theorem g15_law_text : isGlob (scp 15).names (Str.ofString "_law_text") = true := by decide +kernel
theorem tr15 : TrSs false 99 (scp 15).names N15 (bod 15) p_law :=
  (.cons (.ite (.cmp (.cmp rfl (.len rfl g15_len v15_0) .int)) (.cons (.ret .bool)
    .nil) .nil)
    (.cons (.assign rfl (by decide +kernel) (.bin rfl (.idx v15_0 .int) .int) rfl)
    (.cons (.assign rfl (by decide +kernel) (.bin rfl (.idx v15_0 .int) .int) rfl)
    (.cons (.assign rfl (by decide +kernel) (.bin rfl (.idx v15_0 .int) .int) rfl)
    (.cons (.assign rfl (by decide +kernel) (.list (by decide +kernel) (.cons (.idx v15_0 .int) (.cons (.idx v15_0 .int) (.cons (.idx v15_0 .int) (.cons (.idx v15_0 .int) (.cons (.idx v15_0 .int) .nil)))))) rfl)
    (.cons (.assign rfl (by decide +kernel) (.list (by decide +kernel) (.cons (.idx v15_0 .int) (.cons (.idx v15_0 .int) (.cons (.idx v15_0 .int) (.cons (.idx v15_0 .int) (.cons (.idx v15_0 .int) .nil)))))) rfl)
    (.cons (.assign rfl (by decide +kernel) (.list (by decide +kernel) (.cons (.idx v15_0 .int) (.cons (.idx v15_0 .int) (.cons (.idx v15_0 .int) .nil)))) rfl)
    (.cons (.assign rfl (by decide +kernel) (.call rfl g15_law_text (.cons v15_4 (.cons v15_1 .nil))) rfl)
    (.cons (.assign rfl (by decide +kernel) (.call rfl g15_law_text (.cons v15_5 (.cons v15_2 .nil))) rfl)
    (.cons (.assign rfl (by decide +kernel) (.call rfl g15_law_text (.cons v15_6 (.cons v15_3 .nil))) rfl)
    (.cons (.assign rfl (by decide +kernel) (.call rfl g15_law_text (.cons v15_4 (.cons v15_1 .nil))) rfl)
    (.cons (.assign rfl (by decide +kernel) (.call rfl g15_law_text (.cons v15_5 (.cons v15_2 .nil))) rfl)
    (.cons (.assign rfl (by decide +kernel) (.call rfl g15_law_text (.cons v15_6 (.cons v15_3 .nil))) rfl)
    (.cons (.assign rfl (by decide +kernel) (.call rfl g15_law_best (.cons v15_10 (.cons v15_11 .nil))) rfl)
    (.cons (.assign rfl (by decide +kernel) (.bin rfl (.bin rfl v15_1 v15_2) (.bin rfl .int (.len rfl g15_len v15_13))) rfl)
    (.cons (.ite (.not (.call (.call rfl g15_law_number (.cons (.call rfl g15_myers_distance (.cons v15_7 (.cons v15_8 .nil))) (.cons v15_14 .nil))))) (.cons (.ret .bool)
    .nil) .nil)
    (.cons (.ite (.not (.call (.call rfl g15_law_number (.cons (.call rfl g15_myers_distance (.cons v15_8 (.cons v15_7 .nil))) (.cons v15_14 .nil))))) (.cons (.ret .bool)
    .nil) .nil)
    (.cons (.ite (.not (.call (.call rfl g15_law_number (.cons (.call rfl g15_lcs_length (.cons v15_7 (.cons v15_8 .nil))) (.cons (.len rfl g15_len v15_13) .nil))))) (.cons (.ret .bool)
    .nil) .nil)
    (.cons (.assign rfl (by decide +kernel) (.call rfl g15_matches_of (.cons v15_7 (.cons v15_8 .nil))) rfl)
    (.cons (.ite (.not (.cmp (.cmp rfl (.type rfl g15_type v15_15) (.ty rfl (by decide +kernel) g15_list)))) (.cons (.ret .bool)
    .nil) .nil)
    (.cons (.ite (.cmp (.cmp rfl v15_15 v15_13)) (.cons (.ret .bool)
    .nil) .nil)
    (.cons (.for_ rfl (by decide +kernel) v15_15 (.cons (.ite (.not (.cmp (.cmp rfl (.type rfl g15_type v15_16) (.ty rfl (by decide +kernel) g15_tuple)))) (.cons (.ret .bool)
    .nil) .nil)
    (.cons (.for_ rfl (by decide +kernel) v15_16 (.cons (.ite (.not (.cmp (.cmp rfl (.type rfl g15_type v15_17) (.ty rfl (by decide +kernel) g15_int)))) (.cons (.ret .bool)
    .nil) .nil)
    .nil))
    .nil)))
    (.cons (.assign rfl (by decide +kernel) (.call rfl g15_lcs_of (.cons v15_7 (.cons v15_8 .nil))) rfl)
    (.cons (.ite (.not (.cmp (.cmp rfl (.type rfl g15_type v15_18) (.ty rfl (by decide +kernel) g15_list)))) (.cons (.ret .bool)
    .nil) .nil)
    (.cons (.ite (.cmp (.cmp rfl v15_18 (.comp [(10, Str.ofString "a_again")] (by decide +kernel) v15_13 (.idx (.var rfl (by decide +kernel)) (.idx (.var rfl (by decide +kernel)) .int))))) (.cons (.ret .bool)
    .nil) .nil)
    (.cons (.assign rfl (by decide +kernel) (.call rfl g15_lcs_table (.cons v15_7 (.cons v15_8 .nil))) rfl)
    (.cons (.ite (.cmp (.cmp rfl (.len rfl g15_len v15_19) (.bin rfl v15_1 .int))) (.cons (.ret .bool)
    .nil) .nil)
    (.cons (.for_ rfl (by decide +kernel) v15_19 (.cons (.ite (.cmp (.cmp rfl (.len rfl g15_len v15_20) (.bin rfl v15_2 .int))) (.cons (.ret .bool)
    .nil) .nil)
    .nil))
    (.cons (.assign rfl (by decide +kernel) (.bin rfl (.idx v15_0 .int) (.bin rfl v15_1 .int)) rfl)
    (.cons (.assign rfl (by decide +kernel) (.bin rfl (.idx v15_0 .int) (.bin rfl v15_2 .int)) rfl)
    (.cons (.ite (.not (.call (.call rfl g15_law_number (.cons (.idx (.idx v15_19 v15_21) v15_22) (.cons (.len rfl g15_len (.call rfl g15_law_best (.cons (.tail v15_10 v15_21) (.cons (.tail v15_11 v15_22) .nil)))) .nil))))) (.cons (.ret .bool)
    .nil) .nil)
    (.cons (.assign rfl (by decide +kernel) (.cmp rfl v15_12 (.call rfl g15_law_words (.cons v15_10 .nil))) rfl)
    (.cons (.assign rfl (by decide +kernel) (.call rfl g15_is_subsequence (.cons v15_9 (.cons v15_7 .nil))) rfl)
    (.cons (.ite (.not (.cmp (.cmp rfl (.type rfl g15_type v15_24) (.ty rfl (by decide +kernel) g15_bool)))) (.cons (.ret .bool)
    .nil) .nil)
    (.cons (.ite (.cmp (.cmp rfl v15_24 v15_23)) (.cons (.ret .bool)
    .nil) .nil)
    (.cons (.ite (.cmp (.cmp rfl v15_7 v15_10)) (.cons (.ret .bool)
    .nil) .nil)
    (.cons (.ite (.cmp (.cmp rfl v15_8 v15_11)) (.cons (.ret .bool)
    .nil) .nil)
    (.cons (.ite (.cmp (.cmp rfl v15_9 v15_12)) (.cons (.ret .bool)
    .nil) .nil)
    (.cons (.ret .bool)
    .nil)))))))))))))))))))))))))))))))))))))))
end Mine
set_option maxRecDepth 100000
namespace Mine
open PySem

noncomputable def AtA (h₀ : Heap) (a : Addr) (k : Nat) (q : List Str) : Prop := ∃ o fd, h₀.get? a = some o ∧ o.data = .func fd ∧ FdOk h₀ fd (scp k) (bod k) q
noncomputable def At (h₀ : Heap) (f : String) (k : Nat) (q : List Str) : Prop := ∃ a, GB h₀ (Str.ofString f) (.ref a) ∧ AtA h₀ a k q
structure Laid (h₀ : Heap) : Prop where
  base : Base h₀
  f1 : At h₀ "lcs_table" 1 q1
  f2 : At h₀ "lcs_length" 2 q2
  f3 : At h₀ "matches_of" 3 q3
  f4 : At h₀ "lcs_of" 4 q4
  f5 : At h₀ "is_subsequence" 5 q5
  f6 : At h₀ "myers_distance" 6 q6
  f9 : At h₀ "_law_text" 9 q9
  f10 : At h₀ "_law_matchings" 10 q10
  f11 : At h₀ "_law_path" 11 q11
  f12 : At h₀ "_law_best" 12 q12
  f13 : At h₀ "_law_words" 13 q13
  f14 : At h₀ "_law_number" 14 q14

section
variable {prog : Program} {w : World} {h₀ : Heap} {n : Nat} {pl : Bool} {N : List (Nat × Str)} {mu : Nat} {Φ : Phi}

theorem At.fn (hb : Base h₀) (hΦ : Sound prog w h₀ n Φ) {f : String} {i : Nat} {q : List Str} (h : At h₀ f i q) {ds : List D} {d : D} {p : List S} (k : Nat) (hsc : scOk (scp i) = true) (hN : nOk (scp i).names q N = true) (tr : TrSs pl mu (scp i).names N (bod i) p) (hl : ds.length = q.length)
    (hmu : (rho0 ds k).get mu = none) (hrun : Run Φ mu (.seq p) (rho0 ds k) (.ret d)) : Fn prog w h₀ (n + 1) f ds d := by
  obtain ⟨a, hg, o, fd, ho, hd, ok⟩ := h
  exact fn_of hb hΦ k hg ho hd ok hsc hN hl tr hmu hrun
theorem Fn.up {f : String} {ds : List D} {d : D} (h : Fn prog w h₀ n f ds d) : Fn prog w h₀ (n + 1) f ds d := by
  obtain ⟨a, o, fd, h1, h2, h3, h4⟩ := h
  refine ⟨a, o, fd, h1, h2, h3, fun A X s vs ao => h4 A X s vs ⟨ao.hd, ?_, ?_⟩⟩
  · have := ao.dp; lia
  · have := ao.un; lia
theorem sound0 : Sound prog w h₀ n F0 := fun f ds d h => by cases h

theorem sound1 (L : Laid h₀) : Sound prog w h₀ 1 F1 := fun f ds d h => by
  unfold F1 at h
  split at h
  · rename_i e; subst e
    obtain ⟨a, b, rfl, ha, hb, rfl⟩ := text2_inv h
    exact L.f1.fn L.base sound0 4 sc1 nk1 tr1 rfl rfl (run_table a b (by lia) (by lia))
  split at h
  · rename_i e; subst e
    obtain ⟨a, b, rfl, ha, hb, rfl⟩ := text2_inv h
    exact L.f5.fn L.base sound0 2 sc5 nk5 tr5 rfl rfl (run_sub a b)
  split at h
  · rename_i e; subst e
    obtain ⟨a, b, rfl, ha, hb, rfl⟩ := text2_inv h
    exact L.f6.fn L.base sound0 6 sc6 nk6 tr6 rfl rfl (run_myers a b ha hb)
  split at h
  · rename_i e; subst e
    unfold fText at h
    split at h
    · split at h
      · rename_i h1 h2
        split at h
        · rename_i h3
          cases h
          rw [dI_inv h1, dNat_inv _ _ h2]
          exact L.f9.fn L.base sound0 2 sc9 nk9 tr9 rfl rfl (run_text _ _ (by lia))
        · cases h
      · cases h
    · cases h
  split at h
  · rename_i e; subst e
    obtain ⟨a, b, rfl, ha, hb, rfl⟩ := text2_inv h
    exact L.f10.fn L.base sound0 4 sc10 nk10 tr10 rfl rfl (run_matchings a b ha hb)
  split at h
  · rename_i e; subst e
    unfold fPath at h
    split at h
    · split at h
      · rename_i h1 h2 h3
        split at h
        · rename_i h4
          cases h
          rw [dW_inv h1, dNat_inv _ _ h2, dNat_inv _ _ h3]
          exact L.f11.fn L.base sound0 4 sc11 nk11 tr11 rfl rfl (run_path _ _ _ h4.1 h4.2.1 h4.2.2)
        · cases h
      · cases h
    · cases h
  split at h
  · rename_i e; subst e
    unfold fWords at h
    split at h
    · split at h
      · rename_i h1
        split at h
        · rename_i h2
          cases h
          rw [dS_inv h1]
          exact L.f13.fn L.base sound0 3 sc13 nk13 tr13 rfl rfl (run_words _ h2)
        · cases h
      · cases h
    · cases h
  split at h
  · rename_i e; subst e
    unfold fNumber at h
    split at h
    · cases h
      exact L.f14.fn L.base sound0 0 sc14 nk14 tr14 rfl rfl (run_number _ _)
    · cases h
  · cases h

theorem sound2 (L : Laid h₀) : Sound prog w h₀ 2 F2 := fun f ds d h => by
  unfold F2 at h
  split at h
  · rename_i e; subst e
    obtain ⟨a, b, rfl, ha, hb, rfl⟩ := text2_inv h
    exact L.f2.fn L.base (sound1 L) 0 sc2 nk2 tr2 rfl rfl (run_length a b ha hb)
  split at h
  · rename_i e; subst e
    obtain ⟨a, b, rfl, ha, hb, rfl⟩ := text2_inv h
    exact L.f3.fn L.base (sound1 L) 4 sc3 nk3 tr3 rfl rfl (run_matches a b ha hb)
  split at h
  · rename_i e; subst e
    obtain ⟨a, b, rfl, ha, hb, rfl⟩ := text2_inv h
    exact L.f12.fn L.base (sound1 L) 4 sc12 nk12 tr12 rfl rfl (run_best a b ha hb)
  · exact (sound1 L f ds d h).up

theorem sound3 (L : Laid h₀) : Sound prog w h₀ 3 F3 := fun f ds d h => by
  unfold F3 at h
  split at h
  · rename_i e; subst e
    obtain ⟨a, b, rfl, ha, hb, rfl⟩ := text2_inv h
    exact L.f4.fn L.base (sound2 L) 1 sc4 nk4 tr4 rfl rfl (run_lcs_of a b ha hb)
  · exact (sound2 L f ds d h).up

theorem law_call (L : Laid h₀) {a : Addr} (h : AtA h₀ a 15 q15) {A : Around} {X : Addr → Prop} {s : Shared} {v : Value} {l : List Int} (hl : l.length ≤ 1000) (ao : AOk 4 A) (ctx : Ctx h₀ X s.heap) (xb : XB X s.heap) (rs : R X s.heap v (eI l)) :
    wpAny (model prog w) A (call (.ref a) [v]) (Ev X s (.bool true)) NoE s := by
  obtain ⟨o, fd, ho, hd, ok⟩ := h
  refine fn_at L.base (sound3 L) 25 ho hd ok sc15 nk15 (ds := [eI l]) rfl tr15 rfl (run_law l hl) A X s [v] ao ctx xb ?_
  rw [Rs]
  exact ⟨v, [], rfl, rs, by rw [Rs]⟩
end
end Mine
set_option maxRecDepth 100000
namespace Mine
open PySem PySem.W PyProof.Rows

noncomputable def psn (i : Nat) : Pos := match PySem.Challenge.pw_sx_yweave_2.main.body[i]? with
  | some (.FunctionDef _ _ _ _ _ _ _ _ _ p) => p
  | _ => default
noncomputable def rec_ (f : String) (k : Nat) : DefRec := ⟨Str.ofString f, prm k, bod k, scp k, psn k⟩

section
variable {p : Program} {loose : List Str} {mean : ExcName → Option Value} {mg mb : Str → Option Value} {h : Heap}
theorem at_top (T : Top p loose mean mg mb h) {f : String} {k i : Nat} {q : List Str} (hb : ∀ fd : FuncData, fd.params = prm k → fd.defaults = .none → ∀ vals : List Value, vals.length = q.length → bindArgs fd ⟨vals, []⟩ = pure (q.zip vals))
    (e : (recsOf p)[i]? = some (rec_ f k)) : ∃ a, mg (Str.ofString f) = some (.ref a) ∧ AtA h a k q := by
  obtain ⟨a, o, pm, code, doc, h1, h2, h3, h4⟩ := T.fn _ (List.mem_of_getElem? e)
  exact ⟨a, h1, o, _, h2, h3, h4, rfl, rfl, hb _ rfl rfl, rfl, rfl, rfl⟩
theorem fn_top (T : Top p loose mean mg mb h) {f : String} {k i : Nat} {q : List Str} (hb : ∀ fd : FuncData, fd.params = prm k → fd.defaults = .none → ∀ vals : List Value, vals.length = q.length → bindArgs fd ⟨vals, []⟩ = pure (q.zip vals))
    (e : (recsOf p)[i]? = some (rec_ f k)) : At h f k q :=
  let ⟨a, h1, h2⟩ := at_top T hb e
  ⟨a, .inl ⟨mg, T.g, h1⟩, h2⟩
end
theorem len1 {vs : List Value} (h : vs.length = 1) : ∃ a, vs = [a] := List.length_eq_one_iff.mp h
theorem len2 {vs : List Value} (h : vs.length = 2) : ∃ a b, vs = [a, b] := by
  cases vs with
  | nil => cases h
  | cons a vs =>
    obtain ⟨b, rfl⟩ := len1 (Nat.succ.inj h)
    exact ⟨a, b, rfl⟩
theorem len3 {vs : List Value} (h : vs.length = 3) : ∃ a b c, vs = [a, b, c] := by
  cases vs with
  | nil => cases h
  | cons a vs =>
    obtain ⟨b, c, rfl⟩ := len2 (Nat.succ.inj h)
    exact ⟨a, b, c, rfl⟩
theorem bd1 (fd : FuncData) (hp : fd.params = prm 1) (hd : fd.defaults = .none) (vals : List Value) (hl : vals.length = q1.length) : bindArgs fd ⟨vals, []⟩ = pure (q1.zip vals) := by
  obtain ⟨v1, v2, rfl⟩ := len2 hl
  unfold bindArgs
  rw [hp, hd]
  rfl
theorem bd2 (fd : FuncData) (hp : fd.params = prm 2) (hd : fd.defaults = .none) (vals : List Value) (hl : vals.length = q2.length) : bindArgs fd ⟨vals, []⟩ = pure (q2.zip vals) := by
  obtain ⟨v1, v2, rfl⟩ := len2 hl
  unfold bindArgs
  rw [hp, hd]
  rfl
theorem bd3 (fd : FuncData) (hp : fd.params = prm 3) (hd : fd.defaults = .none) (vals : List Value) (hl : vals.length = q3.length) : bindArgs fd ⟨vals, []⟩ = pure (q3.zip vals) := by
  obtain ⟨v1, v2, rfl⟩ := len2 hl
  unfold bindArgs
  rw [hp, hd]
  rfl
theorem bd4 (fd : FuncData) (hp : fd.params = prm 4) (hd : fd.defaults = .none) (vals : List Value) (hl : vals.length = q4.length) : bindArgs fd ⟨vals, []⟩ = pure (q4.zip vals) := by
  obtain ⟨v1, v2, rfl⟩ := len2 hl
  unfold bindArgs
  rw [hp, hd]
  rfl
theorem bd5 (fd : FuncData) (hp : fd.params = prm 5) (hd : fd.defaults = .none) (vals : List Value) (hl : vals.length = q5.length) : bindArgs fd ⟨vals, []⟩ = pure (q5.zip vals) := by
  obtain ⟨v1, v2, rfl⟩ := len2 hl
  unfold bindArgs
  rw [hp, hd]
  rfl
theorem bd6 (fd : FuncData) (hp : fd.params = prm 6) (hd : fd.defaults = .none) (vals : List Value) (hl : vals.length = q6.length) : bindArgs fd ⟨vals, []⟩ = pure (q6.zip vals) := by
  obtain ⟨v1, v2, rfl⟩ := len2 hl
  unfold bindArgs
  rw [hp, hd]
  rfl
theorem bd9 (fd : FuncData) (hp : fd.params = prm 9) (hd : fd.defaults = .none) (vals : List Value) (hl : vals.length = q9.length) : bindArgs fd ⟨vals, []⟩ = pure (q9.zip vals) := by
  obtain ⟨v1, v2, rfl⟩ := len2 hl
  unfold bindArgs
  rw [hp, hd]
  rfl
theorem bd10 (fd : FuncData) (hp : fd.params = prm 10) (hd : fd.defaults = .none) (vals : List Value) (hl : vals.length = q10.length) : bindArgs fd ⟨vals, []⟩ = pure (q10.zip vals) := by
  obtain ⟨v1, v2, rfl⟩ := len2 hl
  unfold bindArgs
  rw [hp, hd]
  rfl
theorem bd11 (fd : FuncData) (hp : fd.params = prm 11) (hd : fd.defaults = .none) (vals : List Value) (hl : vals.length = q11.length) : bindArgs fd ⟨vals, []⟩ = pure (q11.zip vals) := by
  obtain ⟨v1, v2, v3, rfl⟩ := len3 hl
  unfold bindArgs
  rw [hp, hd]
  rfl
theorem bd12 (fd : FuncData) (hp : fd.params = prm 12) (hd : fd.defaults = .none) (vals : List Value) (hl : vals.length = q12.length) : bindArgs fd ⟨vals, []⟩ = pure (q12.zip vals) := by
  obtain ⟨v1, v2, rfl⟩ := len2 hl
  unfold bindArgs
  rw [hp, hd]
  rfl
theorem bd13 (fd : FuncData) (hp : fd.params = prm 13) (hd : fd.defaults = .none) (vals : List Value) (hl : vals.length = q13.length) : bindArgs fd ⟨vals, []⟩ = pure (q13.zip vals) := by
  obtain ⟨v1, rfl⟩ := len1 hl
  unfold bindArgs
  rw [hp, hd]
  rfl
theorem bd14 (fd : FuncData) (hp : fd.params = prm 14) (hd : fd.defaults = .none) (vals : List Value) (hl : vals.length = q14.length) : bindArgs fd ⟨vals, []⟩ = pure (q14.zip vals) := by
  obtain ⟨v1, v2, rfl⟩ := len2 hl
  unfold bindArgs
  rw [hp, hd]
  rfl
theorem bd15 (fd : FuncData) (hp : fd.params = prm 15) (hd : fd.defaults = .none) (vals : List Value) (hl : vals.length = q15.length) : bindArgs fd ⟨vals, []⟩ = pure (q15.zip vals) := by
  obtain ⟨v1, rfl⟩ := len1 hl
  unfold bindArgs
  rw [hp, hd]
  rfl
section
variable {p : Program} {loose : List Str} {mean : ExcName → Option Value} {mg mb : Str → Option Value} {h : Heap} {K : Frag}

theorem gb_blt (T : Top p loose mean mg mb h) {f : Str} {v : Value} (h1 : f ∉ startupNames) (h2 : f ∉ loose) (h3 : f ∉ (recsOf p).map (·.name)) (h4 : f ∉ (litsOf p).map (·.1)) (h5 : f ∉ (clssOf p loose).map (·.name)) (e2 : bootBuiltins f = some v) (hne : (f == ("__name__" : Str)) = false) : GB h f v :=
  .inr ⟨mg, mb, T.g, T.free f h1 h2 h3 h4 h5, T.b, by rw [T.builtins f (by intro q; rw [q] at hne; exact absurd hne (by decide))]; exact e2⟩

theorem b_len : bootBuiltins (Str.ofString "len") = some (.builtin "len") := by kernel_rfl
theorem b_max : bootBuiltins (Str.ofString "max") = some (.builtin "max") := by kernel_rfl
theorem b_range : bootBuiltins (Str.ofString "range") = some (.type "range") := by kernel_rfl
theorem b_type : bootBuiltins (Str.ofString "type") = some (.type "type") := by kernel_rfl
theorem b_int : bootBuiltins (Str.ofString "int") = some (.type "int") := by kernel_rfl
theorem b_list : bootBuiltins (Str.ofString "list") = some (.type "list") := by kernel_rfl
theorem b_tuple : bootBuiltins (Str.ofString "tuple") = some (.type "tuple") := by kernel_rfl
theorem b_bool : bootBuiltins (Str.ofString "bool") = some (.type "bool") := by kernel_rfl

noncomputable def blts : List String := ["len", "max", "range", "type", "int", "list", "tuple", "bool"]
noncomputable def freeIn (p : Program) (loose : List Str) (x : String) : Bool :=
  !startupNames.contains (Str.ofString x) && !loose.contains (Str.ofString x) && !((recsOf p).map (·.name)).contains (Str.ofString x) && !((litsOf p).map (·.1)).contains (Str.ofString x) && !((clssOf p loose).map (·.name)).contains (Str.ofString x)
theorem gb_free (T : Top p loose mean mg mb h) {x : String} {v : Value} (e : freeIn p loose x = true) (e2 : bootBuiltins (Str.ofString x) = some v) (hne : (Str.ofString x == ("__name__" : Str)) = false) : GB h (Str.ofString x) v := by
  unfold freeIn at e
  simp only [Bool.and_eq_true, Bool.not_eq_true', List.contains_eq_mem, decide_eq_false_iff_not] at e
  exact gb_blt T e.1.1.1.1 e.1.1.1.2 e.1.1.2 e.1.2 e.2 e2 hne
theorem base_top (T : Top p loose mean mg mb h) (e : blts.all (freeIn p loose) = true) (hl : ∃ v, GB h (Str.ofString "_law_lines") v ∧ R (fun _ => False) h v linesD) : Base h := by
  have e' : ∀ x ∈ blts, freeIn p loose x = true := List.all_eq_true.mp e
  refine ⟨gb_free T (e' _ (by decide)) b_len (by decide +kernel), gb_free T (e' _ (by decide)) b_max (by decide +kernel), gb_free T (e' _ (by decide)) b_range (by decide +kernel), gb_free T (e' _ (by decide)) b_type (by decide +kernel), fun t ht => ?_, hl, T.nolimit⟩
  simp only [tyNames, List.mem_cons, List.not_mem_nil, or_false] at ht
  rcases ht with rfl | rfl | rfl | rfl
  · exact gb_free T (e' _ (by decide)) b_int (by decide +kernel)
  · exact gb_free T (e' _ (by decide)) b_list (by decide +kernel)
  · exact gb_free T (e' _ (by decide)) b_tuple (by decide +kernel)
  · exact gb_free T (e' _ (by decide)) b_bool (by decide +kernel)
theorem strs_rs {X : Addr → Prop} : ∀ {vs : List Value} {l : List Str}, StrsAre vs l → (∀ x ∈ l, (x.cps.toList.all fun c => decide (c < 128)) = true ∧ decide (x.cps.toList.length ≤ cap) = true) → Rs X h vs (l.map fun x => .str x.cps.toList)
  | _, _, .nil, _ => by rw [List.map_nil, Rs]
  | _, _, .cons i t r, hl => by
    rw [List.map_cons, Rs]
    have h1 := hl i List.mem_cons_self
    refine ⟨_, _, rfl, ?_, strs_rs r fun x hx => hl x (List.mem_cons_of_mem _ hx)⟩
    rw [R]
    exact ⟨_, t, rfl, rfl, fun c hc => of_decide_eq_true (List.all_eq_true.mp h1.1 c hc), of_decide_eq_true h1.2⟩
theorem lines_top {w : World} (T : Top p loose mean mg mb h) (B : Tables p w mg h) (e : tupStrsOf p (Str.ofString "_law_lines") = some [Str.ofString "", Str.ofString "p", Str.ofString "pq"]) : ∃ v, GB h (Str.ofString "_law_lines") v ∧ R (fun _ => False) h v linesD := by
  obtain ⟨a, vs, h1, h2, h3⟩ := B.tupS _ _ e
  refine ⟨.ref a, .inl ⟨mg, T.g, h1⟩, ?_⟩
  have hr := strs_rs (X := fun _ => False) (h := h) h3 (by decide +kernel)
  have e3 : linesD = .tup ([Str.ofString "", Str.ofString "p", Str.ofString "pq"].map fun x => .str x.cps.toList) := by kernel_rfl
  rw [e3, R]
  obtain ⟨k, g⟩ := h2
  exact ⟨a, vs, k, rfl, fun q => q, g, by decide, hr⟩
end

theorem ints_rs {X : Addr → Prop} {h : Heap} : ∀ {vs : List Value} {l : List Int}, IntsAre vs l → Rs X h vs (l.map .int)
  | _, _, .nil => by rw [List.map_nil, Rs]
  | _, _, .cons i t r => by
    rw [List.map_cons, Rs]
    exact ⟨_, _, rfl, by rw [R]; exact ⟨t, rfl⟩, ints_rs r⟩
theorem arg_r {X : Addr → Prop} {h : Heap} {a : Addr} {vs : List Value} {l : List Int} (hx : ¬ X a) (hL : h.IsList a vs.toArray) (hI : IntsAre vs l) (hl : l.length ≤ cap) : R X h (.ref a) (eI l) := by
  unfold eI
  rw [R]
  obtain ⟨o, g, hc, k, hd⟩ := hL
  exact ⟨a, vs, o, rfl, hx, ⟨g, hc, k, hd⟩, by rw [List.length_map]; exact hl, ints_rs hI⟩
end Mine
set_option maxRecDepth 100000
set_option maxHeartbeats 8000000
open PySem PySem.W PyProof.Rows Mine
theorem PySem.Challenge.cw_sx_yweave_2_holds : PySem.Challenge.rw_sx_yweave_2.Holds := by
  w_on; o_law; o_head Hook.none; (case hw => w_witness2)
  intro w s₀ s₁ mg mb G Y fa o pm cd doc dV kV ho hd hcd hD hmg hg args vals as hpre hlay hrd hwl hlo
  refine Ground.open G ?_
  intro T B D TE TW
  obtain ⟨a15, hm15, FL⟩ := at_top T (i := 12) (f := "law") (k := 15) bd15 (by kernel_rfl)
  have hfa : some (Value.ref fa) = some (Value.ref a15) := hmg.symm.trans hm15
  cases hfa
  clear hd hcd hD hmg ho Y D TE TW hm15
  have LD : Laid s₁.heap :=
    { base := base_top T (by kernel_rfl) (lines_top T B (by kernel_rfl))
      f1 := fn_top T (i := 0) bd1 (by kernel_rfl)
      f2 := fn_top T (i := 1) bd2 (by kernel_rfl)
      f3 := fn_top T (i := 2) bd3 (by kernel_rfl)
      f4 := fn_top T (i := 3) bd4 (by kernel_rfl)
      f5 := fn_top T (i := 4) bd5 (by kernel_rfl)
      f6 := fn_top T (i := 5) bd6 (by kernel_rfl)
      f9 := fn_top T (i := 6) bd9 (by kernel_rfl)
      f10 := fn_top T (i := 7) bd10 (by kernel_rfl)
      f11 := fn_top T (i := 8) bd11 (by kernel_rfl)
      f12 := fn_top T (i := 9) bd12 (by kernel_rfl)
      f13 := fn_top T (i := 10) bd13 (by kernel_rfl)
      f14 := fn_top T (i := 11) bd14 (by kernel_rfl) }
  clear T B G
  wrow_args hpre hlay hrd hwl hlo
  rename_i ws _ _ _ _ _ _ _ a vs _ hL _ _ _ hI _ hlen _
  have hl : ws.length ≤ 63 := by lia
  have hc : cap = 1000000 := rfl
  refine wpAny_mono (law_call LD FL (X := fun _ => False) (l := ws) (by lia) ⟨rfl, by decide, by decide⟩ (fun _ _ e => ⟨fun q => q, e⟩) (fun _ q => q.elim) (arg_r (fun q => q) hL hI (by lia))) (fun v s' h => ?_) fun _ _ q => q.elim
  obtain ⟨⟨h', tk, rfl, hk⟩, hv⟩ := h
  have hv' := bool_inv hv
  subst hv'
  refine GoodW.toG ⟨.inl ⟨_, .bool true, [], rfl, fun _ => rfl, .bool true, postW_of (X := true) ?_ ?_ rfl, unshared_nil⟩, hk, rfl, hg⟩
  · first | rfl | kernel_rfl | simp [WShape.has]
  · first | rfl | kernel_rfl | simp [WTm.value]
