import PyProof.Rows.All
import Wide.All
import OpenK.AllK
import Wide.FinOn
import PyProof.EqAt
import PyProof.EqKinds
import PyProof.TupleCall
import Open.SpecLaws
import KE.OsGo
import PyWideLaws
import PySem.Challenge.RW_twomelts_s01_answers
import HandS.ForSpec
import HandS.Comp
import HandS.Iter
set_option Elab.async false
set_option linter.all false
/-! TmMath: the mirror of the program twomelts in plain Lean, and that it answers as the specification does. No program here. -/
namespace Tm
open Sj14 (Crate Wanted)

/-! ### Picking by places -/
/-- the items at the places where P holds -/
def pickP {α : Type} (P : Nat → Bool) : List α → List α
  | [] => []
  | c :: cs => if P 0 then c :: pickP (fun i => P (i + 1)) cs else pickP (fun i => P (i + 1)) cs
theorem pickP_congr {α : Type} : ∀ {P Q : Nat → Bool} {l : List α}, (∀ i, i < l.length → P i = Q i) → pickP P l = pickP Q l
  | _, _, [], _ => rfl
  | P, Q, c :: cs, h => by
    have h0 : P 0 = Q 0 := h 0 (Nat.zero_lt_succ _)
    have hr : pickP (fun i => P (i + 1)) cs = pickP (fun i => Q (i + 1)) cs := pickP_congr fun i hi => h (i + 1) (Nat.succ_lt_succ hi)
    show (if P 0 then c :: pickP (fun i => P (i + 1)) cs else pickP (fun i => P (i + 1)) cs) = (if Q 0 then c :: pickP (fun i => Q (i + 1)) cs else pickP (fun i => Q (i + 1)) cs)
    rw [h0, hr]
theorem pickP_take {α : Type} : ∀ {P : Nat → Bool} {l : List α} {i : Nat} {a : α}, l[i]? = some a → pickP P (l.take (i + 1)) = pickP P (l.take i) ++ (if P i then [a] else [])
  | _, [], _, _, h => by simp at h
  | P, c :: cs, 0, a, h => by
    have e : c = a := by simpa using h
    subst e
    show (if P 0 then c :: pickP (fun i => P (i + 1)) [] else pickP (fun i => P (i + 1)) []) = [] ++ (if P 0 then [c] else [])
    rw [List.nil_append]
    rfl
  | P, c :: cs, i + 1, a, h => by
    have ih := pickP_take (P := fun i => P (i + 1)) (l := cs) (i := i) (a := a) (by simpa using h)
    show (if P 0 then c :: pickP (fun i => P (i + 1)) (cs.take (i + 1)) else pickP (fun i => P (i + 1)) (cs.take (i + 1))) = (if P 0 then c :: pickP (fun i => P (i + 1)) (cs.take i) else pickP (fun i => P (i + 1)) (cs.take i)) ++ (if P (i + 1) then [a] else [])
    rw [ih]
    by_cases h0 : P 0 = true
    · rw [if_pos h0, if_pos h0, List.cons_append]
    · rw [if_neg h0, if_neg h0]
theorem pickP_len {α : Type} : ∀ {P : Nat → Bool} {l : List α}, (pickP P l).length ≤ l.length
  | _, [] => Nat.le_refl _
  | P, c :: cs => by
    have ih := pickP_len (P := fun i => P (i + 1)) (l := cs)
    show (if P 0 then c :: pickP (fun i => P (i + 1)) cs else pickP (fun i => P (i + 1)) cs).length ≤ cs.length + 1
    split
    · rw [List.length_cons]; omega
    · omega
theorem pickP_mem {α : Type} : ∀ {P : Nat → Bool} {l : List α} {x : α}, x ∈ pickP P l → x ∈ l
  | _, [], _, h => h
  | P, c :: cs, x, h => by
    have h' : x ∈ (if P 0 then c :: pickP (fun i => P (i + 1)) cs else pickP (fun i => P (i + 1)) cs) := h
    split at h'
    · rcases List.mem_cons.mp h' with e | e
      · exact e ▸ List.mem_cons_self
      · exact List.mem_cons_of_mem _ (pickP_mem e)
    · exact List.mem_cons_of_mem _ (pickP_mem h')
/-- by range and place, as the specification has it -/
theorem pickP_range {α β : Type} (d : α) (f : α → β) : ∀ (P : Nat → Bool) (l : List α), ((List.range l.length).filter P).map (fun i => f (l.getD i d)) = (pickP P l).map f
  | _, [] => rfl
  | P, c :: cs => by
    have ih := pickP_range d f (fun i => P (i + 1)) cs
    rw [List.length_cons, List.range_succ_eq_map]
    have e : (List.filter P (List.map Nat.succ (List.range cs.length))).map (fun i => f ((c :: cs).getD i d)) = ((List.range cs.length).filter fun i => P (i + 1)).map (fun i => f (cs.getD i d)) := by
      rw [List.filter_map, List.map_map]
      rfl
    show (List.filter P (0 :: List.map Nat.succ (List.range cs.length))).map _ = (if P 0 then c :: pickP (fun i => P (i + 1)) cs else pickP (fun i => P (i + 1)) cs).map f
    by_cases h0 : P 0 = true
    · rw [List.filter_cons_of_pos h0, if_pos h0, List.map_cons, List.map_cons, e, ih]
      rfl
    · rw [List.filter_cons_of_neg h0, if_neg h0, e, ih]

/-! ### Heaps -/
structure Hp5 where
  many : Nat
  weight : Nat
  copper : Nat
  zinc : Nat
  cost : Nat
def heap (cs : List Crate) : Hp5 := ⟨cs.length, (cs.map (·.heavy)).sum, (cs.map fun c => c.heavy * c.copper).sum, (cs.map fun c => c.heavy * c.zinc).sum, (cs.map (·.price)).sum⟩
def heavyRight (h : Hp5) (w : Wanted) : Bool := decide (0 < h.many) && (decide (w.light ≤ h.weight) && decide (h.weight ≤ w.heavy))
def between (part whole lo hi : Nat) : Bool := decide (lo * whole ≤ part) && decide (part ≤ hi * whole)
def wrongAlone (h : Hp5) (w : Wanted) : Nat :=
  if heavyRight h w = false then 1 else if between h.copper h.weight w.copperLow w.copperHigh = false then 2 else if between h.zinc h.weight w.zincLow w.zincHigh = false then 3 else 0
def wrongBehind (h : Hp5) (w : Wanted) (f : Hp5) (stays : Nat) : Nat :=
  if heavyRight h w = false then 4
  else if between (h.copper * f.weight + stays * f.copper) ((h.weight + stays) * f.weight) w.copperLow w.copperHigh = false then 5
  else if between (h.zinc * f.weight + stays * f.zinc) ((h.weight + stays) * f.weight) w.zincLow w.zincHigh = false then 6 else 0
def wrongBoth (f s : Hp5) (w0 w1 : Wanted) (stays : Nat) : Nat :=
  if wrongAlone f w0 ≠ 0 then wrongAlone f w0 else if f.weight < stays then 7 else wrongBehind s w1 f stays
def want (s : Sj16.Shop) (k : Nat) : Wanted := if k = 0 then s.first else s.second
/-- the crates with a mark in a share -/
def marked (p : Nat → Bool) (s : Sj16.Shop) (l : List Nat) : List Crate := pickP (fun i => p (l.getD i 0)) s.crates
def wrongPlan (s : Sj16.Shop) (k : Nat) (l : List Nat) : Nat :=
  wrongBoth (heap (marked (fun x => decide (x = k + 1)) s l)) (heap (marked (fun x => decide (x = 2 - k)) s l)) (want s k) (want s (1 - k)) s.heel
def notLeft (s : Sj16.Shop) (l : List Nat) : Hp5 := heap (marked (fun x => decide (x ≠ 0)) s l)

/-! ### The best -/
structure Bst (α : Type) where
  some : List α
  cost : Nat
  weight : Nat
def Bst.none {α : Type} : Bst α := ⟨[], 0, 0⟩
def Bst.better {α : Type} (b : Bst α) (c w : Nat) : Bool := b.some.isEmpty || (decide (c < b.cost) || (decide (c = b.cost) && decide (b.weight < w)))
def Bst.alike {α : Type} (b : Bst α) (c w : Nat) : Bool := decide (c = b.cost) && decide (w = b.weight)
def Bst.take {α : Type} (b : Bst α) (c w : Nat) (x : α) : Bst α := if b.better c w then ⟨[x], c, w⟩ else if b.alike c w then { b with some := b.some ++ [x] } else b
def shares : Nat → List (List Nat)
  | 0 => [[]]
  | n + 1 => (shares n).flatMap fun l => [l ++ [0], l ++ [1], l ++ [2]]
/-- one plan is looked at -/
def look (s : Sj16.Shop) (k : Nat) (b : Bst (List Nat)) (l : List Nat) : Bst (List Nat) := if wrongPlan s k l = 0 then b.take (notLeft s l).cost (notLeft s l).weight (k :: l) else b
def cheapest (s : Sj16.Shop) : Bst (List Nat) := (List.range 2).foldl (fun b k => (shares s.crates.length).foldl (look s k) b) Bst.none
def setOfN (s : Sj16.Shop) (n : Nat) : List Crate := pickP (fun i => decide (n / 2 ^ i % 2 = 1)) s.crates
def look1 (s : Sj16.Shop) (k : Nat) (b : Bst Nat) (n : Nat) : Bst Nat := if wrongAlone (heap (setOfN s n)) (want s k) = 0 then b.take (heap (setOfN s n)).cost (heap (setOfN s n)).weight n else b
def cheapestSet (s : Sj16.Shop) (k : Nat) : Bst Nat := (List.range (2 ^ s.crates.length)).foldl (look1 s k) Bst.none

/-! ### The methods: a refusal's numbers, or the new yard and what's answered -/
abbrev Out := Except (List Int) (Sj16.Shop × List Int)
def W0 : Wanted := ⟨1, 200, 0, 1000, 0, 1000⟩
def newShop (h : Nat) : Sj16.Shop := ⟨h, W0, W0, []⟩
def bounds (a b lo hi : Nat) : Bool := decide (lo ≤ a) && (decide (a ≤ b) && decide (b ≤ hi))
def areWants (w : Wanted) : Bool := if bounds w.light w.heavy 1 1000 = false then false else bounds w.copperLow w.copperHigh 0 1000 && bounds w.zincLow w.zincHigh 0 1000
def isCrate (c : Crate) : Bool := decide (1 ≤ c.heavy) && (decide (c.heavy ≤ 200) && (decide (c.copper + c.zinc ≤ 1000) && decide (c.price ≤ 1000)))
def setWant (s : Sj16.Shop) (k : Nat) (w : Wanted) : Sj16.Shop := if k = 0 then { s with first := w } else { s with second := w }
def mBegins (h : Nat) : Out := if h ≤ 200 then .ok (newShop h, [0]) else .error [-1]
def mWant (s : Sj16.Shop) (k : Nat) (w : Wanted) : Out := if ¬ k < 2 then .error [-2] else if areWants w = false then .error [-1] else .ok (setWant s k w, [0])
def mCrate (s : Sj16.Shop) (c : Crate) : Out :=
  if isCrate c = false then .error [-1] else if ¬ s.crates.length < 7 then .error [-5] else .ok ({ s with crates := s.crates ++ [c] }, [(s.crates.length : Int)])
def mCheck (s : Sj16.Shop) (k : Nat) (l : List Nat) : Out :=
  if ¬ (k < 2 ∧ l.length = s.crates.length) then .error [-1] else if (l.all fun x => decide (x < 3)) = false then .error [-1]
  else if wrongPlan s k l ≠ 0 then .error [-6, (wrongPlan s k l : Int)] else .ok (s, [((notLeft s l).cost : Int), ((notLeft s l).weight : Int)])
def told {α : Type} (b : Bst α) : List Int := [(b.cost : Int), (b.weight : Int), (b.some.length : Int)]
def mCheap (s : Sj16.Shop) : Out := match (cheapest s).some with
  | [] => .error [-6]
  | x :: _ => .ok (s, told (cheapest s) ++ x.map (fun n : Nat => (n : Int)))
def mAlone (s : Sj16.Shop) (k : Nat) : Out := if ¬ k < 2 then .error [-2] else match (cheapestSet s k).some with
  | [] => .error [-6]
  | x :: _ => .ok (s, told (cheapestSet s k) ++ [(x : Int)])
def fin (s : Sj16.Shop) : Out → Sj16.Shop × List Int
  | .error l => (s, l)
  | .ok r => r
/-- what a yard may be -/
structure Valid (s : Sj16.Shop) : Prop where
  heel : s.heel ≤ 200
  few : s.crates.length ≤ 7
  crates : ∀ c ∈ s.crates, isCrate c = true
  first : areWants s.first = true
  second : areWants s.second = true
end Tm
/-! TmLaw: what the mirror computes answers as the specification says. -/
namespace Tm
open Sj14 (Crate Wanted)

/-! ### Sets by their bits -/
theorem setOf_cons (x : Nat) (l : List Nat) (k : Nat) : Sj16.setOf (x :: l) k = (if x = k + 1 then 1 else 0) + 2 * Sj16.setOf l k := by
  unfold Sj16.setOf
  rw [List.length_cons, List.range_succ_eq_map, List.map_cons, List.sum_cons, List.map_map]
  have e : ∀ r : List Nat, (r.map ((fun i => if (x :: l).getD i 0 = k + 1 then 2 ^ i else 0) ∘ Nat.succ)).sum = 2 * (r.map fun i => if l.getD i 0 = k + 1 then 2 ^ i else 0).sum := by
    intro r
    induction r with
    | nil => rfl
    | cons a r ih =>
      rw [List.map_cons, List.sum_cons, List.map_cons, List.sum_cons, ih]
      show (if l.getD a 0 = k + 1 then 2 ^ (a + 1) else 0) + _ = _
      split
      · rw [Nat.pow_succ]; omega
      · omega
  rw [e]
  rfl
theorem testBit_setOf : ∀ (l : List Nat) (k i : Nat), (Sj16.setOf l k).testBit i = decide (l.getD i 0 = k + 1)
  | [], k, i => by
    show (0 : Nat).testBit i = decide ((0 : Nat) = k + 1)
    rw [Nat.zero_testBit]
    exact (decide_eq_false (by omega)).symm
  | x :: l, k, 0 => by
    rw [setOf_cons, Nat.testBit_zero]
    show _ = decide (x = k + 1)
    by_cases h : x = k + 1
    · rw [if_pos h, decide_eq_true h]
      exact decide_eq_true (by omega)
    · rw [if_neg h, decide_eq_false h]
      exact decide_eq_false (by omega)
  | x :: l, k, i + 1 => by
    rw [setOf_cons, Nat.testBit_succ]
    have e : ((if x = k + 1 then 1 else 0) + 2 * Sj16.setOf l k) / 2 = Sj16.setOf l k := by
      split <;> omega
    rw [e, testBit_setOf l k i]
    rfl
theorem members_map {β : Type} (f : Crate → β) (y : Sj14.Yard) (m : Nat) : (y.members m).map (fun i => f (y.crate i)) = (pickP (fun i => m.testBit i) y.crates).map f := by
  unfold Sj14.Yard.members Sj14.Yard.count Sj14.Yard.crate
  exact pickP_range _ f _ _
theorem setOfN_bits (s : Sj16.Shop) (k n : Nat) : pickP (fun i => n.testBit i) (s.yard k).crates = setOfN s n := by
  unfold setOfN
  refine pickP_congr fun i _ => ?_
  rw [Nat.testBit_eq_decide_div_mod_eq]
theorem marked_bits (s : Sj16.Shop) (k j : Nat) (l : List Nat) : pickP (fun i => (Sj16.setOf l j).testBit i) (s.yard k).crates = marked (fun x => decide (x = j + 1)) s l := by
  unfold marked
  exact pickP_congr fun i _ => testBit_setOf l j i
theorem yard_heavy (s : Sj16.Shop) (k m : Nat) : (s.yard k).heavy m = (heap (pickP (fun i => m.testBit i) (s.yard k).crates)).weight := congrArg List.sum (members_map (·.heavy) _ _)
theorem yard_copper (s : Sj16.Shop) (k m : Nat) : (s.yard k).copper m = (heap (pickP (fun i => m.testBit i) (s.yard k).crates)).copper := congrArg List.sum (members_map (fun c => c.heavy * c.copper) _ _)
theorem yard_zinc (s : Sj16.Shop) (k m : Nat) : (s.yard k).zinc m = (heap (pickP (fun i => m.testBit i) (s.yard k).crates)).zinc := congrArg List.sum (members_map (fun c => c.heavy * c.zinc) _ _)
theorem yard_price (s : Sj16.Shop) (k m : Nat) : (s.yard k).price m = (heap (pickP (fun i => m.testBit i) (s.yard k).crates)).cost := congrArg List.sum (members_map (·.price) _ _)

/-! ### What's wrong -/
theorem heap_many {cs : List Crate} (h : ∀ c ∈ cs, 1 ≤ c.heavy) : 0 < (heap cs).many ↔ (heap cs).weight ≠ 0 := by
  cases cs with
  | nil => exact ⟨fun z => absurd z (Nat.lt_irrefl _), fun z => absurd rfl z⟩
  | cons c r =>
    have q := h c List.mem_cons_self
    show 0 < (r.length + 1) ↔ ((c :: r).map (·.heavy)).sum ≠ 0
    rw [List.map_cons, List.sum_cons]
    constructor
    · intro _; omega
    · intro _; omega
theorem heavyRight_eq {cs : List Crate} (h : ∀ c ∈ cs, 1 ≤ c.heavy) (w : Wanted) :
    heavyRight (heap cs) w = false ↔ ((heap cs).weight < w.light ∨ w.heavy < (heap cs).weight ∨ (heap cs).weight = 0) := by
  have q := heap_many h
  unfold heavyRight
  simp only [Bool.and_eq_false_iff, decide_eq_false_iff_not]
  omega
theorem between_eq (part whole lo hi : Nat) : between part whole lo hi = false ↔ (part < lo * whole ∨ hi * whole < part) := by
  unfold between
  simp only [Bool.and_eq_false_iff, decide_eq_false_iff_not]
  omega
theorem wanted_yard (s : Sj16.Shop) (k : Nat) : (s.yard k).wanted = want s k := rfl
theorem heavy_of {c : Crate} (h : isCrate c = true) : 1 ≤ c.heavy := by
  unfold isCrate at h
  simp only [Bool.and_eq_true, decide_eq_true_eq] at h
  exact h.1
theorem ite_iff {α : Type} {P Q : Prop} [Decidable P] [Decidable Q] (h : P ↔ Q) (a b : α) : (if P then a else b) = if Q then a else b := by
  by_cases p : P
  · rw [if_pos p, if_pos (h.mp p)]
  · rw [if_neg p, if_neg fun q => p (h.mpr q)]
theorem wrong_alone_eq (s : Sj16.Shop) (k m : Nat) (cs : List Crate) (hm : pickP (fun i => m.testBit i) (s.yard k).crates = cs) (h : ∀ c ∈ cs, 1 ≤ c.heavy) : (s.yard k).wrong m = wrongAlone (heap cs) (want s k) := by
  subst hm
  unfold Sj14.Yard.wrong wrongAlone
  simp only [yard_heavy, yard_copper, yard_zinc, wanted_yard]
  rw [ite_iff (heavyRight_eq h (want s k)), ite_iff (between_eq _ _ _ _), ite_iff (between_eq _ _ _ _)]
theorem later_eq (s : Sj16.Shop) (k : Nat) (l : List Nat) (f g : List Crate) (hf : marked (fun x => decide (x = k + 1)) s l = f) (hg : marked (fun x => decide (x = 1 - k + 1)) s l = g) (h : ∀ c ∈ f, 1 ≤ c.heavy) :
    (if s.later k l ≠ 0 then s.later k l + 3 else 0) = wrongBehind (heap f) (want s k) (heap g) s.heel := by
  have h1 := marked_bits s k k l
  have h2 := marked_bits s k (1 - k) l
  rw [hf] at h1
  rw [hg] at h2
  have e : s.later k l = if heavyRight (heap f) (want s k) = false then 1
      else if between ((heap f).copper * (heap g).weight + s.heel * (heap g).copper) (((heap f).weight + s.heel) * (heap g).weight) (want s k).copperLow (want s k).copperHigh = false then 2
      else if between ((heap f).zinc * (heap g).weight + s.heel * (heap g).zinc) (((heap f).weight + s.heel) * (heap g).weight) (want s k).zincLow (want s k).zincHigh = false then 3 else 0 := by
    unfold Sj16.Shop.later
    simp only [yard_heavy, yard_copper, yard_zinc, wanted_yard, h1, h2]
    rw [ite_iff (heavyRight_eq h (want s k)), ite_iff (between_eq _ _ _ _), ite_iff (between_eq _ _ _ _)]
    rw [Nat.add_comm s.heel (heap f).weight, Nat.add_comm (s.heel * (heap g).copper), Nat.add_comm (s.heel * (heap g).zinc)]
  rw [e]
  unfold wrongBehind
  by_cases c1 : heavyRight (heap f) (want s k) = false
  · rw [if_pos c1, if_pos c1]; rfl
  · rw [if_neg c1, if_neg c1]
    by_cases c2 : between ((heap f).copper * (heap g).weight + s.heel * (heap g).copper) (((heap f).weight + s.heel) * (heap g).weight) (want s k).copperLow (want s k).copperHigh = false
    · rw [if_pos c2, if_pos c2]; rfl
    · rw [if_neg c2, if_neg c2]
      by_cases c3 : between ((heap f).zinc * (heap g).weight + s.heel * (heap g).zinc) (((heap f).weight + s.heel) * (heap g).weight) (want s k).zincLow (want s k).zincHigh = false
      · rw [if_pos c3, if_pos c3]; rfl
      · rw [if_neg c3, if_neg c3]; rfl
theorem marked_heavy {s : Sj16.Shop} (V : ∀ c ∈ s.crates, isCrate c = true) (p : Nat → Bool) (l : List Nat) : ∀ c ∈ marked p s l, 1 ≤ c.heavy := fun c hc => heavy_of (V c (pickP_mem hc))
theorem wrong_plan_eq {s : Sj16.Shop} (V : ∀ c ∈ s.crates, isCrate c = true) {k : Nat} (hk : k < 2) (l : List Nat) : s.wrong k l = wrongPlan s k l := by
  have a := wrong_alone_eq s k (Sj16.setOf l k) _ (marked_bits s k k l) (marked_heavy V _ l)
  have b := later_eq s (1 - k) l (marked (fun x => decide (x = 2 - k)) s l) (marked (fun x => decide (x = k + 1)) s l)
    (by have e : 1 - k + 1 = 2 - k := by omega
        rw [e]) (by have e : 1 - (1 - k) + 1 = k + 1 := by omega
                    rw [e]) (marked_heavy V _ l)
  have w : (s.yard k).heavy (Sj16.setOf l k) = (heap (marked (fun x => decide (x = k + 1)) s l)).weight := by rw [yard_heavy, marked_bits]
  unfold Sj16.Shop.wrong wrongPlan wrongBoth
  simp only [a, w]
  rw [← b]

/-! ### Price and weight of a share -/
theorem split_sum (f : Crate → Nat) : ∀ (l : List Nat) (cs : List Crate), (∀ x ∈ l, x < 3) →
    ((pickP (fun i => decide (l.getD i 0 = 1)) cs).map f).sum + ((pickP (fun i => decide (l.getD i 0 = 2)) cs).map f).sum = ((pickP (fun i => decide (l.getD i 0 ≠ 0)) cs).map f).sum
  | _, [], _ => rfl
  | [], c :: cs, h => by
    have ih := split_sum f [] cs h
    exact ih
  | x :: l, c :: cs, h => by
    have ih := split_sum f l cs fun y hy => h y (List.mem_cons_of_mem _ hy)
    have hx := h x List.mem_cons_self
    show ((if decide (x = 1) then c :: pickP (fun i => decide (l.getD i 0 = 1)) cs else pickP (fun i => decide (l.getD i 0 = 1)) cs).map f).sum +
      ((if decide (x = 2) then c :: pickP (fun i => decide (l.getD i 0 = 2)) cs else pickP (fun i => decide (l.getD i 0 = 2)) cs).map f).sum =
      ((if decide (x ≠ 0) then c :: pickP (fun i => decide (l.getD i 0 ≠ 0)) cs else pickP (fun i => decide (l.getD i 0 ≠ 0)) cs).map f).sum
    have hx' : x = 0 ∨ x = 1 ∨ x = 2 := by omega
    rcases hx' with e | e | e
    · subst e; exact ih
    · subst e
      show ((c :: pickP (fun i => decide (l.getD i 0 = 1)) cs).map f).sum + _ = ((c :: pickP (fun i => decide (l.getD i 0 ≠ 0)) cs).map f).sum
      rw [List.map_cons, List.sum_cons, List.map_cons, List.sum_cons, ← ih]
      exact Nat.add_assoc _ _ _
    · subst e
      show _ + ((c :: pickP (fun i => decide (l.getD i 0 = 2)) cs).map f).sum = ((c :: pickP (fun i => decide (l.getD i 0 ≠ 0)) cs).map f).sum
      rw [List.map_cons, List.sum_cons, List.map_cons, List.sum_cons, ← ih]
      exact Nat.add_left_comm _ _ _
theorem price_eq (s : Sj16.Shop) {l : List Nat} (h : ∀ x ∈ l, x < 3) : s.price l = (notLeft s l).cost := by
  unfold Sj16.Shop.price
  rw [yard_price, yard_price, marked_bits, marked_bits]
  exact split_sum (·.price) l s.crates h
theorem heavy_eq (s : Sj16.Shop) {l : List Nat} (h : ∀ x ∈ l, x < 3) : s.heavy l = (notLeft s l).weight := by
  unfold Sj16.Shop.heavy
  rw [yard_heavy, yard_heavy, marked_bits, marked_bits]
  exact split_sum (·.heavy) l s.crates h

/-! ### The best: what is kept and what the specification keeps -/
theorem shares_snoc : ∀ n, Sj16.rows (n + 1) = (Sj16.rows n).flatMap fun l => [l ++ [0], l ++ [1], l ++ [2]]
  | 0 => rfl
  | n + 1 => by
    have ih := shares_snoc n
    have e : ∀ m, Sj16.rows (m + 1) = (Sj16.rows m).map (fun l => 0 :: l) ++ ((Sj16.rows m).map (fun l => 1 :: l) ++ ((Sj16.rows m).map (fun l => 2 :: l) ++ [])) := fun m => rfl
    conv => lhs; rw [e (n + 1), ih]
    conv => rhs; rw [e n]
    simp only [List.flatMap_append, List.flatMap_map, List.map_flatMap, List.append_nil, List.map_cons, List.map_nil, List.cons_append]
theorem shares_eq : ∀ n, shares n = Sj16.rows n
  | 0 => rfl
  | n + 1 => by
    rw [shares_snoc n, ← shares_eq n]
    rfl
theorem rows_facts : ∀ {n : Nat} {l : List Nat}, l ∈ Sj16.rows n → l.length = n ∧ ∀ x ∈ l, x < 3
  | 0, l, h => by
    have e : l = [] := by
      have h' : l ∈ [([] : List Nat)] := h
      simpa using h'
    subst e
    exact ⟨rfl, fun x hx => by cases hx⟩
  | n + 1, l, h => by
    have h' : l ∈ (List.range 3).flatMap fun x => (Sj16.rows n).map fun l => x :: l := h
    rw [List.mem_flatMap] at h'
    obtain ⟨x, hx, hl⟩ := h'
    rw [List.mem_map] at hl
    obtain ⟨r, hr, e⟩ := hl
    subst e
    obtain ⟨q1, q2⟩ := rows_facts hr
    refine ⟨by rw [List.length_cons, q1], fun y hy => ?_⟩
    rcases List.mem_cons.mp hy with z | z
    · subst z; exact List.mem_range.mp hx
    · exact q2 y z
theorem foldl_rel {α β γ : Type} (R : β → γ → Prop) (f : β → α → β) (g : γ → α → γ) : ∀ (l : List α) (b : β) (c : γ), R b c → (∀ a ∈ l, ∀ b c, R b c → R (f b a) (g c a)) → R (l.foldl f b) (l.foldl g c)
  | [], _, _, h, _ => h
  | a :: l, b, c, h, k => foldl_rel R f g l (f b a) (g c a) (k a List.mem_cons_self b c h) fun x hx => k x (List.mem_cons_of_mem _ hx)
/-- what the fold of the specification has: price, weight, how many, the first -/
structure Same5 {α : Type} (b : Bst α) (p h m : Nat) (x : α) : Prop where
  ex : ∃ r, b.some = x :: r
  cost : b.cost = p
  weight : b.weight = h
  many : b.some.length = m
def RelB (b : Bst (List Nat)) : Option Sj16.Best → Prop
  | none => b.some = []
  | some x => Same5 b x.price x.heavy x.many x.row
def RelA (b : Bst Nat) : Option Sj14.Best → Prop
  | none => b.some = []
  | some x => Same5 b x.price x.heavy x.many x.set_
theorem take_none {α : Type} {b : Bst α} {c w : Nat} {x : α} (h : b.some = []) : b.take c w x = ⟨[x], c, w⟩ := by
  unfold Bst.take Bst.better
  rw [h]
  rfl
theorem take_some {α : Type} {b : Bst α} {p h m : Nat} {y : α} (S : Same5 b p h m y) (c w : Nat) (x : α) :
    b.take c w x = if c < p ∨ (c = p ∧ h < w) then ⟨[x], c, w⟩ else if c = p ∧ w = h then { b with some := b.some ++ [x] } else b := by
  obtain ⟨r, hr⟩ := S.ex
  have e0 : b.some.isEmpty = false := by rw [hr]; rfl
  unfold Bst.take Bst.better Bst.alike
  rw [e0, S.cost, S.weight]
  have e1 : (false || (decide (c < p) || (decide (c = p) && decide (h < w)))) = true ↔ (c < p ∨ (c = p ∧ h < w)) := by simp
  have e2 : (decide (c = p) && decide (w = h)) = true ↔ (c = p ∧ w = h) := by simp
  rw [ite_iff e1, ite_iff e2]
theorem same_new {α : Type} (x : α) (c w : Nat) : Same5 ⟨[x], c, w⟩ c w 1 x := ⟨⟨[], rfl⟩, rfl, rfl, rfl⟩
theorem same_more {α : Type} {b : Bst α} {p h m : Nat} {y : α} (S : Same5 b p h m y) (x : α) : Same5 { b with some := b.some ++ [x] } p h (m + 1) y := by
  obtain ⟨⟨r, hr⟩, h1, h2, h3⟩ := S
  refine ⟨⟨r ++ [x], ?_⟩, h1, h2, ?_⟩
  · show b.some ++ [x] = y :: (r ++ [x])
    rw [hr]; rfl
  · show (b.some ++ [x]).length = m + 1
    rw [List.length_append, h3]; rfl
theorem foldl_filter' {α β : Type} (p : α → Bool) (f : β → α → β) : ∀ (l : List α) (b : β), (l.filter p).foldl f b = l.foldl (fun b a => if p a = true then f b a else b) b
  | [], _ => rfl
  | a :: l, b => by
    by_cases h : p a = true
    · rw [List.filter_cons_of_pos h, List.foldl_cons, List.foldl_cons, foldl_filter' p f l]
      rw [if_pos h]
    · rw [List.filter_cons_of_neg h, List.foldl_cons, foldl_filter' p f l]
      rw [if_neg h]
theorem cheapest_eq {s : Sj16.Shop} (V : ∀ c ∈ s.crates, isCrate c = true) : RelB (cheapest s) s.cheap := by
  unfold cheapest Sj16.Shop.cheap Sj16.Shop.plans
  rw [List.foldl_flatMap]
  refine foldl_rel RelB _ _ _ _ _ rfl fun k hk b o hR => ?_
  rw [List.foldl_map, foldl_filter', shares_eq]
  refine foldl_rel RelB _ _ _ _ _ hR fun l hl b o hR => ?_
  have hk2 : k < 2 := List.mem_range.mp hk
  obtain ⟨hlen, h3⟩ := rows_facts hl
  unfold look
  rw [wrong_plan_eq V hk2 l]
  by_cases h : wrongPlan s k l = 0
  · rw [if_pos h, if_pos (show (wrongPlan s k l == 0) = true from by rw [h]; rfl)]
    have e : (k :: l).drop 1 = l := rfl
    simp only [e, price_eq s h3, heavy_eq s h3]
    cases o with
    | none =>
      rw [take_none hR]
      exact same_new _ _ _
    | some x =>
      have S : Same5 b x.price x.heavy x.many x.row := hR
      rw [take_some S]
      show RelB _ (if _ then _ else _)
      by_cases c1 : (notLeft s l).cost < x.price ∨ ((notLeft s l).cost = x.price ∧ x.heavy < (notLeft s l).weight)
      · rw [if_pos c1, if_pos c1]; exact same_new _ _ _
      · rw [if_neg c1, if_neg c1]
        by_cases c2 : (notLeft s l).cost = x.price ∧ (notLeft s l).weight = x.heavy
        · rw [if_pos c2, if_pos c2]; exact same_more S _
        · rw [if_neg c2, if_neg c2]; exact hR
  · rw [if_neg h, if_neg (show ¬ (wrongPlan s k l == 0) = true from by simpa using h)]
    exact hR
theorem cheapestSet_eq {s : Sj16.Shop} (V : ∀ c ∈ s.crates, isCrate c = true) (k : Nat) : RelA (cheapestSet s k) (s.yard k).cheap := by
  unfold cheapestSet Sj14.Yard.cheap Sj14.Yard.melts
  rw [foldl_filter']
  refine foldl_rel RelA _ _ _ _ _ rfl fun n hn b o hR => ?_
  have hn2 : n < 2 ^ (s.yard k).count := List.mem_range.mp hn
  have hw := wrong_alone_eq s k n _ (setOfN_bits s k n) (fun c hc => heavy_of (V c (pickP_mem hc)))
  have e : (s.yard k).right n = decide (wrongAlone (heap (setOfN s n)) (want s k) = 0) := by
    unfold Sj14.Yard.right
    rw [decide_eq_true hn2, hw, Bool.true_and]
    rw [Bool.eq_iff_iff]; simp
  unfold look1
  rw [e]
  by_cases h : wrongAlone (heap (setOfN s n)) (want s k) = 0
  · rw [if_pos h, if_pos (decide_eq_true h)]
    simp only [yard_price, yard_heavy, setOfN_bits]
    cases o with
    | none =>
      rw [take_none hR]
      exact same_new _ _ _
    | some x =>
      have S : Same5 b x.price x.heavy x.many x.set_ := hR
      rw [take_some S]
      show RelA _ (if _ then _ else _)
      by_cases c1 : (heap (setOfN s n)).cost < x.price ∨ ((heap (setOfN s n)).cost = x.price ∧ x.heavy < (heap (setOfN s n)).weight)
      · rw [if_pos c1, if_pos c1]; exact same_new _ _ _
      · rw [if_neg c1, if_neg c1]
        by_cases c2 : (heap (setOfN s n)).cost = x.price ∧ (heap (setOfN s n)).weight = x.heavy
        · rw [if_pos c2, if_pos c2]; exact same_more S _
        · rw [if_neg c2, if_neg c2]; exact hR
  · rw [if_neg h, if_neg (show ¬ decide (wrongAlone (heap (setOfN s n)) (want s k) = 0) = true from by simpa using h)]
    exact hR

/-! ### Each method answers as the specification's step -/
def stepOf (s : Sj16.Shop) (q : Sj16.Call) : Sj16.Shop × List Int := ((Sj16.step s q).1, (Sj16.step s q).2.v :: (Sj16.step s q).2.l)
theorem begins_law (s : Sj16.Shop) (h : Nat) : fin s (mBegins h) = stepOf s (.begins h) := by
  unfold mBegins stepOf Sj16.step
  by_cases c : h ≤ 200
  · rw [if_pos c]
    have c' : ¬ Sj14.HEAVY < h := by unfold Sj14.HEAVY; omega
    simp only [if_neg c']
    rfl
  · rw [if_neg c]
    have c' : Sj14.HEAVY < h := by unfold Sj14.HEAVY; omega
    simp only [if_pos c']
    rfl
theorem wants_ok (w : Wanted) : areWants w = false ↔ (Sj14.step Sj14.init (.begins w)).2.v < 0 := by
  unfold Sj14.step areWants bounds
  by_cases c : w.light < 1 ∨ w.heavy < w.light ∨ 1000 < w.heavy ∨ w.copperHigh < w.copperLow ∨ 1000 < w.copperHigh ∨ w.zincHigh < w.zincLow ∨ 1000 < w.zincHigh
  · simp only [if_pos c]
    refine ⟨fun _ => by decide, fun _ => ?_⟩
    by_cases c1 : (decide (1 ≤ w.light) && (decide (w.light ≤ w.heavy) && decide (w.heavy ≤ 1000))) = false
    · rw [if_pos c1]
    · rw [if_neg c1]
      have c1' : (decide (1 ≤ w.light) && (decide (w.light ≤ w.heavy) && decide (w.heavy ≤ 1000))) = true := by simpa using c1
      simp only [Bool.and_eq_true, decide_eq_true_eq] at c1'
      simp only [Bool.and_eq_false_iff, decide_eq_false_iff_not]
      omega
  · simp only [if_neg c]
    refine ⟨fun z => ?_, fun z => absurd z (by decide)⟩
    exfalso
    have c1 : (decide (1 ≤ w.light) && (decide (w.light ≤ w.heavy) && decide (w.heavy ≤ 1000))) = true := by
      simp only [Bool.and_eq_true, decide_eq_true_eq]; omega
    have c2 : ((decide (0 ≤ w.copperLow) && (decide (w.copperLow ≤ w.copperHigh) && decide (w.copperHigh ≤ 1000))) && (decide (0 ≤ w.zincLow) && (decide (w.zincLow ≤ w.zincHigh) && decide (w.zincHigh ≤ 1000)))) = true := by
      simp only [Bool.and_eq_true, decide_eq_true_eq]; omega
    rw [c1, if_neg (by decide), c2] at z
    cases z
theorem want_law (s : Sj16.Shop) (k : Nat) (w : Wanted) : fin s (mWant s k w) = stepOf s (.wants k w) := by
  unfold mWant stepOf Sj16.step
  by_cases c : k < 2
  · have c' : ¬ 2 ≤ k := by omega
    rw [if_neg (show ¬ ¬ k < 2 from fun z => z c)]
    simp only [if_neg c']
    by_cases d : areWants w = false
    · rw [if_pos d]
      simp only [if_pos ((wants_ok w).mp d)]
      rfl
    · rw [if_neg d]
      simp only [if_neg (fun z => d ((wants_ok w).mpr z))]
      rfl
  · have c' : 2 ≤ k := by omega
    rw [if_pos c]
    simp only [if_pos c']
    rfl
theorem crate_ok (c : Crate) : isCrate c = false ↔ (Sj14.step Sj14.init (.crate c)).2.v < 0 := by
  have hc : ¬ Sj14.CRATES ≤ Sj14.init.count := by decide
  unfold Sj14.step isCrate
  by_cases d : c.heavy < 1 ∨ Sj14.HEAVY < c.heavy ∨ 1000 < c.copper + c.zinc ∨ Sj14.PRICE < c.price
  · simp only [if_pos d]
    refine ⟨fun _ => by decide, fun _ => ?_⟩
    unfold Sj14.HEAVY Sj14.PRICE at d
    simp only [Bool.and_eq_false_iff, decide_eq_false_iff_not]
    omega
  · simp only [if_neg d, if_neg hc]
    refine ⟨fun z => ?_, fun z => absurd z (by decide)⟩
    exfalso
    unfold Sj14.HEAVY Sj14.PRICE at d
    simp only [Bool.and_eq_false_iff, decide_eq_false_iff_not] at z
    omega
theorem crate_law (s : Sj16.Shop) (c : Crate) : fin s (mCrate s c) = stepOf s (.crate c) := by
  unfold mCrate stepOf Sj16.step
  by_cases d : isCrate c = false
  · rw [if_pos d]
    simp only [if_pos ((crate_ok c).mp d)]
    rfl
  · rw [if_neg d]
    simp only [if_neg (fun z => d ((crate_ok c).mpr z))]
    by_cases e : s.crates.length < 7
    · have e' : ¬ Sj16.CRATES ≤ s.count := by unfold Sj16.CRATES Sj16.Shop.count; omega
      rw [if_neg (show ¬ ¬ s.crates.length < 7 from fun z => z e)]
      simp only [if_neg e']
      rfl
    · have e' : Sj16.CRATES ≤ s.count := by unfold Sj16.CRATES Sj16.Shop.count; omega
      rw [if_pos e]
      simp only [if_pos e']
      rfl
theorem check_law {s : Sj16.Shop} (V : ∀ c ∈ s.crates, isCrate c = true) (k : Nat) (l : List Nat) : fin s (mCheck s k l) = stepOf s (.check k l) := by
  have ht : s.told l = (decide (l.length = s.crates.length) && l.all fun x => decide (x < 3)) := by
    unfold Sj16.Shop.told Sj16.Shop.count
    congr 1
  unfold mCheck stepOf Sj16.step
  by_cases c : k < 2 ∧ l.length = s.crates.length
  · rw [if_neg (fun z => z c)]
    by_cases d : (l.all fun x => decide (x < 3)) = false
    · rw [if_pos d]
      have q : 2 ≤ k ∨ s.told l = false := .inr (by rw [ht, d, Bool.and_false])
      simp only [if_pos q]
      rfl
    · rw [if_neg d]
      have d' : (l.all fun x => decide (x < 3)) = true := by simpa using d
      have q : ¬ (2 ≤ k ∨ s.told l = false) := by
        rw [ht, d', decide_eq_true c.2]
        intro z
        rcases z with z | z
        · omega
        · cases z
      have h3 : ∀ x ∈ l, x < 3 := fun x hx => of_decide_eq_true (List.all_eq_true.mp d' x hx)
      simp only [if_neg q, wrong_plan_eq V c.1 l, price_eq s h3, heavy_eq s h3]
      by_cases e : wrongPlan s k l = 0
      · rw [if_neg (fun z => z e), if_neg (fun z => z e)]
        rfl
      · rw [if_pos e, if_pos e]
        rfl
  · rw [if_pos c]
    have q : 2 ≤ k ∨ s.told l = false := by
      by_cases e : k < 2
      · refine .inr ?_
        rw [ht, decide_eq_false (fun z => c ⟨e, z⟩), Bool.false_and]
      · exact .inl (by omega)
    simp only [if_pos q]
    rfl
theorem cheap_law {s : Sj16.Shop} (V : ∀ c ∈ s.crates, isCrate c = true) : fin s (mCheap s) = stepOf s .cheap := by
  have R := cheapest_eq V
  unfold mCheap stepOf Sj16.step
  cases h : s.cheap with
  | none =>
    rw [h] at R
    have R' : (cheapest s).some = [] := R
    rw [R']
    rfl
  | some x =>
    rw [h] at R
    obtain ⟨⟨r, hr⟩, h1, h2, h3⟩ := (show Same5 (cheapest s) x.price x.heavy x.many x.row from R)
    rw [hr]
    show (s, told (cheapest s) ++ x.row.map (fun n : Nat => (n : Int))) = (s, (x.price : Int) :: Sj16.ints (x.heavy :: x.many :: x.row))
    unfold told
    rw [h1, h2, h3]
    rfl
theorem alone_law {s : Sj16.Shop} (V : ∀ c ∈ s.crates, isCrate c = true) (k : Nat) : fin s (mAlone s k) = stepOf s (.alone k) := by
  have R := cheapestSet_eq V k
  unfold mAlone stepOf Sj16.step
  by_cases c : k < 2
  · have c' : ¬ 2 ≤ k := by omega
    rw [if_neg (show ¬ ¬ k < 2 from fun z => z c)]
    simp only [if_neg c']
    cases h : (s.yard k).cheap with
    | none =>
      rw [h] at R
      have R' : (cheapestSet s k).some = [] := R
      rw [R']
      rfl
    | some x =>
      rw [h] at R
      obtain ⟨⟨r, hr⟩, h1, h2, h3⟩ := (show Same5 (cheapestSet s k) x.price x.heavy x.many x.set_ from R)
      rw [hr]
      show (s, told (cheapestSet s k) ++ [(x.set_ : Int)]) = (s, (x.price : Int) :: Sj16.ints [x.heavy, x.many, x.set_])
      unfold told
      rw [h1, h2, h3]
      rfl
  · have c' : 2 ≤ k := by omega
    rw [if_pos c]
    simp only [if_pos c']
    rfl
end Tm
/-! TmCalls: the calls' flat list, read as a row of places and numbers; what is answered. -/
namespace Tm
open Sj14 (Crate Wanted)

/-! ### One call of the mirror -/
def mCall (s : Sj16.Shop) (q : Nat × List Nat) : Out := match q with
  | (0, [h]) => mBegins h
  | (1, [k, a, b, c, d, e, f]) => mWant s k ⟨a, b, c, d, e, f⟩
  | (2, [h, c, z, p]) => mCrate s ⟨h, c, z, p⟩
  | (3, k :: r) => mCheck s k r
  | (4, []) => mCheap s
  | (5, [k]) => mAlone s k
  | _ => .error []
def okQ (q : Nat × List Nat) : Prop :=
  (∃ h, q = (0, [h])) ∨ (∃ k a b c d e f, q = (1, [k, a, b, c, d, e, f])) ∨ (∃ h c z p, q = (2, [h, c, z, p])) ∨ (∃ k r, q = (3, k :: r) ∧ r.length ≤ 10) ∨ q = (4, []) ∨ ∃ k, q = (5, [k])
def callIs : Nat × List Nat → List Int := fun q => (q.1 : Int) :: q.2.map fun n : Nat => (n : Int)
theorem toNat_map (l : List Nat) : (l.map fun n : Nat => (n : Int)).map Int.toNat = l := by
  rw [List.map_map]
  have e : (Int.toNat ∘ fun n : Nat => (n : Int)) = id := by funext n; exact Int.toNat_natCast n
  rw [e, List.map_id]
theorem callOf_is (q : Nat × List Nat) : Sj16Neutral.callOf (callIs q) = (match q.1 :: q.2 with
  | [0, h] => some (.begins h)
  | [1, k, a, b, c, d, e, f] => some (.wants k ⟨a, b, c, d, e, f⟩)
  | [2, h, c, z, p] => some (.crate ⟨h, c, z, p⟩)
  | 3 :: k :: r => if r.length ≤ 10 then some (.check k r) else none
  | [4] => some .cheap
  | [5, k] => some (.alone k)
  | _ => none) := by
  have e : (callIs q).map Int.toNat = q.1 :: q.2 := by
    unfold callIs
    rw [List.map_cons, toNat_map, Int.toNat_natCast]
  unfold Sj16Neutral.callOf
  rw [e]
  rfl
theorem step_law {s : Sj16.Shop} (V : ∀ c ∈ s.crates, isCrate c = true) {q : Nat × List Nat} (h : okQ q) : Sj16Neutral.step s [callIs q] = fin s (mCall s q) := by
  have go : ∀ c : Sj16.Call, Sj16Neutral.callOf (callIs q) = some c → Sj16Neutral.step s [callIs q] = stepOf s c := fun c hc => by
    unfold Sj16Neutral.step
    show (match Sj16Neutral.callOf (callIs q) with | none => _ | some c => _) = _
    rw [hc]
    rfl
  rcases h with ⟨h, rfl⟩ | ⟨k, a, b, c, d, e, f, rfl⟩ | ⟨h, c, z, p, rfl⟩ | ⟨k, r, rfl, hr⟩ | rfl | ⟨k, rfl⟩
  · rw [go (.begins h) (by rw [callOf_is]; rfl)]
    exact (begins_law s h).symm
  · rw [go (.wants k ⟨a, b, c, d, e, f⟩) (by rw [callOf_is]; rfl)]
    exact (want_law s k _).symm
  · rw [go (.crate ⟨h, c, z, p⟩) (by rw [callOf_is]; rfl)]
    exact (crate_law s _).symm
  · rw [go (.check k r) (by rw [callOf_is]; exact if_pos hr)]
    exact (check_law V k r).symm
  · rw [go .cheap (by rw [callOf_is]; rfl)]
    exact (cheap_law V).symm
  · rw [go (.alone k) (by rw [callOf_is]; rfl)]
    exact (alone_law V k).symm

/-! ### The yard stays what a yard may be -/
theorem valid_new {h : Nat} (hh : h ≤ 200) : Valid (newShop h) := ⟨hh, Nat.zero_le _, (fun c hc => by cases hc), rfl, rfl⟩
theorem valid_set {s : Sj16.Shop} (V : Valid s) (k : Nat) {w : Wanted} (hw : areWants w = true) : Valid (setWant s k w) := by
  unfold setWant
  split
  · exact ⟨V.heel, V.few, V.crates, hw, V.second⟩
  · exact ⟨V.heel, V.few, V.crates, V.first, hw⟩
theorem valid_more {s : Sj16.Shop} (V : Valid s) {c : Crate} (hc : isCrate c = true) (hl : s.crates.length < 7) : Valid { s with crates := s.crates ++ [c] } :=
  ⟨V.heel, by show (s.crates ++ [c]).length ≤ 7; rw [List.length_append]; exact hl, (fun d hd => by
    rcases List.mem_append.mp hd with z | z
    · exact V.crates d z
    · rw [List.mem_singleton] at z; subst z; exact hc), V.first, V.second⟩
theorem valid_call {s : Sj16.Shop} (V : Valid s) (q : Nat × List Nat) : Valid (fin s (mCall s q)).1 := by
  unfold mCall
  split
  · unfold mBegins; split
    · exact valid_new ‹_›
    · exact V
  · unfold mWant; split
    · exact V
    · split
      · exact V
      · exact valid_set V _ (by simpa using ‹¬ areWants _ = false›)
  · unfold mCrate; split
    · exact V
    · split
      · exact V
      · exact valid_more V (by simpa using ‹¬ isCrate _ = false›) (Decidable.not_not.mp ‹_›)
  · unfold mCheck
    repeat' split
    all_goals exact V
  · unfold mCheap; split <;> exact V
  · unfold mAlone; split
    · exact V
    · split <;> exact V
  · exact V

/-! ### The flat list -/
def flat1 (q : Nat × List Nat) : List Nat := q.1 :: q.2.length :: (q.2 ++ [0])
def flat : List (Nat × List Nat) → List Nat
  | [] => []
  | q :: r => flat1 q ++ flat r
def play : Sj16.Shop → List (Nat × List Nat) → List Int
  | _, [] => []
  | s, q :: r => ((fin s (mCall s q)).2.length : Int) :: ((fin s (mCall s q)).2 ++ play (fin s (mCall s q)).1 r)
theorem nat_of_within {lo hi : Nat} {z : Int} (h : PyInside.within (lo : Int) (hi : Int) z = true) : ∃ n : Nat, z = (n : Int) := by
  unfold PyInside.within at h
  simp only [Bool.and_eq_true, decide_eq_true_eq] at h
  exact ⟨z.toNat, by omega⟩
theorem nats_of : ∀ {l : List Int}, (∀ z ∈ l, ∃ n : Nat, z = (n : Int)) → ∃ ns : List Nat, l = ns.map fun n : Nat => (n : Int)
  | [], _ => ⟨[], rfl⟩
  | z :: l, h => by
    obtain ⟨n, e⟩ := h z List.mem_cons_self
    obtain ⟨ns, e2⟩ := nats_of fun y hy => h y (List.mem_cons_of_mem _ hy)
    exact ⟨n :: ns, by rw [e, e2]; rfl⟩
theorem each_nats : ∀ (b : List (Int × Int)) (l : List Int), (∀ p ∈ b, p.1 = 0) → PyInside.each b l = true → ∀ z ∈ l.take b.length, ∃ n : Nat, z = (n : Int)
  | [], _, _, _, z, hz => by simp at hz
  | _ :: _, [], _, _, z, hz => by simp at hz
  | (lo, hi) :: b, x :: l, h0, h, z, hz => by
    have h' : (PyInside.within lo hi x && PyInside.each b l) = true := h
    rw [Bool.and_eq_true] at h'
    have e0 : lo = 0 := h0 (lo, hi) List.mem_cons_self
    have hz' : z ∈ x :: l.take b.length := hz
    rcases List.mem_cons.mp hz' with e | e
    · subst e
      have q := h'.1
      unfold PyInside.within at q
      simp only [Bool.and_eq_true, decide_eq_true_eq] at q
      exact ⟨z.toNat, by omega⟩
    · exact each_nats b l (fun p hp => h0 p (List.mem_cons_of_mem _ hp)) h'.2 z e
/-- a call that fits: its place and its numbers, no rows -/
theorem fits_is {c : List (List Int)} (h : PySj16.fits c = true) : ∃ q, okQ q ∧ c = [callIs q] := by
  match c, h with
  | [], h => cases h
  | [] :: _, h => cases h
  | (p :: xs) :: rows, h =>
    have key : ∀ (a : List (Int × Int)) (m2 : Nat) (hi : Int), PySj16.form p = some (a, (0, m2, 0, hi), [], (0, 0, 0, 0, 0, 0, 0)) → (∀ b ∈ a, b.1 = 0) →
        rows = [] ∧ ∃ ns : List Nat, xs = (ns.map fun n : Nat => (n : Int)) ∧ a.length ≤ ns.length ∧ ns.length ≤ a.length + m2 := by
      intro a m2 hi hf h0
      unfold PySj16.fits at h
      simp only [hf] at h
      simp only [Bool.and_eq_true, decide_eq_true_eq, List.length_nil, Nat.sub_zero, List.drop_zero, List.take_length] at h
      obtain ⟨⟨⟨⟨⟨⟨⟨⟨⟨h1, h2⟩, h3⟩, h4⟩, h5⟩, h6⟩, h7⟩, h8⟩, h9⟩, h10⟩ := h
      refine ⟨List.length_eq_zero_iff.mp (by omega), ?_⟩
      obtain ⟨ns, e⟩ := nats_of (l := xs) fun z hz => by
        rw [← List.take_append_drop a.length xs] at hz
        rcases List.mem_append.mp hz with y | y
        · exact each_nats a xs h0 h2 z y
        · have q := List.all_eq_true.mp h5 z y
          unfold PyInside.within at q
          simp only [Bool.and_eq_true, decide_eq_true_eq] at q
          exact ⟨z.toNat, by omega⟩
      have hl : xs.length = ns.length := by rw [e, List.length_map]
      rw [List.length_drop] at h4
      exact ⟨ns, e, by omega, by omega⟩
    by_cases p0 : p = 0
    · subst p0
      obtain ⟨e, ns, e2, l1, l2⟩ := key _ 0 0 rfl (by decide)
      subst e
      match ns, l1, l2 with
      | [x], _, _ => exact ⟨(0, [x]), .inl ⟨x, rfl⟩, by rw [e2]; rfl⟩
      | [], l1, _ => exact absurd l1 (by decide)
      | _ :: _ :: _, _, l2 => exact absurd l2 (by simp)
    by_cases p1 : p = 1
    · subst p1
      obtain ⟨e, ns, e2, l1, l2⟩ := key _ 0 0 rfl (by decide)
      subst e
      match ns, l1, l2 with
      | [k, a, b, c, d, e, f], _, _ => exact ⟨(1, [k, a, b, c, d, e, f]), .inr (.inl ⟨k, a, b, c, d, e, f, rfl⟩), by rw [e2]; rfl⟩
      | [], l1, _ => exact absurd l1 (by decide)
      | [_], l1, _ => exact absurd l1 (by simp)
      | [_, _], l1, _ => exact absurd l1 (by simp)
      | [_, _, _], l1, _ => exact absurd l1 (by simp)
      | [_, _, _, _], l1, _ => exact absurd l1 (by simp)
      | [_, _, _, _, _], l1, _ => exact absurd l1 (by simp)
      | [_, _, _, _, _, _], l1, _ => exact absurd l1 (by simp)
      | _ :: _ :: _ :: _ :: _ :: _ :: _ :: _ :: _, _, l2 => exact absurd l2 (by simp)
    by_cases p2 : p = 2
    · subst p2
      obtain ⟨e, ns, e2, l1, l2⟩ := key _ 0 0 rfl (by decide)
      subst e
      match ns, l1, l2 with
      | [a, b, c, d], _, _ => exact ⟨(2, [a, b, c, d]), .inr (.inr (.inl ⟨a, b, c, d, rfl⟩)), by rw [e2]; rfl⟩
      | [], l1, _ => exact absurd l1 (by decide)
      | [_], l1, _ => exact absurd l1 (by simp)
      | [_, _], l1, _ => exact absurd l1 (by simp)
      | [_, _, _], l1, _ => exact absurd l1 (by simp)
      | _ :: _ :: _ :: _ :: _ :: _, _, l2 => exact absurd l2 (by simp)
    by_cases p3 : p = 3
    · subst p3
      obtain ⟨e, ns, e2, l1, l2⟩ := key _ 10 4294967295 rfl (by decide)
      subst e
      match ns, l1, l2 with
      | [], l1, _ => exact absurd l1 (by decide)
      | k :: r, _, l2 => exact ⟨(3, k :: r), .inr (.inr (.inr (.inl ⟨k, r, rfl, by simp at l2; omega⟩))), by rw [e2]; rfl⟩
    by_cases p4 : p = 4
    · subst p4
      obtain ⟨e, ns, e2, l1, l2⟩ := key _ 0 0 rfl (by decide)
      subst e
      match ns, l1, l2 with
      | [], _, _ => exact ⟨(4, []), .inr (.inr (.inr (.inr (.inl rfl)))), by rw [e2]; rfl⟩
      | _ :: _, _, l2 => exact absurd l2 (by simp)
    by_cases p5 : p = 5
    · subst p5
      obtain ⟨e, ns, e2, l1, l2⟩ := key _ 0 0 rfl (by decide)
      subst e
      match ns, l1, l2 with
      | [x], _, _ => exact ⟨(5, [x]), .inr (.inr (.inr (.inr (.inr ⟨x, rfl⟩)))), by rw [e2]; rfl⟩
      | [], l1, _ => exact absurd l1 (by decide)
      | _ :: _ :: _, _, l2 => exact absurd l2 (by simp)
    exfalso
    have hf : PySj16.form p = none := by
      unfold PySj16.form
      rw [if_neg p0, if_neg p1, if_neg p2, if_neg p3, if_neg p4, if_neg p5]
    unfold PySj16.fits at h
    simp only [hf] at h
    cases h
theorem qs_of : ∀ {cs : List (List (List Int))}, cs.all PySj16.fits = true → ∃ qs : List (Nat × List Nat), (∀ q ∈ qs, okQ q) ∧ cs = qs.map fun q => [callIs q]
  | [], _ => ⟨[], (fun q hq => by cases hq), rfl⟩
  | c :: cs, h => by
    rw [List.all_cons, Bool.and_eq_true] at h
    obtain ⟨q, hq, e⟩ := fits_is h.1
    obtain ⟨qs, hqs, e2⟩ := qs_of h.2
    exact ⟨q :: qs, (fun x hx => by
      rcases List.mem_cons.mp hx with z | z
      · rw [z]; exact hq
      · exact hqs x z), by rw [e, e2]; rfl⟩
theorem put_flat : ∀ qs : List (Nat × List Nat), PyWide.put (qs.map fun q => [callIs q]) = (flat qs).map fun n : Nat => (n : Int)
  | [] => rfl
  | q :: r => by
    have ih := put_flat r
    show PyWide.put1 [callIs q] ++ PyWide.put (r.map fun q => [callIs q]) = (flat1 q ++ flat r).map fun n : Nat => (n : Int)
    rw [ih, List.map_append]
    congr 1
    show (q.1 : Int) :: ((((q.2.map fun n : Nat => (n : Int)).length : Nat) : Int) :: (q.2.map fun n : Nat => (n : Int)) ++ [((0 : Nat) : Int)]) = (flat1 q).map fun n : Nat => (n : Int)
    unfold flat1
    rw [List.length_map, List.map_cons, List.map_cons, List.map_append]
    rfl
theorem told_play : ∀ (qs : List (Nat × List Nat)) (s : Sj16.Shop), Valid s → (∀ q ∈ qs, okQ q) → PyFlat.told (PyFlat.played Sj16Neutral.step s (qs.map fun q => [callIs q])) = play s qs
  | [], _, _, _ => rfl
  | q :: r, s, V, h => by
    have e := step_law V.crates (h q List.mem_cons_self)
    have ih := told_play r (fin s (mCall s q)).1 (valid_call V q) fun x hx => h x (List.mem_cons_of_mem _ hx)
    show PyFlat.told ((Sj16Neutral.step s [callIs q]).2 :: PyFlat.played Sj16Neutral.step (Sj16Neutral.step s [callIs q]).1 (r.map fun q => [callIs q])) = play s (q :: r)
    rw [e]
    show (((fin s (mCall s q)).2.length : Int) :: (fin s (mCall s q)).2) ++ PyFlat.told (PyFlat.played Sj16Neutral.step (fin s (mCall s q)).1 (r.map fun q => [callIs q])) = play s (q :: r)
    rw [ih]
    rfl
/-- what is asked, opened -/
theorem asked_opens {l : List Int} (h : PySj16.answers_asked l = true) : ∃ qs : List (Nat × List Nat), l = ((flat qs).map fun n : Nat => (n : Int)) ∧ (∀ q ∈ qs, okQ q) ∧ PySj16.answers l = play (newShop 0) qs ∧ (play (newShop 0) qs).length ≤ 10000000 := by
  unfold PySj16.answers_asked at h
  cases e : PySj16.calls l with
  | none =>
    simp only [e] at h
    cases h
  | some cs =>
    simp only [e] at h
    simp only [Bool.and_eq_true] at h
    obtain ⟨⟨⟨⟨_, hf⟩, _⟩, _⟩, hs⟩ := h
    obtain ⟨qs, hq, ec⟩ := qs_of hf
    have e1 : PyWide.calls l.length l = some cs := e
    obtain ⟨p1, _⟩ := PyWide.put_calls _ _ _ e1
    have e2 : PySj16.answers l = play (newShop 0) qs := by
      unfold PySj16.answers
      simp only [e]
      rw [ec]
      exact told_play qs (newShop 0) (valid_new (Nat.zero_le _)) hq
    refine ⟨qs, by rw [p1, ec]; exact put_flat qs, hq, e2, ?_⟩
    unfold PyFlat.short at hs
    rw [e2] at hs
    exact of_decide_eq_true hs
end Tm
set_option maxRecDepth 100000
set_option maxHeartbeats 4000000
/-! TmBase: the error's class (turned from the guide's skeleton 42), the text by its places, the heap's forms, what the top has written. -/
namespace PySem
namespace RefX
open PySem.W PySem.Calls PyProof.Rows PySem.HandSPX
/-! ### the text of __init__ -/
def iA (p1 p2 : Pos) : Arguments := { posonlyargs := [], args := [{ arg := "self", annotation := none, pos := p1 }, { arg := "numbers", annotation := none, pos := p2 }], vararg := none, kwonlyargs := [], kw_defaults := [], kwarg := none, defaults := [] }
def iB (q1 q2 q3 q4 : Pos) : List Stmt := [.Assign [.Attribute (.Name "self" q1) "numbers" q2] (.Name "numbers" q3) q4]
def iS : Scope := { kind := .function, names := [(PySem.Str.ofString "self", .local), (PySem.Str.ofString "numbers", .local)], isGenerator := false, isCoroutine := false, more := [] }
/-- what the written part says of Low, at C, and of its __init__, at fI -/
structure RefTxt (K : Frag) (mg : Str → Option Value) (C fI : Addr) : Prop where
  gC : mg "Refused" = some (.ref C)
  cls : ∃ nm q N bs bm sn sub ab col dd k0 k1 k2 k3 k5, K.lookup C = some (excClassObj nm q C N bs bm true sn sub ab col dd k0 k1 k2 k3 k5 "ValueError.__new__") ∧ refsVE bm = true
  sa : findIn K (.ref C) "__setattr__" = some (some (.builtin "object.__setattr__"))
  ga : findIn K (.ref C) "__getattribute__" = some (some (.builtin "BaseException.__getattribute__"))
  gg : findIn K (.ref C) "__getattr__" = some none
  noN : findIn K (.ref C) "numbers" = some none
  iC : findIn K (.ref C) "__init__" = some (some (.ref fI))
  tC : typeIn K (.ref fI) = some (.type "function")
  kC : keepIn K (.ref C) = true
  exC : subIn K (.ref C) (.type "BaseException") = some true
  tyC : typeIn K (.ref C) = some (.type "type")
  hdC : hasDictIn K C = true
  te : exmOne K (.ref C) (.ref C) = some true
  fn : ∃ (oc : Value) (od : Option Addr) (doc pm : Value) (an : Option Addr) (cdv ct : Value) (osl : Array (Option Value)) (p1 p2 q1 q2 q3 q4 : Pos),
    K.lookup fI = some ⟨oc, od, .func (fnOf "__init__" "Refused.__init__" (iA p1 p2) (iB q1 q2 q3 q4) iS .none .none doc pm an cdv ct), osl⟩ ∧ codeIn K cdv "Refused.__init__" = true
theorem one_size (v : Value) : [v].length ≤ sizeLine := by
  rw [sizeLine_eq]
  exact (by decide : 1 ≤ 16777216)
theorem kept_but {K : Frag} {h h' : Heap} {x : Addr} (X : K.In h) (hx : K.lookup x = none) (k : ∀ b o, b ≠ x → h.get? b = some o → h'.get? b = some o) : K.In h' := fun a o e =>
  k a o (fun z => by rw [z, hx] at e; cases e) (X a o e)
theorem ldC {M : Model} {s : Shared} {name : Str} {scope : Scope} {L a : Addr} {cd : Value} {m : Str → Option Value} {x : Str} {pos : Pos} {v : Value} {Q : Value → Shared → Prop} {A : Around} {E : Value → Shared → Prop} (hn : s.heap.Ns L m) (hv : m x = some v) (h : Q v s)
    (hk : scope.kind = .function := by rfl) (hl : (envOfC name scope L a cd).kindOf x = some .local := by rfl) (hd : (x == ("__debug__" : Str)) = false := by decide) :
    wpAny M A (eval (.Name x pos) (envOfC name scope L a cd)) Q E s := wpAny_Name (wpAny_loadName_local hk hl hn hv h) hd
/-- what __init__ leaves of a fresh exception at x -/
structure InitEnd (h h' : Heap) (x C dx t1 : Addr) (v : Value) : Prop where
  keep : ∀ b o, b ≠ x → h.get? b = some o → h'.get? b = some o
  obj : h'.get? x = some { cls := .ref C, dict := some dx, data := .fields #[.ref t1, .none, .none, .none, .bool false, .none] }
  dbig : h.objs.size ≤ dx
  dne : dx ≠ x
  ns : h'.Ns1 dx (fun y => if y = "numbers" then some v else none)
/-- a made Low -/
structure OwnMade (h h' : Heap) (e C d : Addr) (v : Value) : Prop where
  keep : ∀ b o, h.get? b = some o → h'.get? b = some o
  new : h.objs.size ≤ e
  obj : ∃ oe vs, h'.get? e = some oe ∧ oe.cls = .ref C ∧ oe.dict = some d ∧ oe.data = .fields vs ∧ vs[1]? = some .none
  dbig : h.objs.size ≤ d
  dne : d ≠ e
  ns : h'.Ns1 d (fun y => if y = "numbers" then some v else none)
section
variable {prog : Program} {w : World} {A : Around} {E : Value → Shared → Prop} {R : Result → Shared → Prop} {s : Shared} {K : Frag} {mg : Str → Option Value} {C fI : Addr}
theorem ref_init (T : RefTxt K mg C fI) {x t0 : Addr} {v : Value} (X : K.In s.heap) (hlim : s.heap.NoLimit) (hx : s.heap.get? x = some (excO C t0)) (hnx : K.lookup x = none) (hroom : A.depth < recursionLimit)
    (hq : ∀ h' tk dx, InitEnd s.heap h' x C dx t0 v → R (.ok (.ret .none)) { s with heap := h', toks := tk }) :
    codeAny (model prog w) A (.call (.ref fI) ⟨[.ref x, v], []⟩) R s := by
  obtain ⟨oc, od, doc, pm, an, cdv, ct, osl, p1, p2, q1, q2, q3, q4, ho, hcd⟩ := T.fn
  obtain ⟨nm, q, N, bs, bm, sn, sub, ab, col, dd, k0, k1, k2, k3, k5, hC, hbm⟩ := T.cls
  have hcl : clsIn K C = some { name := nm, bases := bs, mro := .ref C :: bm, ns := N, qualname := q, hasDict := true, slotNames := sn, subclasses := sub, abstract := ab, collection := col, hasDel := false } := by unfold clsIn; rw [hC] <;> rfl
  refine Att.call_fn (binds := [("self", .ref x), ("numbers", v)]) X hlim ho hcd hroom (BindsTo.of_eq (by first | rfl | with_unfolding_all rfl)) (by first | rfl | decide | with_unfolding_all rfl) (fun s₁ IC => ?_) rfl rfl rfl
  obtain ⟨h₁, tk₁, rfl⟩ := IC.toInCall.same
  have k : ∀ b o, s.heap.get? b = some o → h₁.get? b = some o := IC.toInCall.keep
  have hn := IC.toInCall.ns
  have hxL : s.heap.objs.size ≠ x := Nat.ne_of_gt (Heap.lt_size hx)
  have X₁ : K.In h₁ := X.keeps k
  have hx₁ := k _ _ hx
  -- self.by = by
  show wpAny _ _ (execs _ _) _ _ _
  refine wpAny_execs_cons (plainObj_wpAny_Assign_Attribute ?_)
  refine ldC (v := v) hn (by first | rfl | with_unfolding_all rfl | kernel_rfl) (ldC (v := .ref x) hn (by first | rfl | with_unfolding_all rfl | kernel_rfl) ?_)
  refine set_plain X₁ (ox := excO C t0) (od := none) ⟨hx₁, rfl, rfl, trivial⟩ T.sa ?_
  refine exc_osa X₁ hx₁ hcl (show refsVE (.ref C :: bm) = true from hbm) rfl T.noN (fun h₃ tk₃ dx k₃ dn dne hx₃ hn₃ => ?_)
  show wpAny _ _ (execs _ _) _ _ _
  have z : s.heap.objs.size < h₁.objs.size := hn.lt
  exact wpAny_execs_nil (hq h₃ tk₃ dx ⟨fun b o hb e => k₃ b o hb (k b o e), hx₃, Nat.le_of_lt (Nat.lt_of_lt_of_le z dn), dne, hn₃⟩)
theorem ref_made (T : RefTxt K mg C fI) {v : Value} (X : K.In s.heap) (hlim : s.heap.NoLimit) (hroom : A.depth + 1 < recursionLimit)
    (hq : ∀ h' tk e d, OwnMade s.heap h' e C d v → R (.ok (.ret (.ref e))) { s with heap := h', toks := tk }) :
    codeAny (model prog w) A (.call (.ref C) ⟨[v], []⟩) R s := by
  obtain ⟨nm, q, N, bs, bm, sn, sub, ab, col, dd, k0, k1, k2, k3, k5, hC, hbm⟩ := T.cls
  obtain ⟨hp, g, dr, tk, os⟩ := s
  have k : ∀ b o, hp.get? b = some o → ((hp.push (kdv_tup [v])).push (excO C hp.objs.size)).get? b = some o := fun b o e => Heap.get?_push_of_some _ (Heap.get?_push_of_some _ e)
  have hget : ((hp.push (kdv_tup [v])).push (excO C hp.objs.size)).get? (hp.objs.size + 1) = some (excO C hp.objs.size) := by heap_get
  have hnx : K.lookup (hp.objs.size + 1) = none := by
    cases e : K.lookup (hp.objs.size + 1) with
    | none => rfl
    | some o =>
      have z : hp.get? (hp.objs.size + 1) = some o := X _ _ e
      exact absurd (Nat.lt_of_succ_lt (Heap.lt_size z)) (Nat.lt_irrefl _)
  refine call_own F.excBase_ValueError (fun X => refsVE_contains X bm hbm) (X _ _ hC) (looks_findIn X T.iC) (fun self => bind_fn X self T.tC) (one_size v) ?_
  refine ref_init (s := ⟨(hp.push (kdv_tup [v])).push (excO C hp.objs.size), g, dr, tk, os⟩) T (X.keeps k) (hlim.keeps k) hget hnx ?_ fun h' tk' dx ⟨k', hx, dn, dne, hns⟩ => ?_
  · show A.depth + 1 < recursionLimit
    exact hroom
  · have old : ∀ b o, hp.get? b = some o → h'.get? b = some o := fun b o e => k' b o (Nat.ne_of_lt (Nat.lt_succ_of_lt (Heap.lt_size e))) (k b o e)
    have z : hp.objs.size + 1 + 1 ≤ dx := by
      first
        | (simpa only [Heap.size_push] using dn)
        | exact dn
        | (have q := dn; rw [Heap.size_push, Heap.size_push] at q; exact q)
    exact ⟨rfl, hq h' tk' (hp.objs.size + 1) dx ⟨old, Nat.le_succ _, ⟨_, _, hx, rfl, rfl, rfl, rfl⟩, Nat.le_trans (Nat.le_trans (Nat.le_succ _) (Nat.le_succ _)) z, dne, hns⟩⟩
end
end RefX
end PySem
namespace L2
open PySem PySem.Spec PyProof.Rows
theorem relO_ref {v : V} {v' : Value} (r : RelV v v') (f : Str) : RelO (List.lookup f [(("numbers" : Str), v)]) (if f = "numbers" then some v' else none) := by
  by_cases hw : f = "numbers"
  · subst hw
    rw [if_pos rfl]
    have q : List.lookup ("numbers" : Str) [(("numbers" : Str), v)] = some v := by simp [List.lookup]
    rw [q]
    exact r
  · rw [if_neg hw]
    have qw : (f == ("numbers" : Str)) = false := by simpa using hw
    have q2 : List.lookup f [(("numbers" : Str), v)] = none := by simp [List.lookup, qw]
    rw [q2]
    trivial
section
variable {X : Cx} {C fI : Addr}
/-- Low(e) -/
def tMkRef (C : Addr) (ta : TA) : St → Hp → XK → Prop := fun σ H Q => ta σ H fun vs H1 => ∃ v, vs = [v] ∧ ∀ d, H1 d = none → Q (.ref C) (some d) (upd H1 d (.xd [(("numbers" : Str), v)]))
theorem pmk_ref {a : Expr} {ta : TA} {p pos : Pos} {k : Nat} (T : PySem.RefX.RefTxt X.K X.mg C fI) (hr : Room k X.A) (ha : PA X [a] ta) (hg : Gl X "Refused" := by rfl)
    (he : starEach (a :: []) X.env = (false, eval a X.env) :: starEach [] X.env := by rfl) (hpl : (backTo pos (starEach [] X.env)).any (·.1) = false := by rfl) :
    PMk X (.Call (.Name "Refused" p) [a] [] pos) (tMkRef C ta) := by
  intro pins s σ H Q I h
  refine wpAny_Call_Name_kw (ld_glob I hg T.gC ?_)
  refine PySem.W.callWith_K (h₀ := X.base) I.ok.mod.kin T.kC (thn (ha.run pos pins s σ H _ I h) fun us s1 hh => ?_) he hpl
  obtain ⟨vs, H1, I1, r1, v, ev, q1⟩ := hh
  subst ev
  refine ⟨I1.kIn, ?_⟩
  cases r1 with
  | cons rv rn =>
    rename_i v' us'
    cases rn
    show wpAny _ _ (call (.ref C) [v']) _ _ _
    have hlim := I1.nolimit
    obtain ⟨hp, g, dr, tk, os⟩ := s1
    refine wpAny_call (PySem.RefX.ref_made T I1.kIn hlim (by have := hr.dp; omega) fun h' tk' e d M => ?_)
    show MkP X pins σ Q (.ref e) ⟨h', g, dr, tk', os⟩
    obtain ⟨oe, fv, hoe, hc, hd, hdat, h1⟩ := M.obj
    have hns := M.ns
    obtain ⟨G', g1, g2⟩ := restrict h' fun b => decide (b ≠ e)
    have gk : ∀ b, b ≠ e → G'.get? b = h'.get? b := fun b hb => g1 b (decide_eq_true hb)
    have ge : G'.get? e = none := g2 e (by simp)
    have old : ∀ b o, hp.get? b = some o → G'.get? b = some o := fun b o q => (gk b (Nat.ne_of_lt (Nat.lt_of_lt_of_le (Heap.lt_size q) M.new))).trans (M.keep b o q)
    have ob : ObjOk X.prog X.w (upd H1 d (.xd [(("numbers" : Str), v)])) G' d (.xd [(("numbers" : Str), v)]) :=
      ⟨_, hns.at (fun o q => (gk d M.dne).trans q), fun f => relO_ref rv f⟩
    have J : Inv X pins σ (upd H1 d (.xd [(("numbers" : Str), v)])) ⟨G', g, dr, tk', os⟩ := I1.laid (t' := tk') old M.dbig ob
    refine ⟨e, oe, fv, ⟨G', g, dr, tk', os⟩, _, .ref C, some d, rfl, J, fun b o q => ?_, ge, hoe, ⟨hc, hd⟩, hdat, h1, ?_, rfl, I1.bare, raises_own T.exC T.tyC, q1 d (I1.hok.fresh M.dbig)⟩
    · by_cases hb : b = e
      · have q' : G'.get? b = some o := q
        rw [hb, ge] at q'; cases q'
      · exact (gk b hb).symm.trans q
    · rw [upd_ne (Ne.symm M.dne)]
      exact I1.hok.fresh M.new
/-- raise Low(e) -/
def tRaiseRef (C : Addr) (W : WX) (ta : TA) : TS := fun _ σ H => tMkRef C ta σ H fun cls d H' => W cls d σ H'
theorem ps_raiseRef {a : Expr} {ta : TA} {W : WX} {p pos pos2 : Pos} {k : Nat} (hc : X.calm = true) (T : PySem.RefX.RefTxt X.K X.mg C fI) (hr : Room k X.A) (tk : Takes X W) (ha : PA X [a] ta) (hg : Gl X "Refused" := by rfl)
    (he : starEach (a :: []) X.env = (false, eval a X.env) :: starEach [] X.env := by rfl) (hpl : (backTo pos (starEach [] X.env)).any (·.1) = false := by rfl) :
    PS X (.Raise (some (.Call (.Name "Refused" p) [a] [] pos)) none pos2) (tRaiseRef C W ta) := ps_raise hc tk (pmk_ref T hr ha hg he hpl)
/-- low.by, low the exception that the suite holds (at a; its class cls, its dict d) -/
def tNumbers (C : Addr) (a : Addr) (cls : Value) (d : Option Addr) (te : TE) : TE := fun σ H Q => te σ H fun x H1 => x = .ref a ∧ cls = .ref C ∧ ∃ (dd : Addr) (v : V), d = some dd ∧ H1 dd = some (.xd [(("numbers" : Str), v)]) ∧ Q v H1
theorem pe_numbers {a : Addr} {oe : Obj} {cls : Value} {d : Option Addr} {pn : List (Addr × Obj)} {e : Expr} {te : TE} {pos : Pos} (T : PySem.RefX.RefTxt X.K X.mg C fI) (hz : Zc cls d oe) (hf : ∃ vs, oe.data = .fields vs) (he : PE (X.suite a ((a, oe) :: pn)) e te)
    (hb : attributeBase e "numbers" X.env (eval e X.env) = eval e X.env := by rfl) :
    PE (X.suite a ((a, oe) :: pn)) (.Attribute e "numbers" pos) (tNumbers C a cls d te) := by
  refine ⟨fun pins s σ H Q I h => ?_⟩
  refine attr_of hb (thn (he.run pins s σ H _ I h) fun u s1 hh => ?_)
  obtain ⟨x, H1, I1, rx, ex, ec, dd, v, ed, ea, q⟩ := hh
  subst ex
  obtain rfl : u = Value.ref a := rx
  subst ec
  subst ed
  obtain ⟨ha, _⟩ := I1.pin (a, oe) (List.mem_append_left _ List.mem_cons_self)
  obtain ⟨vs, hd⟩ := hf
  have hx : ObjOk X.prog X.w H1 s1.heap dd (.xd [(("numbers" : Str), v)]) := I1.hok dd _ ea
  obtain ⟨mA, hns, hr⟩ := hx
  obtain ⟨od, ho, hl⟩ := lookIn_ns hns
  have l : List.lookup ("numbers" : Str) [(("numbers" : Str), v)] = some v := by simp [List.lookup]
  obtain ⟨u, hu, ru⟩ := RelO.some_of (v := v) (o := mA "numbers") (by rw [← l]; exact hr "numbers")
  have J : PySem.W.InstAt s1.heap a oe C (some od) := ⟨ha, hz.1, by unfold PySem.W.notCls; rw [hd] <;> rfl, by rw [hz.2]; exact ho⟩
  exact HandSPX.exc_get I1.kIn J T.ga T.gg T.exC (PySem.W.findObj_own T.hdC T.noN rfl (by rw [hl, hu])) (handed_of ru) ⟨v, H1, I1.tok _, ru, q⟩
end
end L2

namespace L2
open PySem PySem.Spec PyProof.Rows
/-- an if whose test is known -/
theorem if_true_of {c : Bool} {A B : Prop} (hc : c = true) (h : A) : if c = true then A else B := by
  rw [if_pos hc]
  exact h
theorem if_false_of {c : Bool} {A B : Prop} (hc : c = false) (h : B) : if c = true then A else B := by
  rw [hc, if_neg Bool.false_ne_true]
  exact h
end L2
namespace L2
open PySem PySem.Spec PyProof.Rows
/-- o.m(e, ..) within a try: what it raises is wished for at the slots as they stand (the guide's skeleton 30) -/
def tMethS (C : Addr) (m : Str) (sp : Sp) (E : L2.St → XK) (ta : TE) (t : TA) : TE := fun σ H Q => ta σ H fun x H1 => ∃ a dx fs, x = .ref a ∧ H1 a = some (.ins C dx fs) ∧ fs.lookup m = none ∧ t σ H1 fun vs H2 => sp (x :: vs) H2 Q (E σ)
theorem pe_methE {X : Cx} {CX : CXT} {k : Nat} {f C : Addr} {fd : FuncData} {ps : List Str} {sp : Sp} {E : L2.St → XK} {m : Str} {pos apos : Pos} {e o : Expr} {es : List Expr} {ta : TE} {t : TA} {pl : Sem Bool} (he : PE X o ta) (c : Cls X.K C) (hm : Meth X.K C m f)
    (F : FnOk X.prog X.w X.K X.mg X.base CX k f fd ps sp) (hr : Room k X.A) (hb : Binds X.K fd ps []) (hx : ∀ σ, PassesAt CX X σ (E σ)) (ha : PA X (e :: es) t)
    (hst : starEach (e :: es) X.env = (false, eval e X.env) :: starEach es X.env := by rfl) (hpl : (backTo pos (starEach es X.env)).any (·.1) = false := by rfl)
    (ht : eval (.Call (.Attribute o m apos) (e :: es) [] pos) X.env = (do
      let ov ← eval o X.env
      standAt apos.atName
      let (f, first) ← holding [ov] (getMethod ov m pl)
      callWith pos f first (backTo pos (starEach (e :: es) X.env)) (backToKw pos (keywordEach [] X.env))) := by rfl) :
    PE X (.Call (.Attribute o m apos) (e :: es) [] pos) (tMethS C m sp E ta t) := by
  refine ⟨fun pins s σ H Q I h => ?_⟩
  refine PySem.W.methodCall_KW (pl := pl) (thn (he.run pins s σ H _ I h) fun u s1 ⟨x, H1, I1, rx, a, dx, fs, ex, ea, l, q⟩ => ?_) ht
  subst ex
  obtain rfl : u = Value.ref a := rx
  refine getmeth_ok I1 ea c hm l ?_
  refine PySem.W.callWith_K (first := [.ref a]) (h₀ := X.base) I.ok.mod.kin hm.kp (thn (ha.run pos pins s1 σ H1 _ I1 q) fun us s2 ⟨vs, H2, I2, r, q2⟩ => ⟨I2.kIn, ?_⟩) hst hpl
  exact run_fnS (us := .ref a :: us) (vs := .ref a :: vs) F hr hb (hx σ) I2 (.cons rfl r) q2
end L2
/-! TmBase: the text by its places, how things lie in the heap, what the top has written. -/
namespace Tm
open PySem PySem.Spec PyProof.Rows L2
open Sj14 (Crate Wanted)
/-! ### The text -/
def top (i : Nat) : Stmt := PySem.Challenge.pw_twomelts_s01_answers.main.body.getD i (.Pass ⟨0, 0, 0, 0⟩)
abbrev sCrateI : Stmt := inClass (top 1) 0
abbrev sHeapI : Stmt := inClass (top 2) 0
abbrev sHeapOf : Stmt := top 3
abbrev sHeapNot : Stmt := top 4
abbrev sWantedI : Stmt := inClass (top 9) 0
abbrev sLies : Stmt := top 10
abbrev sIsShare : Stmt := top 11
abbrev sHeavyRight : Stmt := top 12
abbrev sWrongAlone : Stmt := top 13
abbrev sMixed : Stmt := top 14
abbrev sWrongBehind : Stmt := top 15
abbrev sWrongBoth : Stmt := top 16
abbrev sYardI : Stmt := inClass (top 20) 0
abbrev sBestI : Stmt := inClass (top 21) 0
abbrev sTake : Stmt := inClass (top 21) 1
abbrev sTold : Stmt := inClass (top 21) 2
abbrev sWrongPlan : Stmt := top 22
abbrev sShares : Stmt := top 23
abbrev sCheapest : Stmt := top 24
abbrev sCratesOf : Stmt := top 26
abbrev sCheapestSet : Stmt := top 27
abbrev sMust : Stmt := top 36
abbrev sNewYard : Stmt := top 37
abbrev sBounds : Stmt := top 38
abbrev sAreWants : Stmt := top 39
abbrev sIsCrate : Stmt := top 40
abbrev sDeskI : Stmt := inClass (top 41) 0
abbrev sBegins : Stmt := inClass (top 41) 1
abbrev sWant : Stmt := inClass (top 41) 2
abbrev sCrateM : Stmt := inClass (top 41) 3
abbrev sCheck : Stmt := inClass (top 41) 4
abbrev sCheap : Stmt := inClass (top 41) 5
abbrev sAlone : Stmt := inClass (top 41) 6
abbrev sAnswered : Stmt := inClass (top 41) 7
abbrev sCalled : Stmt := inClass (top 41) 8
abbrev sBehind : Stmt := top 42
abbrev sAnswers : Stmt := top 43

/-! ### The addresses that the top has given out -/
structure Adr where
  (cCrate cHeap cWanted cYard cBest cRef cDesk : Addr)
  (iCrate iHeap iWanted iYard iBest iRef iDesk : Addr)
  (take told begins want crate check cheap alone answered called : Addr)
  (heapOf heapNot lies isShare heavyRight wrongAlone mixed wrongBehind wrongBoth wrongPlan shares cheapest cratesOf cheapestSet must newYard bounds areWants isCrate behind answers : Addr)
/-- a def as it stands -/
def DefT (K : PySem.W.Frag) (x qual : Str) (st : Stmt) (ps : List Str) (f : Addr) : Prop := ∃ fd, Fun K x qual st f fd ∧ Binds K fd ps []
/-- a def of the module -/
structure GDef (K : PySem.W.Frag) (mg : Str → Option Value) (x : Str) (st : Stmt) (ps : List Str) (f : Addr) : Prop where
  d : DefT K x x st ps f
  g : mg x = some (.ref f)
  k : PySem.W.keepIn K (.ref f) = true
/-- a class of the module and its __init__ -/
structure ClsT (K : PySem.W.Frag) (mg : Str → Option Value) (x : Str) (st : Stmt) (ps : List Str) (C fI : Addr) (qual : Str) : Prop where
  cl : Cls K C
  g : mg x = some (.ref C)
  m : Mk K C fI
  d : DefT K "__init__" qual st ps fI
structure MethT (K : PySem.W.Frag) (C : Addr) (x qual : Str) (st : Stmt) (ps : List Str) (f : Addr) : Prop where
  m : Meth K C x f
  d : DefT K x qual st ps f
/-- what the top has written -/
structure Txt (K : PySem.W.Frag) (mg : Str → Option Value) (A : Adr) : Prop where
  ref : PySem.RefX.RefTxt K mg A.cRef A.iRef
  crateC : ClsT K mg "Crate" sCrateI ["self", "heavy", "copper", "zinc", "price"] A.cCrate A.iCrate "Crate.__init__"
  heapC : ClsT K mg "Heap" sHeapI ["self", "crates"] A.cHeap A.iHeap "Heap.__init__"
  wantedC : ClsT K mg "Wanted" sWantedI ["self", "numbers"] A.cWanted A.iWanted "Wanted.__init__"
  yardC : ClsT K mg "Yard" sYardI ["self", "crates", "wants", "stays"] A.cYard A.iYard "Yard.__init__"
  bestC : ClsT K mg "Best" sBestI ["self"] A.cBest A.iBest "Best.__init__"
  deskC : ClsT K mg "Desk" sDeskI ["self"] A.cDesk A.iDesk "Desk.__init__"
  cr_heavy : NoAttr K A.cCrate "heavy"
  cr_copper : NoAttr K A.cCrate "copper"
  cr_zinc : NoAttr K A.cCrate "zinc"
  cr_price : NoAttr K A.cCrate "price"
  he_many : NoAttr K A.cHeap "many"
  he_weight : NoAttr K A.cHeap "weight"
  he_copper : NoAttr K A.cHeap "copper"
  he_zinc : NoAttr K A.cHeap "zinc"
  he_cost : NoAttr K A.cHeap "cost"
  wa_heavy : NoAttr K A.cWanted "heavy"
  wa_copper : NoAttr K A.cWanted "copper"
  wa_zinc : NoAttr K A.cWanted "zinc"
  ya_crates : NoAttr K A.cYard "crates"
  ya_wants : NoAttr K A.cYard "wants"
  ya_stays : NoAttr K A.cYard "stays"
  be_some : NoAttr K A.cBest "some"
  be_cost : NoAttr K A.cBest "cost"
  be_weight : NoAttr K A.cBest "weight"
  de_yard : NoAttr K A.cDesk "yard"
  takeM : MethT K A.cBest "take" "Best.take" sTake ["self", "cost", "weight", "thing"] A.take
  toldM : MethT K A.cBest "told" "Best.told" sTold ["self"] A.told
  beginsM : MethT K A.cDesk "begins" "Desk.begins" sBegins ["self", "stays"] A.begins
  wantM : MethT K A.cDesk "want" "Desk.want" sWant ["self", "melt", "numbers"] A.want
  crateM : MethT K A.cDesk "crate" "Desk.crate" sCrateM ["self", "numbers"] A.crate
  checkM : MethT K A.cDesk "check" "Desk.check" sCheck ["self", "first", "share"] A.check
  cheapM : MethT K A.cDesk "cheap" "Desk.cheap" sCheap ["self"] A.cheap
  aloneM : MethT K A.cDesk "alone" "Desk.alone" sAlone ["self", "melt"] A.alone
  answeredM : MethT K A.cDesk "answered" "Desk.answered" sAnswered ["self", "place", "numbers"] A.answered
  calledM : MethT K A.cDesk "called" "Desk.called" sCalled ["self", "place", "numbers"] A.called
  heapOf : GDef K mg "heap_of" sHeapOf ["crates", "share", "mark"] A.heapOf
  heapNot : GDef K mg "heap_not_left" sHeapNot ["crates", "share"] A.heapNot
  lies : GDef K mg "lies_between" sLies ["number", "bounds"] A.lies
  isShare : GDef K mg "is_share_between" sIsShare ["part", "whole", "bounds"] A.isShare
  heavyRight : GDef K mg "is_heavy_right" sHeavyRight ["heap", "wanted"] A.heavyRight
  wrongAlone : GDef K mg "wrong_alone" sWrongAlone ["heap", "wanted"] A.wrongAlone
  mixed : GDef K mg "mixed" sMixed ["second", "stayed", "first", "weight"] A.mixed
  wrongBehind : GDef K mg "wrong_behind" sWrongBehind ["heap", "wanted", "first", "stays"] A.wrongBehind
  wrongBoth : GDef K mg "wrong_both" sWrongBoth ["first", "second", "wants", "stays"] A.wrongBoth
  wrongPlan : GDef K mg "wrong_plan" sWrongPlan ["yard", "first", "share"] A.wrongPlan
  shares : GDef K mg "shares" sShares ["many"] A.shares
  cheapest : GDef K mg "cheapest" sCheapest ["yard"] A.cheapest
  cratesOf : GDef K mg "crates_of" sCratesOf ["crates", "number"] A.cratesOf
  cheapestSet : GDef K mg "cheapest_set" sCheapestSet ["yard", "melt"] A.cheapestSet
  must : GDef K mg "must" sMust ["so", "numbers"] A.must
  newYard : GDef K mg "new_yard" sNewYard ["stays"] A.newYard
  bounds : GDef K mg "are_bounds" sBounds ["least", "most", "low", "high"] A.bounds
  areWants : GDef K mg "are_wants" sAreWants ["numbers"] A.areWants
  isCrate : GDef K mg "is_crate" sIsCrate ["heavy", "copper", "zinc", "price"] A.isCrate
  behind : GDef K mg "behind_lists" sBehind ["calls", "at"] A.behind
  answers : GDef K mg "answers" sAnswers ["calls"] A.answers
  len : mg "len" = none
  sum : mg "sum" = none
  zip : mg "zip" = none
  enum : mg "enumerate" = none
  range : mg "range" = none
  all : mg "all" = none
  c_MOST_WEIGHT : ∃ t, mg "MOST_WEIGHT" = some (.int 1000 t)
  c_MOST_SHARE : ∃ t, mg "MOST_SHARE" = some (.int 1000 t)
  c_FINE : ∃ t, mg "FINE" = some (.int 0 t)
  c_MELTS : ∃ t, mg "MELTS" = some (.int 2 t)
  c_MARKS : ∃ t, mg "MARKS" = some (.int 3 t)
  c_MOST_STAYS : ∃ t, mg "MOST_STAYS" = some (.int 200 t)
  c_MOST_CRATES : ∃ t, mg "MOST_CRATES" = some (.int 7 t)
  c_MOST_HEAVY : ∃ t, mg "MOST_HEAVY" = some (.int 200 t)
  c_MOST_PRICE : ∃ t, mg "MOST_PRICE" = some (.int 1000 t)
  c_THOUSAND : ∃ t, mg "THOUSAND" = some (.int 1000 t)
  atFirst : ∃ a, mg "AT_FIRST" = some (.ref a) ∧ ∀ H, SqT K H a [.int 1, .int 200, .int 0, .int 1000, .int 0, .int 1000]
/-- a def that keeps its promise -/
def Ok (P : Program) (w : World) (K : PySem.W.Frag) (mg : Str → Option Value) (base : Heap) (CX : CXT) (k : Nat) (f : Addr) (ps : List Str) (sp : Sp) : Prop := ∃ fd, FnOk P w K mg base CX k f fd ps sp ∧ Binds K fd ps []

/-! ### Values, attributes -/
abbrev vn (n : Nat) : V := .int (n : Int)
theorem lk_here {k : Str} {v : V} {r : List (Str × V)} : List.lookup k ((k, v) :: r) = some v := by
  have e : (k == k) = true := beq_self_eq_true k
  simp only [List.lookup, e]
theorem lk_past {k g : Str} {v : V} {r : List (Str × V)} (h : (k == g) = false) : List.lookup k ((g, v) :: r) = List.lookup k r := by
  simp only [List.lookup, h]
theorem put_here {f : Str} {v x : V} {r : List (Str × V)} : putF f v ((f, x) :: r) = (f, v) :: r := if_pos rfl
theorem put_past {f g : Str} {v x : V} {r : List (Str × V)} (h : ¬ g = f) : putF f v ((g, x) :: r) = (g, x) :: putF f v r := if_neg h
def crF (c : Crate) : List (Str × V) := [("heavy", vn c.heavy), ("copper", vn c.copper), ("zinc", vn c.zinc), ("price", vn c.price)]
def heF (h : Hp5) : List (Str × V) := [("many", vn h.many), ("weight", vn h.weight), ("copper", vn h.copper), ("zinc", vn h.zinc), ("cost", vn h.cost)]
def waF (t1 t2 t3 : Addr) : List (Str × V) := [("heavy", .ref t1), ("copper", .ref t2), ("zinc", .ref t3)]
def yaF (cl wl : Addr) (h : Nat) : List (Str × V) := [("crates", .ref cl), ("wants", .ref wl), ("stays", vn h)]
def beF (l : Addr) (c w : Nat) : List (Str × V) := [("some", .ref l), ("cost", vn c), ("weight", vn w)]
def deF (y : Addr) : List (Str × V) := [("yard", .ref y)]
theorem crF_heavy (c) : (crF c).lookup ("heavy" : Str) = some (vn c.heavy) := by kernel_rfl
theorem crF_copper (c) : (crF c).lookup ("copper" : Str) = some (vn c.copper) := by kernel_rfl
theorem crF_zinc (c) : (crF c).lookup ("zinc" : Str) = some (vn c.zinc) := by kernel_rfl
theorem crF_price (c) : (crF c).lookup ("price" : Str) = some (vn c.price) := by kernel_rfl
theorem heF_many (c) : (heF c).lookup ("many" : Str) = some (vn c.many) := by kernel_rfl
theorem heF_weight (c) : (heF c).lookup ("weight" : Str) = some (vn c.weight) := by kernel_rfl
theorem heF_copper (c) : (heF c).lookup ("copper" : Str) = some (vn c.copper) := by kernel_rfl
theorem heF_zinc (c) : (heF c).lookup ("zinc" : Str) = some (vn c.zinc) := by kernel_rfl
theorem heF_cost (c) : (heF c).lookup ("cost" : Str) = some (vn c.cost) := by kernel_rfl
theorem waF_heavy (a b c) : (waF a b c).lookup ("heavy" : Str) = some (.ref a) := by kernel_rfl
theorem waF_copper (a b c) : (waF a b c).lookup ("copper" : Str) = some (.ref b) := by kernel_rfl
theorem waF_zinc (a b c) : (waF a b c).lookup ("zinc" : Str) = some (.ref c) := by kernel_rfl
theorem yaF_crates (a b c) : (yaF a b c).lookup ("crates" : Str) = some (.ref a) := by kernel_rfl
theorem yaF_wants (a b c) : (yaF a b c).lookup ("wants" : Str) = some (.ref b) := by kernel_rfl
theorem yaF_stays (a b c) : (yaF a b c).lookup ("stays" : Str) = some (vn c) := by kernel_rfl
theorem beF_some (a b c) : (beF a b c).lookup ("some" : Str) = some (.ref a) := by kernel_rfl
theorem beF_cost (a b c) : (beF a b c).lookup ("cost" : Str) = some (vn b) := by kernel_rfl
theorem beF_weight (a b c) : (beF a b c).lookup ("weight" : Str) = some (vn c) := by kernel_rfl
theorem beF_take (a b c) : (beF a b c).lookup ("take" : Str) = none := by kernel_rfl
theorem beF_told (a b c) : (beF a b c).lookup ("told" : Str) = none := by kernel_rfl
theorem deF_yard (a) : (deF a).lookup ("yard" : Str) = some (.ref a) := by kernel_rfl
theorem deF_begins (a) : (deF a).lookup ("begins" : Str) = none := by kernel_rfl
theorem deF_want (a) : (deF a).lookup ("want" : Str) = none := by kernel_rfl
theorem deF_crate (a) : (deF a).lookup ("crate" : Str) = none := by kernel_rfl
theorem deF_check (a) : (deF a).lookup ("check" : Str) = none := by kernel_rfl
theorem deF_cheap (a) : (deF a).lookup ("cheap" : Str) = none := by kernel_rfl
theorem deF_alone (a) : (deF a).lookup ("alone" : Str) = none := by kernel_rfl
theorem deF_answered (a) : (deF a).lookup ("answered" : Str) = none := by kernel_rfl
theorem deF_called (a) : (deF a).lookup ("called" : Str) = none := by kernel_rfl
theorem crF_put (c : Crate) : putF "price" (vn c.price) (putF "zinc" (vn c.zinc) (putF "copper" (vn c.copper) (putF "heavy" (vn c.heavy) []))) = crF c := by kernel_rfl
theorem heF_put (c : Hp5) : putF "cost" (vn c.cost) (putF "zinc" (vn c.zinc) (putF "copper" (vn c.copper) (putF "weight" (vn c.weight) (putF "many" (vn c.many) [])))) = heF c := by kernel_rfl
theorem waF_put (a b c) : putF "zinc" (.ref c) (putF "copper" (.ref b) (putF "heavy" (.ref a) [])) = waF a b c := by kernel_rfl
theorem yaF_put (a b c) : putF "stays" (vn c) (putF "wants" (.ref b) (putF "crates" (.ref a) [])) = yaF a b c := by kernel_rfl
theorem beF_put (a b c) : putF "weight" (vn c) (putF "cost" (vn b) (putF "some" (.ref a) [])) = beF a b c := by kernel_rfl
theorem beF_put3 (a b c l n m) : putF "weight" (vn c) (putF "cost" (vn b) (putF "some" (.ref a) (beF l n m))) = beF a b c := by kernel_rfl
theorem deF_put (a) : putF "yard" (.ref a) [] = deF a := by kernel_rfl
theorem deF_put1 (a b) : putF "yard" (.ref a) (deF b) = deF a := by kernel_rfl

/-! ### Heaps -/
theorem same_upd {H : Hp} {p : Addr} {o : HO} (h : H p = none) : Same H (upd H p o) := fun b x e => by
  rw [upd_ne (ne_of_none e h)]
  exact e
theorem same_made {H : Hp} {x dx : Addr} {o u : HO} (nx : H x = none) (nd : H dx = none) : Same H (upd (upd H dx u) x o) := fun b z e => by
  rw [upd_ne (ne_of_none e nx), upd_ne (ne_of_none e nd)]
  exact e
theorem same_but {H H1 : Hp} {p : Addr} {o : HO} (h : Same H H1) (n : H p = none) : Same H (upd H1 p o) := fun b x e => by
  rw [upd_ne (ne_of_none e n)]
  exact h b x e
theorem Same.seqT {K : PySem.W.Frag} {H H' : Hp} {a : Addr} {xs : List V} (e : Same H H') (h : SqT K H a xs) : SqT K H' a xs := by
  rcases h with (h | ⟨o, h⟩) | h
  · exact .inl (.inl (e _ _ h))
  · exact .inl (.inr ⟨o, e _ _ h⟩)
  · exact .inr h
theorem sql {K : PySem.W.Frag} {H : Hp} {a : Addr} {xs : List V} (h : H a = some (.lst xs)) : SqL K H a xs := .inl (.inl h)
theorem sqt {K : PySem.W.Frag} {H : Hp} {a : Addr} {xs : List V} (h : H a = some (.tup xs)) : SqT K H a xs := .inl (.inl h)
/-- all that was tracked, but p, is as it was -/
def But (p : Addr) (H H' : Hp) : Prop := ∀ b o, H b = some o → b ≠ p → H' b = some o
theorem But.of_same {p : Addr} {H H' : Hp} (h : Same H H') : But p H H' := fun b o e _ => h b o e
theorem But.upd {p : Addr} {H H' : Hp} {o : HO} (h : But p H H') : But p H (upd H' p o) := fun b x e n => by
  rw [upd_ne n]
  exact h b x e n
theorem But.same {p : Addr} {H H1 H2 : Hp} (h : But p H H1) (s : Same H1 H2) : But p H H2 := fun b x e n => s b x (h b x e n)
/-- a new instance behind its __init__: all that was tracked is as it was -/
theorem But.made {H H1 : Hp} {x dx C : Addr} (nx : H x = none) (nd : H dx = none) (h : But x (L2.upd (L2.upd H dx (.own x)) x (.ins C dx [])) H1) : Same H H1 := Same.made nx nd h

/-! ### How things lie -/
structure CrAt (A : Adr) (H : Hp) (a : Addr) (c : Crate) : Prop where
  ex : ∃ dx, H a = some (.ins A.cCrate dx (crF c))
def Crs (A : Adr) (H : Hp) (as : List Addr) (cs : List Crate) : Prop := Paired (CrAt A H) as cs
def HeAt (A : Adr) (H : Hp) (a : Addr) (h : Hp5) : Prop := ∃ dx, H a = some (.ins A.cHeap dx (heF h))
def WaAt (A : Adr) (H : Hp) (a : Addr) (w : Wanted) : Prop := ∃ dx t1 t2 t3, H a = some (.ins A.cWanted dx (waF t1 t2 t3)) ∧ H t1 = some (.tup [vn w.light, vn w.heavy]) ∧ H t2 = some (.tup [vn w.copperLow, vn w.copperHigh]) ∧ H t3 = some (.tup [vn w.zincLow, vn w.zincHigh])
theorem CrAt.same {A : Adr} {H H' : Hp} {a : Addr} {c : Crate} (s : Same H H') (h : CrAt A H a c) : CrAt A H' a c := let ⟨dx, e⟩ := h.ex; ⟨dx, s _ _ e⟩
theorem HeAt.same {A : Adr} {H H' : Hp} {a : Addr} {c : Hp5} (s : Same H H') (h : HeAt A H a c) : HeAt A H' a c := let ⟨dx, e⟩ := h; ⟨dx, s _ _ e⟩
theorem WaAt.same {A : Adr} {H H' : Hp} {a : Addr} {w : Wanted} (s : Same H H') (h : WaAt A H a w) : WaAt A H' a w :=
  let ⟨dx, t1, t2, t3, e, e1, e2, e3⟩ := h; ⟨dx, t1, t2, t3, s _ _ e, s _ _ e1, s _ _ e2, s _ _ e3⟩
theorem paired_mono {α β : Type} {F G : α → β → Prop} (h : ∀ a b, F a b → G a b) : ∀ {l : List α} {m : List β}, Paired F l m → Paired G l m
  | _, _, .nil => .nil
  | _, _, .cons r t => .cons (h _ _ r) (paired_mono h t)
theorem paired_length {α β : Type} {F : α → β → Prop} : ∀ {l : List α} {m : List β}, Paired F l m → l.length = m.length
  | _, _, .nil => rfl
  | _, _, .cons _ t => by rw [List.length_cons, List.length_cons, paired_length t]
theorem paired_get {α β : Type} {F : α → β → Prop} : ∀ {l : List α} {m : List β} {i : Nat} {a : α}, Paired F l m → l[i]? = some a → ∃ b, m[i]? = some b ∧ F a b
  | _, _, _, _, .nil, e => by simp at e
  | _, _, 0, _, .cons r _, e => by simp at e; subst e; exact ⟨_, rfl, r⟩
  | _, _, i + 1, _, .cons _ t, e => by
    obtain ⟨b, h1, h2⟩ := paired_get (i := i) t (by simpa using e)
    exact ⟨b, by simpa using h1, h2⟩
theorem paired_append {α β : Type} {F : α → β → Prop} : ∀ {l l' : List α} {m m' : List β}, Paired F l m → Paired F l' m' → Paired F (l ++ l') (m ++ m')
  | _, _, _, _, .nil, s => s
  | _, _, _, _, .cons r t, s => .cons r (paired_append t s)
theorem paired_pick {α β : Type} {F : α → β → Prop} : ∀ {P : Nat → Bool} {l : List α} {m : List β}, Paired F l m → Paired F (pickP P l) (pickP P m)
  | _, _, _, .nil => .nil
  | P, _ :: l, _ :: m, .cons r t => by
    have ih := paired_pick (P := fun i => P (i + 1)) t
    show Paired F (if P 0 then _ :: pickP (fun i => P (i + 1)) l else pickP (fun i => P (i + 1)) l) (if P 0 then _ :: pickP (fun i => P (i + 1)) m else pickP (fun i => P (i + 1)) m)
    by_cases h : P 0 = true
    · rw [if_pos h, if_pos h]; exact .cons r ih
    · rw [if_neg h, if_neg h]; exact ih
theorem Crs.same {A : Adr} {H H' : Hp} {as : List Addr} {cs : List Crate} (s : Same H H') (h : Crs A H as cs) : Crs A H' as cs := paired_mono (fun _ _ q => q.same s) h
/-- the crates that a heap may be made of -/
structure Small (cs : List Crate) : Prop where
  few : cs.length ≤ 7
  ok : ∀ c ∈ cs, isCrate c = true
theorem Small.pick {cs : List Crate} (h : Small cs) (P : Nat → Bool) : Small (pickP P cs) := ⟨Nat.le_trans pickP_len h.few, fun c hc => h.ok c (pickP_mem hc)⟩
theorem sum_le {f : Crate → Nat} {b : Nat} : ∀ {cs : List Crate}, (∀ c ∈ cs, f c ≤ b) → (cs.map f).sum ≤ cs.length * b
  | [], _ => Nat.zero_le _
  | c :: cs, h => by
    have ih := sum_le fun d hd => h d (List.mem_cons_of_mem _ hd)
    have hc := h c List.mem_cons_self
    rw [List.map_cons, List.sum_cons, List.length_cons, Nat.succ_mul]
    omega
theorem isCrate_iff {c : Crate} : isCrate c = true ↔ 1 ≤ c.heavy ∧ c.heavy ≤ 200 ∧ c.copper + c.zinc ≤ 1000 ∧ c.price ≤ 1000 := by
  unfold isCrate
  simp only [Bool.and_eq_true, decide_eq_true_eq]
theorem Small.weight {cs : List Crate} (h : Small cs) : (heap cs).weight ≤ 1400 := by
  have q := sum_le (f := (·.heavy)) (b := 200) (cs := cs) fun c hc => (isCrate_iff.mp (h.ok c hc)).2.1
  have := h.few
  exact Nat.le_trans q (Nat.mul_le_mul_right 200 this)
/-- a yard at y -/
structure YaIs (A : Adr) (H : Hp) (y cl wl : Addr) (s : Sj16.Shop) : Prop where
  y : ∃ dy, H y = some (.ins A.cYard dy (yaF cl wl s.heel))
  cr : ∃ as : List Addr, H cl = some (.lst (as.map V.ref)) ∧ Crs A H as s.crates
  wa : ∃ w0 w1, H wl = some (.lst [.ref w0, .ref w1]) ∧ WaAt A H w0 s.first ∧ WaAt A H w1 s.second
def YaAt (A : Adr) (H : Hp) (y : Addr) (s : Sj16.Shop) : Prop := ∃ cl wl, YaIs A H y cl wl s
theorem YaIs.same {A : Adr} {H H' : Hp} {y cl wl : Addr} {s : Sj16.Shop} (e : Same H H') (h : YaIs A H y cl wl s) : YaIs A H' y cl wl s :=
  ⟨let ⟨dy, q⟩ := h.y; ⟨dy, e _ _ q⟩, let ⟨as, q, r⟩ := h.cr; ⟨as, e _ _ q, r.same e⟩, let ⟨w0, w1, q, r, t⟩ := h.wa; ⟨w0, w1, e _ _ q, r.same e, t.same e⟩⟩
theorem YaAt.same {A : Adr} {H H' : Hp} {y : Addr} {s : Sj16.Shop} (e : Same H H') (h : YaAt A H y s) : YaAt A H' y s := let ⟨cl, wl, q⟩ := h; ⟨cl, wl, q.same e⟩

/-! ### Small words for readings -/
theorem dec_vn {a b : Nat} : decide (vn a = vn b) = decide (a = b) := by
  by_cases h : a = b
  · subst h; simp
  · rw [decide_eq_false h]
    exact decide_eq_false fun e => h (Int.ofNat.inj (V.int.inj e))
theorem dec_le {a b : Nat} : decide ((a : Int) ≤ (b : Int)) = decide (a ≤ b) := by
  by_cases h : a ≤ b
  · rw [decide_eq_true h]; exact decide_eq_true (by omega)
  · rw [decide_eq_false h]; exact decide_eq_false (by omega)
theorem dec_lt {a b : Nat} : decide ((a : Int) < (b : Int)) = decide (a < b) := by
  by_cases h : a < b
  · rw [decide_eq_true h]; exact decide_eq_true (by omega)
  · rw [decide_eq_false h]; exact decide_eq_false (by omega)
theorem small_line {n : Nat} (h : n ≤ 16777215) : n < sizeLine := by rw [sizeLine_eq]; omega
theorem le_line {n : Nat} (h : n ≤ 16777216) : n ≤ sizeLine := by rw [sizeLine_eq]; exact h
theorem mul_ok {a b : Nat} (h : a < 18446744073709551616) : CMul (a : Int) (b : Int) := .inl ⟨by omega, by omega⟩
theorem mul_ok' {a b : Nat} (h : b < 18446744073709551616) : CMul (a : Int) (b : Int) := .inr ⟨by omega, by omega⟩
end Tm
/-! TmA: crates, heaps, what's wanted. -/
namespace Tm
open PySem PySem.Spec PyProof.Rows L2
open Sj14 (Crate Wanted)
section
variable {P : Program} {w : World} {K : PySem.W.Frag} {mg : Str → Option Value} {base : Heap} {A : Adr}

/-! ### Crate.__init__ -/
def spCrateI (A : Adr) : Sp := fun vs H Q _ => ∃ (p dx : Addr) (c : Crate), vs = [.ref p, vn c.heavy, vn c.copper, vn c.zinc, vn c.price] ∧ H p = some (.ins A.cCrate dx []) ∧
  Q .non (upd H p (.ins A.cCrate dx (crF c)))
theorem scCrateI : FnScope ["self", "heavy", "copper", "zinc", "price"] ["self", "heavy", "copper", "zinc", "price"] (defScope sCrateI) := ⟨rfl, rfl, rfl, by decide +kernel, rfl, by decide +kernel, by decide +kernel⟩
theorem ok_crateI (T : Txt K mg A) : Ok P w K mg base CX0 1 A.iCrate ["self", "heavy", "copper", "zinc", "price"] (spCrateI A) := by
  obtain ⟨fd, F, b⟩ := T.crateC.d
  refine ⟨fd, F.ok scCrateI (fun vs H Q E h => ?_) (fun cdv A' outer s H vs Q E hr h => ?_), b⟩
  · obtain ⟨p, dx, c, rfl, _⟩ := h
    rfl
  · obtain ⟨p, dx, c, rfl, hp, k⟩ := h
    refine ⟨_, pss_cons (ps_fld (pv 0) (pv 1) rfl) (pss_cons (ps_fld (pv 0) (pv 2) rfl) (pss_cons (ps_fld (pv 0) (pv 3) rfl) (pss_one (ps_fld (pv 0) (pv 4) rfl)))), ?_⟩
    refine ⟨_, rfl, _, rfl, p, A.cCrate, dx, [], rfl, hp, T.crateC.cl, T.cr_heavy, (by decide), ?_⟩
    refine ⟨_, rfl, _, rfl, p, A.cCrate, dx, _, rfl, upd_same, T.crateC.cl, T.cr_copper, (by show 1 < 1000; decide), ?_⟩
    refine ⟨_, rfl, _, rfl, p, A.cCrate, dx, _, rfl, upd_same, T.crateC.cl, T.cr_zinc, (by show 2 < 1000; decide), ?_⟩
    refine ⟨_, rfl, _, rfl, p, A.cCrate, dx, _, rfl, upd_same, T.crateC.cl, T.cr_price, (by show 3 < 1000; decide), ?_⟩
    simp only [upd_upd, crF_put]
    exact k

/-! ### Lists made of a list, item by item -/
/-- [e for x in xs]: e reads and changes nothing -/
theorem rd_map {j i : Nat} {te : TE} {σ : L2.St} {H : Hp} {Q : VK} {a : Addr} {xs : List V} (ys : List V) (hl : ys.length = xs.length) (hσ : σ[j]? = some (some (.ref a))) (hq : SqL K H a xs) (hsz : xs.length < sizeLine)
    (hw : ∀ x, wipe ((wipe σ [i]).set i (some x)) [i] = wipe σ [i])
    (he : ∀ (n : Nat) (x y : V) (H' : Hp) (R : VK), xs[n]? = some x → ys[n]? = some y → Same H H' → R y H' → te ((wipe σ [i]).set i (some x)) H' R)
    (k : ∀ D H', H D = none → Same H H' → H' D = some (.lst ys) → Q (.ref D) H') : tLc (iList K (tVar j)) (gName i) tYes te [i] σ H Q := by
  refine ⟨_, hσ, a, rfl, ⟨_, hq⟩, fun D hD => lc_list (K := K) (a := a) (xs := xs) (fun n H' => Same H H' ∧ H' D = some (.lst (ys.take n))) ⟨same_upd hD, upd_same⟩ (fun n H' _ ⟨s, _⟩ => s.seq hq) ?_ ?_⟩
  · rintro n x H' hx ⟨s, e⟩
    have hn : n < xs.length := (List.getElem?_eq_some_iff.mp hx).1
    have hy : ys[n]? = some (ys[n]'(by omega)) := List.getElem?_eq_getElem (by omega)
    have g := he n x _ H' (fun y H4 => ∃ acc, H4 D = some (.lst acc) ∧ acc.length < sizeLine ∧ (Same H (upd H4 D (.lst (acc ++ [y]))) ∧ (upd H4 D (.lst (acc ++ [y]))) D = some (.lst (ys.take (n + 1))))) hx hy s
    refine ⟨hw x, g ⟨_, e, ?_, same_but s hD, ?_⟩⟩
    · rw [List.length_take]
      exact Nat.lt_of_le_of_lt (Nat.min_le_left _ _) (Nat.lt_trans hn hsz)
    · rw [upd_same, List.take_add_one, hy]
      rfl
  · rintro H' ⟨s, e⟩
    rw [← hl, List.take_length] at e
    exact k D H' hD s e

/-! ### Heap.__init__ -/
def spHeapI (K : PySem.W.Frag) (A : Adr) : Sp := fun vs H Q _ => ∃ (p dx l : Addr) (as : List Addr) (cs : List Crate), vs = [.ref p, .ref l] ∧ H p = some (.ins A.cHeap dx []) ∧ H l = some (.lst (as.map V.ref)) ∧ Crs A H as cs ∧ Small cs ∧
  ∀ H' : Hp, But p H H' → H' p = some (.ins A.cHeap dx (heF (heap cs))) → Q .non H'
theorem scHeapI : FnScope ["self", "crates", "crate"] ["self", "crates"] (defScope sHeapI) := ⟨rfl, rfl, rfl, by decide +kernel, rfl, by decide +kernel, by decide +kernel⟩
theorem cast_sum (f : Crate → Nat) (cs : List Crate) : (cs.map fun c => (f c : Int)).sum = (((cs.map f).sum : Nat) : Int) := by
  induction cs with
  | nil => rfl
  | cons c r ih =>
    rw [List.map_cons, List.sum_cons, List.map_cons, List.sum_cons, ih]
    rfl
theorem crs_get {H : Hp} {as : List Addr} {cs : List Crate} (f : Crate → Int) (h : Crs A H as cs) {n : Nat} {x y : V} (hx : (as.map V.ref)[n]? = some x) (hy : ((cs.map f).map V.int)[n]? = some y) : ∃ a c dx, x = .ref a ∧ y = .int (f c) ∧ H a = some (.ins A.cCrate dx (crF c)) ∧ c ∈ cs := by
  rw [List.getElem?_map] at hx
  cases e : as[n]? with
  | none => rw [e] at hx; cases hx
  | some a =>
    rw [e] at hx
    obtain ⟨c, hc, ⟨dx, q⟩⟩ := paired_get h e
    rw [List.getElem?_map, List.getElem?_map, hc] at hy
    exact ⟨a, c, dx, (Option.some.inj hx).symm, (Option.some.inj hy).symm, q, List.mem_of_getElem? hc⟩
theorem ok_heapI (T : Txt K mg A) : Ok P w K mg base CX0 1 A.iHeap ["self", "crates"] (spHeapI K A) := by
  obtain ⟨fd, F, b⟩ := T.heapC.d
  refine ⟨fd, F.ok scHeapI (fun vs H Q E h => ?_) (fun cdv A' outer s H vs Q E hr h => ?_), b⟩
  · obtain ⟨p, dx, l, as, cs, rfl, _⟩ := h
    rfl
  · obtain ⟨p, dx, l, as, cs, rfl, hp, hl, hc, hs, k⟩ := h
    refine ⟨_, pss_cons (ps_fld (pv 0) (pe_callB call_len_seq (by rfl) T.len PySem.boot_len (pa_cons (pv 1) pa_nil)) rfl)
      (pss_cons (ps_fld (pv 0) (pe_callB (cr_sum rfl) (by rfl) T.sum (by decide +kernel) (pa_cons (pe_lc (own := [("crate", 2)]) (g := gName 2) (tt := tYes) (te := tFld K (tVar 2) "heavy") rfl scHeapI.nd (pi_list (pv 1)) (blkOk_by (N := ["self", "crates", "crate"]) (sc := defScope sHeapI) (by decide +kernel)) (fun _ _ _ _ _ => pg_name (i := 2) scHeapI.nd rfl (Or.inl rfl)) (fun _ _ _ _ _ => pts_nil) (fun _ _ _ _ _ => pe_fld (pv 2) rfl)) pa_nil)) rfl)
      (pss_cons (ps_fld (pv 0) (pe_callB (cr_sum rfl) (by rfl) T.sum (by decide +kernel) (pa_cons (pe_lc (own := [("crate", 2)]) (g := gName 2) (tt := tYes) (te := tOp (rI CMul fun i j => .int (i * j)) (tFld K (tVar 2) "heavy") (tFld K (tVar 2) "copper")) rfl scHeapI.nd (pi_list (pv 1)) (blkOk_by (N := ["self", "crates", "crate"]) (sc := defScope sHeapI) (by decide +kernel)) (fun _ _ _ _ _ => pg_name (i := 2) scHeapI.nd rfl (Or.inl rfl)) (fun _ _ _ _ _ => pts_nil) (fun _ _ _ _ _ => pe_op op_mul (pe_fld (pv 2) rfl) (pe_fld (pv 2) rfl))) pa_nil)) rfl)
      (pss_cons (ps_fld (pv 0) (pe_callB (cr_sum rfl) (by rfl) T.sum (by decide +kernel) (pa_cons (pe_lc (own := [("crate", 2)]) (g := gName 2) (tt := tYes) (te := tOp (rI CMul fun i j => .int (i * j)) (tFld K (tVar 2) "heavy") (tFld K (tVar 2) "zinc")) rfl scHeapI.nd (pi_list (pv 1)) (blkOk_by (N := ["self", "crates", "crate"]) (sc := defScope sHeapI) (by decide +kernel)) (fun _ _ _ _ _ => pg_name (i := 2) scHeapI.nd rfl (Or.inl rfl)) (fun _ _ _ _ _ => pts_nil) (fun _ _ _ _ _ => pe_op op_mul (pe_fld (pv 2) rfl) (pe_fld (pv 2) rfl))) pa_nil)) rfl)
      (pss_one (ps_fld (pv 0) (pe_callB (cr_sum rfl) (by rfl) T.sum (by decide +kernel) (pa_cons (pe_lc (own := [("crate", 2)]) (g := gName 2) (tt := tYes) (te := tFld K (tVar 2) "price") rfl scHeapI.nd (pi_list (pv 1)) (blkOk_by (N := ["self", "crates", "crate"]) (sc := defScope sHeapI) (by decide +kernel)) (fun _ _ _ _ _ => pg_name (i := 2) scHeapI.nd rfl (Or.inl rfl)) (fun _ _ _ _ _ => pts_nil) (fun _ _ _ _ _ => pe_fld (pv 2) rfl)) pa_nil)) rfl))))), ?_⟩
    have elen : as.length = cs.length := paired_length hc
    have hsz : (as.map V.ref).length < sizeLine := by
      rw [List.length_map, elen]
      exact small_line (Nat.le_trans hs.few (by decide))
    have npl : l ≠ p := ne_of hl hp (by intro z; cases z)
    -- one sum: behind any heap that keeps all but p
    have sums : ∀ (H1 : Hp) (te : TE) (f : Crate → Nat) (R : VK), But p H H1 →
        (∀ a c dx H2 (R : VK), H2 a = some (.ins A.cCrate dx (crF c)) → c ∈ cs → R (vn (f c)) H2 → te ((wipe [some (V.ref p), some (V.ref l), none] [2]).set 2 (some (.ref a))) H2 R) →
        (∀ H2, But p H H2 → H2 p = H1 p → R (vn (cs.map f).sum) H2) → H1 p ≠ none → tCB (rSum K) (tCons (tLc (iList K (tVar 1)) (gName 2) tYes te [2]) tNil) [some (V.ref p), some (V.ref l), none] H1 R := by
      intro H1 te f R hb he hk hpp
      have hc1 : Crs A H1 as cs := by
        refine paired_mono (fun a c q => ?_) hc
        obtain ⟨dx', e⟩ := q.ex
        exact ⟨dx', hb a _ e (ne_of e hp (by intro z; injection z with z1 z2 z3; cases z3))⟩
      show tLc (iList K (tVar 1)) (gName 2) tYes te [2] [some (V.ref p), some (V.ref l), none] H1 fun x H' => rSum K [x] H' R
      refine rd_map (K := K) (j := 1) (σ := [some (V.ref p), some (V.ref l), none]) (i := 2) (a := l) (xs := as.map V.ref) ((cs.map fun c => (f c : Int)).map V.int) (by simp [elen]) rfl (sql (hb _ _ hl npl)) hsz (fun _ => rfl) (fun n x y H2 R2 hx hy s2 r2 => ?_) (fun D H2 hD s2 e2 => ?_)
      · obtain ⟨a, c, dx', rfl, rfl, q, hm⟩ := crs_get (fun c => (f c : Int)) (hc1.same s2) hx hy
        exact he a c dx' H2 R2 q hm r2
      · refine ⟨D, cs.map fun c => (f c : Int), rfl, sql e2, ?_⟩
        rw [cast_sum]
        refine hk H2 (hb.same s2) ?_
        cases e : H1 p with
        | none => exact absurd e hpp
        | some o => exact s2 _ _ e
    have step : ∀ {H1 : Hp} {o : HO}, But p H H1 → But p H (upd H1 p o) := fun hb => hb.upd
    -- self.many
    refine ⟨_, rfl, l, _, rfl, .inl (sql hl), _, rfl, p, A.cHeap, dx, [], rfl, hp, T.heapC.cl, T.he_many, (by decide), ?_⟩
    -- self.weight
    refine sums _ _ (·.heavy) _ (step fun b o e _ => e) (fun a c dx' H2 R q _ r => ⟨_, rfl, a, _, dx', _, _, rfl, q, T.crateC.cl, T.cr_heavy, crF_heavy c, r⟩) (fun H2 b2 e2 => ?_) (by rw [upd_same]; intro z; cases z)
    refine ⟨_, rfl, p, A.cHeap, dx, _, rfl, e2.trans upd_same, T.heapC.cl, T.he_weight, (by show 1 < 1000; decide), ?_⟩
    -- self.copper
    refine sums _ _ (fun c => c.heavy * c.copper) _ (step b2) (fun a c dx' H3 R q hm r => ⟨_, rfl, a, _, dx', _, _, rfl, q, T.crateC.cl, T.cr_heavy, crF_heavy c, _, rfl, a, _, dx', _, _, rfl, q, T.crateC.cl, T.cr_copper, crF_copper c, _, _, rfl, rfl, mul_ok (by have := (isCrate_iff.mp (hs.ok c hm)).2.1; omega), r⟩) (fun H3 b3 e3 => ?_) (by rw [upd_same]; intro z; cases z)
    refine ⟨_, rfl, p, A.cHeap, dx, _, rfl, e3.trans upd_same, T.heapC.cl, T.he_copper, (by show 2 < 1000; decide), ?_⟩
    -- self.zinc
    refine sums _ _ (fun c => c.heavy * c.zinc) _ (step b3) (fun a c dx' H3 R q hm r => ⟨_, rfl, a, _, dx', _, _, rfl, q, T.crateC.cl, T.cr_heavy, crF_heavy c, _, rfl, a, _, dx', _, _, rfl, q, T.crateC.cl, T.cr_zinc, crF_zinc c, _, _, rfl, rfl, mul_ok (by have := (isCrate_iff.mp (hs.ok c hm)).2.1; omega), r⟩) (fun H4 b4 e4 => ?_) (by rw [upd_same]; intro z; cases z)
    refine ⟨_, rfl, p, A.cHeap, dx, _, rfl, e4.trans upd_same, T.heapC.cl, T.he_zinc, (by show 3 < 1000; decide), ?_⟩
    -- self.cost
    refine sums _ _ (·.price) _ (step b4) (fun a c dx' H2 R q _ r => ⟨_, rfl, a, _, dx', _, _, rfl, q, T.crateC.cl, T.cr_price, crF_price c, r⟩) (fun H5 b5 e5 => ?_) (by rw [upd_same]; intro z; cases z)
    refine ⟨_, rfl, p, A.cHeap, dx, _, rfl, e5.trans upd_same, T.heapC.cl, T.he_cost, (by show 4 < 1000; decide), ?_⟩
    refine k _ b5.upd ?_
    rw [upd_same]
    have e : (as.map V.ref).length = (heap cs).many := by rw [List.length_map, elen]; rfl
    rw [e]
    exact congrArg (fun q => some (HO.ins A.cHeap dx q)) (heF_put (heap cs))
end
end Tm
/-! TmB: what's wanted, what's wrong. -/
namespace Tm
open PySem PySem.Spec PyProof.Rows L2
open Sj14 (Crate Wanted)
section
variable {P : Program} {w : World} {K : PySem.W.Frag} {mg : Str → Option Value} {base : Heap} {A : Adr}
theorem ite3 {c : Bool} {X Y : Prop} (h1 : c = true → X) (h2 : c = false → Y) : if c = true then X else Y := by
  cases c with
  | true => rw [if_pos rfl]; exact h1 rfl
  | false => rw [if_neg Bool.false_ne_true]; exact h2 rfl
theorem sql_but {H H' : Hp} {p l C dx : Addr} {fs : List (Str × V)} {xs : List V} (b : But p H H') (hp : H p = some (.ins C dx fs)) (h : SqL K H l xs) : SqL K H' l xs := by
  rcases h with (h | ⟨o, h⟩) | h
  · exact .inl (.inl (b _ _ h (ne_of h hp (by intro z; cases z))))
  · exact .inl (.inr ⟨o, b _ _ h (ne_of h hp (by intro z; cases z))⟩)
  · exact .inr h
theorem sqt_but {H H' : Hp} {p l C dx : Addr} {fs : List (Str × V)} {xs : List V} (b : But p H H') (hp : H p = some (.ins C dx fs)) (h : SqT K H l xs) : SqT K H' l xs := by
  rcases h with (h | ⟨o, h⟩) | h
  · exact .inl (.inl (b _ _ h (ne_of h hp (by intro z; cases z))))
  · exact .inl (.inr ⟨o, b _ _ h (ne_of h hp (by intro z; cases z))⟩)
  · exact .inr h
theorem ix_at {H : Hp} {l : Addr} {ns : List V} (h : SqL K H l ns ∨ SqT K H l ns) {i : Int} {v : V} {Q : VK} (e : atI ns i = some v) (q : Q v H) : rIx K (.ref l) (.int i) H Q := by
  rcases h with h | h
  · exact .inl ⟨l, ns, i, v, rfl, rfl, h, e, q⟩
  · exact .inr (.inl ⟨l, ns, i, v, rfl, rfl, h, e, q⟩)

/-! ### Wanted.__init__ -/
def w6 (w : Wanted) : List V := [vn w.light, vn w.heavy, vn w.copperLow, vn w.copperHigh, vn w.zincLow, vn w.zincHigh]
def spWantedI (K : PySem.W.Frag) (A : Adr) : Sp := fun vs H Q _ => ∃ (p dx l : Addr) (w : Wanted), vs = [.ref p, .ref l] ∧ H p = some (.ins A.cWanted dx []) ∧ (SqL K H l (w6 w) ∨ SqT K H l (w6 w)) ∧
  ∀ H' : Hp, But p H H' → WaAt A H' p w → Q .non H'
theorem scWantedI : FnScope ["self", "numbers"] ["self", "numbers"] (defScope sWantedI) := ⟨rfl, rfl, rfl, by decide +kernel, rfl, by decide +kernel, by decide +kernel⟩
theorem ok_wantedI (T : Txt K mg A) : Ok P w K mg base CX0 1 A.iWanted ["self", "numbers"] (spWantedI K A) := by
  obtain ⟨fd, F, b⟩ := T.wantedC.d
  refine ⟨fd, F.ok scWantedI (fun vs H Q E h => ?_) (fun cdv A' outer s H vs Q E hr h => ?_), b⟩
  · obtain ⟨p, dx, l, w, rfl, _⟩ := h
    rfl
  · obtain ⟨p, dx, l, w, rfl, hp, hl, k⟩ := h
    refine ⟨_, pss_cons (ps_fld (pv 0) (pe_tup (pa_cons (pe_ix ix_seq (pv 1) pe_int (fun _ _ => rfl)) (pa_cons (pe_ix ix_seq (pv 1) pe_int (fun _ _ => rfl)) pa_nil))) rfl)
      (pss_cons (ps_fld (pv 0) (pe_tup (pa_cons (pe_ix ix_seq (pv 1) pe_int (fun _ _ => rfl)) (pa_cons (pe_ix ix_seq (pv 1) pe_int (fun _ _ => rfl)) pa_nil))) rfl)
      (pss_one (ps_fld (pv 0) (pe_tup (pa_cons (pe_ix ix_seq (pv 1) pe_int (fun _ _ => rfl)) (pa_cons (pe_ix ix_seq (pv 1) pe_int (fun _ _ => rfl)) pa_nil))) rfl))), ?_⟩
    have keep : ∀ {H1 : Hp}, But p H H1 → (SqL K H1 l (w6 w) ∨ SqT K H1 l (w6 w)) := fun b => hl.imp (sql_but b hp) (sqt_but b hp)
    have b0 : But p H H := fun _ _ e _ => e
    refine ⟨_, rfl, ix_at (keep b0) rfl ⟨_, rfl, ix_at (keep b0) rfl ⟨le_line (by show 2 ≤ 16777216; decide), fun t1 n1 => ?_⟩⟩⟩
    have p1 : p ≠ t1 := ne_of_none hp n1
    refine ⟨_, rfl, p, A.cWanted, dx, [], rfl, by rw [upd_ne p1]; exact hp, T.wantedC.cl, T.wa_heavy, (by decide), ?_⟩
    have b1 : But p H (upd (upd H t1 (.tup [vn w.light, vn w.heavy])) p (.ins A.cWanted dx (putF "heavy" (.ref t1) []))) := (But.of_same (same_upd n1)).upd
    refine ⟨_, rfl, ix_at (keep b1) rfl ⟨_, rfl, ix_at (keep b1) rfl ⟨le_line (by show 2 ≤ 16777216; decide), fun t2 n2 => ?_⟩⟩⟩
    have p2 : p ≠ t2 := ne_of_none upd_same n2
    refine ⟨_, rfl, p, A.cWanted, dx, _, rfl, by rw [upd_ne p2]; exact upd_same, T.wantedC.cl, T.wa_copper, (by show 1 < 1000; decide), ?_⟩
    have b2 := (b1.same (same_upd (o := .tup [vn w.copperLow, vn w.copperHigh]) n2)).upd (o := .ins A.cWanted dx (putF "copper" (.ref t2) (putF "heavy" (.ref t1) [])))
    refine ⟨_, rfl, ix_at (keep b2) rfl ⟨_, rfl, ix_at (keep b2) rfl ⟨le_line (by show 2 ≤ 16777216; decide), fun t3 n3 => ?_⟩⟩⟩
    have p3 : p ≠ t3 := ne_of_none upd_same n3
    refine ⟨_, rfl, p, A.cWanted, dx, _, rfl, by rw [upd_ne p3]; exact upd_same, T.wantedC.cl, T.wa_zinc, (by show 2 < 1000; decide), ?_⟩
    have b3 := (b2.same (same_upd (o := .tup [vn w.zincLow, vn w.zincHigh]) n3)).upd (o := .ins A.cWanted dx (putF "zinc" (.ref t3) (putF "copper" (.ref t2) (putF "heavy" (.ref t1) []))))
    have e1 := upd_same (H := H) (a := t1) (o := .tup [vn w.light, vn w.heavy])
    have f1 : (upd (upd H t1 (.tup [vn w.light, vn w.heavy])) p (.ins A.cWanted dx (putF "heavy" (.ref t1) []))) t1 = some (.tup [vn w.light, vn w.heavy]) := by rw [upd_ne p1.symm]; exact e1
    have f1' := same_upd (o := .tup [vn w.copperLow, vn w.copperHigh]) n2 _ _ f1
    refine k _ b3 ⟨dx, t1, t2, t3, ?_, ?_, ?_, ?_⟩
    · rw [upd_same]
      exact congrArg (fun q => some (HO.ins A.cWanted dx q)) (waF_put t1 t2 t3)
    · rw [upd_ne p1.symm]
      refine same_upd n3 _ _ ?_
      rw [upd_ne p1.symm]
      exact f1'
    · rw [upd_ne p2.symm]
      refine same_upd n3 _ _ ?_
      rw [upd_ne p2.symm]
      exact upd_same
    · rw [upd_ne p3.symm]
      exact upd_same

/-! ### lies_between, is_share_between, is_heavy_right -/
def spLies (K : PySem.W.Frag) : Sp := fun vs H Q _ => ∃ (n a b : Nat) (t : Addr), vs = [vn n, .ref t] ∧ SqT K H t [vn a, vn b] ∧ Q (.bl (decide (a ≤ n) && decide (n ≤ b))) H
theorem scLies : FnScope ["number", "bounds"] ["number", "bounds"] (defScope sLies) := ⟨rfl, rfl, rfl, by decide +kernel, rfl, by decide +kernel, by decide +kernel⟩
theorem ok_lies (T : Txt K mg A) : Ok P w K mg base CX0 1 A.lies ["number", "bounds"] (spLies K) := by
  obtain ⟨fd, F, b⟩ := T.lies.d
  refine ⟨fd, F.ok scLies (fun vs H Q E h => ?_) (fun cdv A' outer s H vs Q E hr h => ?_), b⟩
  · obtain ⟨n, a, b, t, rfl, _⟩ := h
    rfl
  · obtain ⟨n, a, b, t, rfl, ht, k⟩ := h
    refine ⟨_, pss_one (ps_ret (pe_and (pe_cmpR op_ge (pv 0) (pe_ix ix_tup (pv 1) pe_int (fun _ _ => rfl)) (nomark _)) (pe_one (pe_cmpR op_le (pv 0) (pe_ix ix_tup (pv 1) pe_int (fun _ _ => rfl)) (nomark _))))), ?_⟩
    refine ⟨_, rfl, _, rfl, t, _, _, _, rfl, rfl, ht, rfl, _, _, rfl, rfl, _, rfl, ite3 (fun c => ?_) (fun c => ?_)⟩
    · rw [dec_le] at c
      refine ⟨_, rfl, _, rfl, t, _, _, _, rfl, rfl, ht, rfl, _, _, rfl, rfl, ?_⟩
      show Q (V.bl (decide ((n : Int) ≤ (b : Int)))) H
      rw [dec_le]
      rw [c, Bool.true_and] at k
      exact k
    · rw [dec_le] at c
      rw [c, Bool.false_and] at k
      exact k
def spIsShare (K : PySem.W.Frag) : Sp := fun vs H Q _ => ∃ (n m a b : Nat) (t : Addr), vs = [vn n, vn m, .ref t] ∧ SqT K H t [vn a, vn b] ∧ a ≤ 1000 ∧ b ≤ 1000 ∧ Q (.bl (between n m a b)) H
theorem scIsShare : FnScope ["part", "whole", "bounds"] ["part", "whole", "bounds"] (defScope sIsShare) := ⟨rfl, rfl, rfl, by decide +kernel, rfl, by decide +kernel, by decide +kernel⟩
theorem ok_isShare (T : Txt K mg A) : Ok P w K mg base CX0 1 A.isShare ["part", "whole", "bounds"] (spIsShare K) := by
  obtain ⟨fd, F, b⟩ := T.isShare.d
  refine ⟨fd, F.ok scIsShare (fun vs H Q E h => ?_) (fun cdv A' outer s H vs Q E hr h => ?_), b⟩
  · obtain ⟨n, m, a, b, t, rfl, _⟩ := h
    rfl
  · obtain ⟨n, m, a, b, t, rfl, ht, ha, hb, k⟩ := h
    refine ⟨_, pss_one (ps_ret (pe_and (pe_cmpR op_ge (pv 0) (pe_op op_mul (pe_ix ix_tup (pv 2) pe_int (fun _ _ => rfl)) (pv 1)) (nomark _)) (pe_one (pe_cmpR op_le (pv 0) (pe_op op_mul (pe_ix ix_tup (pv 2) pe_int (fun _ _ => rfl)) (pv 1)) (nomark _))))), ?_⟩
    unfold between at k
    refine ⟨_, rfl, _, rfl, t, _, _, _, rfl, rfl, ht, rfl, _, rfl, _, _, rfl, rfl, mul_ok (by omega), _, _, rfl, rfl, _, rfl, ite3 (fun c => ?_) (fun c => ?_)⟩
    · rw [← Int.natCast_mul, dec_le] at c
      refine ⟨_, rfl, _, rfl, t, _, _, _, rfl, rfl, ht, rfl, _, rfl, _, _, rfl, rfl, mul_ok (by omega), _, _, rfl, rfl, ?_⟩
      show Q (V.bl (decide ((n : Int) ≤ (b : Int) * (m : Int)))) H
      rw [← Int.natCast_mul, dec_le]
      rw [c, Bool.true_and] at k
      exact k
    · rw [← Int.natCast_mul, dec_le] at c
      rw [c, Bool.false_and] at k
      exact k
def spHeavyRight (A : Adr) : Sp := fun vs H Q _ => ∃ (h wa : Addr) (x : Hp5) (y : Wanted), vs = [.ref h, .ref wa] ∧ HeAt A H h x ∧ WaAt A H wa y ∧ Q (.bl (Tm.heavyRight x y)) H
theorem scHeavyRight : FnScope ["heap", "wanted"] ["heap", "wanted"] (defScope sHeavyRight) := ⟨rfl, rfl, rfl, by decide +kernel, rfl, by decide +kernel, by decide +kernel⟩
theorem ok_heavyRight (T : Txt K mg A) : Ok P w K mg base CX0 2 A.heavyRight ["heap", "wanted"] (spHeavyRight A) := by
  obtain ⟨fd, F, b⟩ := T.heavyRight.d
  obtain ⟨fl, G, bl⟩ := ok_lies (P := P) (w := w) (base := base) T
  refine ⟨fd, F.ok scHeavyRight (fun vs H Q E h => ?_) (fun cdv A' outer s H vs Q E hr h => ?_), b⟩
  · obtain ⟨h, wa, x, y, rfl, _⟩ := h
    rfl
  · obtain ⟨h, wa, x, y, rfl, ⟨dx, hh⟩, ⟨dw, t1, t2, t3, hw, e1, e2, e3⟩, k⟩ := h
    refine ⟨_, pss_one (ps_ret (pe_and (pe_cmpR op_gt (pe_fld (pv 0) rfl) pe_int (nomark _)) (pe_one (pe_call G hr rfl T.lies.g T.lies.k bl .nil pass0 (pa_cons (pe_fld (pv 0) rfl) (pa_cons (pe_fld (pv 1) rfl) pa_nil)))))), ?_⟩
    unfold Tm.heavyRight at k
    refine ⟨_, rfl, h, _, dx, _, _, rfl, hh, T.heapC.cl, T.he_many, heF_many x, _, _, rfl, rfl, _, rfl, ite3 (fun c => ?_) (fun c => ?_)⟩
    · have c' : decide (0 < x.many) = true := (dec_lt (a := 0) (b := x.many)).symm.trans c
      rw [c', Bool.true_and] at k
      exact ⟨_, rfl, h, _, dx, _, _, rfl, hh, T.heapC.cl, T.he_weight, heF_weight x, _, rfl, wa, _, dw, _, _, rfl, hw, T.wantedC.cl, T.wa_heavy, waF_heavy t1 t2 t3, x.weight, y.light, y.heavy, t1, rfl, sqt e1, k⟩
    · have c' : decide (0 < x.many) = false := (dec_lt (a := 0) (b := x.many)).symm.trans c
      rw [c', Bool.false_and] at k
      exact k

/-! ### wrong_alone -/
/-- thousandths are at most 1000 -/
structure WOk (w : Wanted) : Prop where
  a : w.copperLow ≤ 1000
  b : w.copperHigh ≤ 1000
  c : w.zincLow ≤ 1000
  d : w.zincHigh ≤ 1000
theorem wok_of {w : Wanted} (h : Tm.areWants w = true) : WOk w := by
  unfold Tm.areWants at h
  split at h
  · cases h
  · unfold Tm.bounds at h
    simp only [Bool.and_eq_true, decide_eq_true_eq] at h
    exact ⟨by omega, by omega, by omega, by omega⟩
def spWrongAlone (A : Adr) : Sp := fun vs H Q _ => ∃ (h wa : Addr) (x : Hp5) (y : Wanted), vs = [.ref h, .ref wa] ∧ HeAt A H h x ∧ WaAt A H wa y ∧ WOk y ∧ Q (vn (Tm.wrongAlone x y)) H
theorem scWrongAlone : FnScope ["heap", "wanted"] ["heap", "wanted"] (defScope sWrongAlone) := ⟨rfl, rfl, rfl, by decide +kernel, rfl, by decide +kernel, by decide +kernel⟩
theorem ok_wrongAlone (T : Txt K mg A) : Ok P w K mg base CX0 3 A.wrongAlone ["heap", "wanted"] (spWrongAlone A) := by
  obtain ⟨fd, F, b⟩ := T.wrongAlone.d
  obtain ⟨f1, G1, b1⟩ := ok_heavyRight (P := P) (w := w) (base := base) T
  obtain ⟨f2, G2, b2⟩ := ok_isShare (P := P) (w := w) (base := base) T
  obtain ⟨tF, gF⟩ := T.c_FINE
  refine ⟨fd, F.ok scWrongAlone (fun vs H Q E h => ?_) (fun cdv A' outer s H vs Q E hr h => ?_), b⟩
  · obtain ⟨h, wa, x, y, rfl, _⟩ := h
    rfl
  · obtain ⟨h, wa, x, y, rfl, hx, hy, ok, k⟩ := h
    have hr1 : Room 1 _ := hr.mono (by decide)
    refine ⟨_, pss_cons (ps_if (pt_not (pt_val (pe_call G1 hr rfl T.heavyRight.g T.heavyRight.k b1 .nil pass0 (pa_cons (pv 0) (pa_cons (pv 1) pa_nil))))) (pss_one (ps_ret pe_int)) pss_nil)
      (pss_cons (ps_if (pt_not (pt_val (pe_call G2 hr1 rfl T.isShare.g T.isShare.k b2 .nil pass0 (pa_cons (pe_fld (pv 0) rfl) (pa_cons (pe_fld (pv 0) rfl) (pa_cons (pe_fld (pv 1) rfl) pa_nil)))))) (pss_one (ps_ret pe_int)) pss_nil)
      (pss_cons (ps_if (pt_not (pt_val (pe_call G2 hr1 rfl T.isShare.g T.isShare.k b2 .nil pass0 (pa_cons (pe_fld (pv 0) rfl) (pa_cons (pe_fld (pv 0) rfl) (pa_cons (pe_fld (pv 1) rfl) pa_nil)))))) (pss_one (ps_ret pe_int)) pss_nil)
      (pss_one (ps_ret (pe_glob (v := .int 0) rfl gF ⟨_, rfl⟩))))), ?_⟩
    obtain ⟨dx, hh⟩ := id hx
    obtain ⟨dw, t1, t2, t3, hw, e1, e2, e3⟩ := id hy
    unfold Tm.wrongAlone at k
    refine ⟨_, rfl, _, rfl, h, wa, x, y, rfl, hx, hy, _, rfl, ite3 (fun c => ?_) (fun c => ?_)⟩
    · rw [if_pos (by simpa using c)] at k
      exact k
    · have c1 : Tm.heavyRight x y = true := by simpa using c
      rw [c1, if_neg (by decide)] at k
      refine ⟨_, rfl, h, _, dx, _, _, rfl, hh, T.heapC.cl, T.he_copper, heF_copper x, _, rfl, h, _, dx, _, _, rfl, hh, T.heapC.cl, T.he_weight, heF_weight x, _, rfl, wa, _, dw, _, _, rfl, hw, T.wantedC.cl, T.wa_copper, waF_copper t1 t2 t3,
        x.copper, x.weight, y.copperLow, y.copperHigh, t2, rfl, sqt e2, ok.a, ok.b, _, rfl, ite3 (fun c => ?_) (fun c => ?_)⟩
      · rw [if_pos (by simpa using c)] at k
        exact k
      · have c2 : between x.copper x.weight y.copperLow y.copperHigh = true := by simpa using c
        rw [c2, if_neg (by decide)] at k
        refine ⟨_, rfl, h, _, dx, _, _, rfl, hh, T.heapC.cl, T.he_zinc, heF_zinc x, _, rfl, h, _, dx, _, _, rfl, hh, T.heapC.cl, T.he_weight, heF_weight x, _, rfl, wa, _, dw, _, _, rfl, hw, T.wantedC.cl, T.wa_zinc, waF_zinc t1 t2 t3,
          x.zinc, x.weight, y.zincLow, y.zincHigh, t3, rfl, sqt e3, ok.c, ok.d, _, rfl, ite3 (fun c => ?_) (fun c => ?_)⟩
        · rw [if_pos (by simpa using c)] at k
          exact k
        · have c3 : between x.zinc x.weight y.zincLow y.zincHigh = true := by simpa using c
          rw [c3, if_neg (by decide)] at k
          exact k

/-! ### mixed, wrong_behind, wrong_both -/
def spMixed : Sp := fun vs H Q _ => ∃ (a b c d : Nat), vs = [vn a, vn b, vn c, vn d] ∧ d ≤ 10000 ∧ b ≤ 10000 ∧ Q (vn (a * d + b * c)) H
theorem scMixed : FnScope ["second", "stayed", "first", "weight"] ["second", "stayed", "first", "weight"] (defScope sMixed) := ⟨rfl, rfl, rfl, by decide +kernel, rfl, by decide +kernel, by decide +kernel⟩
theorem ok_mixed (T : Txt K mg A) : Ok P w K mg base CX0 1 A.mixed ["second", "stayed", "first", "weight"] spMixed := by
  obtain ⟨fd, F, b⟩ := T.mixed.d
  refine ⟨fd, F.ok scMixed (fun vs H Q E h => ?_) (fun cdv A' outer s H vs Q E hr h => ?_), b⟩
  · obtain ⟨a, b, c, d, rfl, _⟩ := h
    rfl
  · obtain ⟨a, b, c, d, rfl, hd, hb, k⟩ := h
    refine ⟨_, pss_one (ps_ret (pe_op op_add (pe_op op_mul (pv 0) (pv 3)) (pe_op op_mul (pv 1) (pv 2)))), ?_⟩
    refine ⟨_, rfl, _, rfl, _, _, rfl, rfl, mul_ok' (by omega), _, rfl, _, rfl, _, _, rfl, rfl, mul_ok (by omega), _, _, rfl, rfl, ?_⟩
    exact k
def spWrongBehind (A : Adr) : Sp := fun vs H Q _ => ∃ (h wa f : Addr) (x z : Hp5) (y : Wanted) (n : Nat), vs = [.ref h, .ref wa, .ref f, vn n] ∧ HeAt A H h x ∧ WaAt A H wa y ∧ WOk y ∧ HeAt A H f z ∧ z.weight ≤ 1400 ∧ n ≤ 200 ∧ Q (vn (Tm.wrongBehind x y z n)) H
theorem scWrongBehind : FnScope ["heap", "wanted", "first", "stays", "whole"] ["heap", "wanted", "first", "stays"] (defScope sWrongBehind) := ⟨rfl, rfl, rfl, by decide +kernel, rfl, by decide +kernel, by decide +kernel⟩
theorem ok_wrongBehind (T : Txt K mg A) : Ok P w K mg base CX0 3 A.wrongBehind ["heap", "wanted", "first", "stays"] (spWrongBehind A) := by
  obtain ⟨fd, F, b⟩ := T.wrongBehind.d
  obtain ⟨f1, G1, b1⟩ := ok_heavyRight (P := P) (w := w) (base := base) T
  obtain ⟨f2, G2, b2⟩ := ok_isShare (P := P) (w := w) (base := base) T
  obtain ⟨f3, G3, b3⟩ := ok_mixed (P := P) (w := w) (base := base) T
  obtain ⟨tF, gF⟩ := T.c_FINE
  refine ⟨fd, F.ok scWrongBehind (fun vs H Q E h => ?_) (fun cdv A' outer s H vs Q E hr h => ?_), b⟩
  · obtain ⟨h, wa, f, x, z, y, n, rfl, _⟩ := h
    rfl
  · obtain ⟨h, wa, f, x, z, y, n, rfl, hx, hy, ok, hz, zw, hn, k⟩ := h
    have hr1 : Room 1 _ := hr.mono (by decide)
    refine ⟨_, pss_cons (ps_if (pt_not (pt_val (pe_call G1 hr rfl T.heavyRight.g T.heavyRight.k b1 .nil pass0 (pa_cons (pv 0) (pa_cons (pv 1) pa_nil))))) (pss_one (ps_ret pe_int)) pss_nil)
      (pss_cons (ps_set (i := 4) scWrongBehind.nd rfl (Or.inl rfl) (pe_op op_mul (pe_op op_add (pe_fld (pv 0) rfl) (pv 3)) (pe_fld (pv 2) rfl)))
      (pss_cons (ps_if (pt_not (pt_val (pe_call G2 hr1 rfl T.isShare.g T.isShare.k b2 .nil pass0 (pa_cons (pe_call G3 hr1 rfl T.mixed.g T.mixed.k b3 .nil pass0 (pa_cons (pe_fld (pv 0) rfl) (pa_cons (pv 3) (pa_cons (pe_fld (pv 2) rfl) (pa_cons (pe_fld (pv 2) rfl) pa_nil))))) (pa_cons (pv 4) (pa_cons (pe_fld (pv 1) rfl) pa_nil)))))) (pss_one (ps_ret pe_int)) pss_nil)
      (pss_cons (ps_if (pt_not (pt_val (pe_call G2 hr1 rfl T.isShare.g T.isShare.k b2 .nil pass0 (pa_cons (pe_call G3 hr1 rfl T.mixed.g T.mixed.k b3 .nil pass0 (pa_cons (pe_fld (pv 0) rfl) (pa_cons (pv 3) (pa_cons (pe_fld (pv 2) rfl) (pa_cons (pe_fld (pv 2) rfl) pa_nil))))) (pa_cons (pv 4) (pa_cons (pe_fld (pv 1) rfl) pa_nil)))))) (pss_one (ps_ret pe_int)) pss_nil)
      (pss_one (ps_ret (pe_glob (v := .int 0) rfl gF ⟨_, rfl⟩)))))), ?_⟩
    obtain ⟨dx, hh⟩ := id hx
    obtain ⟨dz, hf⟩ := id hz
    obtain ⟨dw, t1, t2, t3, hw, e1, e2, e3⟩ := id hy
    unfold Tm.wrongBehind at k
    refine ⟨_, rfl, _, rfl, h, wa, x, y, rfl, hx, hy, _, rfl, ite3 (fun c => ?_) (fun c => ?_)⟩
    · rw [if_pos (by simpa using c)] at k
      exact k
    · have c1 : Tm.heavyRight x y = true := by simpa using c
      rw [c1, if_neg (by decide)] at k
      refine ⟨_, rfl, h, _, dx, _, _, rfl, hh, T.heapC.cl, T.he_weight, heF_weight x, _, rfl, _, _, rfl, rfl, _, rfl, f, _, dz, _, _, rfl, hf, T.heapC.cl, T.he_weight, heF_weight z, _, _, rfl, rfl, mul_ok' (by omega), ?_⟩
      refine ⟨_, rfl, h, _, dx, _, _, rfl, hh, T.heapC.cl, T.he_copper, heF_copper x, _, rfl, _, rfl, f, _, dz, _, _, rfl, hf, T.heapC.cl, T.he_copper, heF_copper z, _, rfl, f, _, dz, _, _, rfl, hf, T.heapC.cl, T.he_weight, heF_weight z,
        x.copper, n, z.copper, z.weight, rfl, by omega, by omega, _, rfl, _, rfl, wa, _, dw, _, _, rfl, hw, T.wantedC.cl, T.wa_copper, waF_copper t1 t2 t3,
        x.copper * z.weight + n * z.copper, (x.weight + n) * z.weight, y.copperLow, y.copperHigh, t2, rfl, sqt e2, ok.a, ok.b, _, rfl, ite3 (fun c => ?_) (fun c => ?_)⟩
      · rw [if_pos (by simpa using c)] at k
        exact k
      · have c2 : between (x.copper * z.weight + n * z.copper) ((x.weight + n) * z.weight) y.copperLow y.copperHigh = true := by simpa using c
        rw [c2, if_neg (by decide)] at k
        refine ⟨_, rfl, h, _, dx, _, _, rfl, hh, T.heapC.cl, T.he_zinc, heF_zinc x, _, rfl, _, rfl, f, _, dz, _, _, rfl, hf, T.heapC.cl, T.he_zinc, heF_zinc z, _, rfl, f, _, dz, _, _, rfl, hf, T.heapC.cl, T.he_weight, heF_weight z,
          x.zinc, n, z.zinc, z.weight, rfl, by omega, by omega, _, rfl, _, rfl, wa, _, dw, _, _, rfl, hw, T.wantedC.cl, T.wa_zinc, waF_zinc t1 t2 t3,
          x.zinc * z.weight + n * z.zinc, (x.weight + n) * z.weight, y.zincLow, y.zincHigh, t3, rfl, sqt e3, ok.c, ok.d, _, rfl, ite3 (fun c => ?_) (fun c => ?_)⟩
        · rw [if_pos (by simpa using c)] at k
          exact k
        · have c3 : between (x.zinc * z.weight + n * z.zinc) ((x.weight + n) * z.weight) y.zincLow y.zincHigh = true := by simpa using c
          rw [c3, if_neg (by decide)] at k
          exact k
def spWrongBoth (K : PySem.W.Frag) (A : Adr) : Sp := fun vs H Q _ => ∃ (f g t w0 w1 : Addr) (x z : Hp5) (y0 y1 : Wanted) (n : Nat), vs = [.ref f, .ref g, .ref t, vn n] ∧ HeAt A H f x ∧ HeAt A H g z ∧ SqT K H t [.ref w0, .ref w1] ∧
  WaAt A H w0 y0 ∧ WaAt A H w1 y1 ∧ WOk y0 ∧ WOk y1 ∧ x.weight ≤ 1400 ∧ n ≤ 200 ∧ Q (vn (Tm.wrongBoth x z y0 y1 n)) H
theorem scWrongBoth : FnScope ["first", "second", "wants", "stays", "found"] ["first", "second", "wants", "stays"] (defScope sWrongBoth) := ⟨rfl, rfl, rfl, by decide +kernel, rfl, by decide +kernel, by decide +kernel⟩
theorem ok_wrongBoth (T : Txt K mg A) : Ok P w K mg base CX0 4 A.wrongBoth ["first", "second", "wants", "stays"] (spWrongBoth K A) := by
  obtain ⟨fd, F, b⟩ := T.wrongBoth.d
  obtain ⟨f1, G1, b1⟩ := ok_wrongAlone (P := P) (w := w) (base := base) T
  obtain ⟨f2, G2, b2⟩ := ok_wrongBehind (P := P) (w := w) (base := base) T
  obtain ⟨tF, gF⟩ := T.c_FINE
  refine ⟨fd, F.ok scWrongBoth (fun vs H Q E h => ?_) (fun cdv A' outer s H vs Q E hr h => ?_), b⟩
  · obtain ⟨f, g, t, w0, w1, x, z, y0, y1, n, rfl, _⟩ := h
    rfl
  · obtain ⟨f, g, t, w0, w1, x, z, y0, y1, n, rfl, hx, hz, ht, h0, h1, o0, o1, xw, hn, k⟩ := h
    refine ⟨_, pss_cons (ps_set (i := 4) scWrongBoth.nd rfl (Or.inl rfl) (pe_call G1 hr rfl T.wrongAlone.g T.wrongAlone.k b1 .nil pass0 (pa_cons (pv 0) (pa_cons (pe_ix ix_tup (pv 2) pe_int (fun _ _ => rfl)) pa_nil))))
      (pss_cons (ps_if (pt_cmpR op_ne (pv 4) (pe_glob (v := .int 0) rfl gF ⟨_, rfl⟩) (nomark _)) (pss_one (ps_ret (pv 4))) pss_nil)
      (pss_cons (ps_if (pt_cmpR op_lt (pe_fld (pv 0) rfl) (pv 3) (nomark _)) (pss_one (ps_ret pe_int)) pss_nil)
      (pss_one (ps_ret (pe_call G2 hr rfl T.wrongBehind.g T.wrongBehind.k b2 .nil pass0 (pa_cons (pv 1) (pa_cons (pe_ix ix_tup (pv 2) pe_int (fun _ _ => rfl)) (pa_cons (pv 0) (pa_cons (pv 3) pa_nil))))))))), ?_⟩
    obtain ⟨dx, hh⟩ := id hx
    unfold Tm.wrongBoth at k
    refine ⟨_, rfl, _, rfl, t, _, _, _, rfl, rfl, ht, rfl, f, w0, x, y0, rfl, hx, h0, o0, ?_⟩
    refine ⟨_, rfl, rfl, _, rfl, ite3 (fun c => ?_) (fun c => ?_)⟩
    · have c1 : Tm.wrongAlone x y0 ≠ 0 := fun e => by rw [e] at c; exact absurd c (by decide)
      rw [if_pos c1] at k
      exact ⟨_, rfl, k⟩
    · have c1 : Tm.wrongAlone x y0 = 0 := by
        by_cases e : Tm.wrongAlone x y0 = 0
        · exact e
        · exfalso
          have q : decide (V.int ((Tm.wrongAlone x y0 : Nat) : Int) = V.int 0) = false := by
            have := dec_vn (a := Tm.wrongAlone x y0) (b := 0)
            rw [decide_eq_false e] at this
            exact this
          rw [q] at c
          cases c
      rw [if_neg (fun z => z c1)] at k
      refine ⟨_, rfl, f, _, dx, _, _, rfl, hh, T.heapC.cl, T.he_weight, heF_weight x, _, rfl, _, _, rfl, rfl, _, rfl, ite3 (fun c => ?_) (fun c => ?_)⟩
      · rw [dec_lt] at c
        rw [if_pos (of_decide_eq_true c)] at k
        exact k
      · rw [dec_lt] at c
        rw [if_neg (of_decide_eq_false c)] at k
        exact ⟨_, rfl, _, rfl, t, _, _, _, rfl, rfl, ht, rfl, _, rfl, _, rfl, g, w1, f, z, x, y1, n, rfl, hz, h1, o1, hx, xw, hn, k⟩
end
end Tm
/-! TmC: heaps by a share, the best so far. -/
namespace Tm
open PySem PySem.Spec PyProof.Rows L2
open Sj14 (Crate Wanted)
section
variable {P : Program} {w : World} {K : PySem.W.Frag} {mg : Str → Option Value} {base : Heap} {A : Adr}

/-! ### heap_of, heap_not_left -/
/-- [x for x, y in zip(l, sl) if ..]: those whose number y meets P -/
theorem rd_zip {i j : Nat} {tt : TT} {σ : L2.St} {H : Hp} {Q : VK} {l sl : Addr} {as : List Addr} {xs : List Nat} (P : Nat → Bool)
    (h0 : σ[0]? = some (some (.ref l))) (h1 : σ[1]? = some (some (.ref sl))) (hl : SqL K H l (as.map V.ref)) (hs : SqL K H sl (xs.map vn)) (he : as.length = xs.length) (hsz : as.length ≤ 7)
    (hw : ∀ x y, wipe (((wipe σ [i, j]).set i (some x)).set j (some y)) [i, j] = wipe σ [i, j])
    (hi : ∀ x y, (((wipe σ [i, j]).set i (some x)).set j (some y))[i]? = some (some x))
    (ht : ∀ (x : V) (n : Nat) (H' : Hp) (R : Bool → Hp → Prop), R (P n) H' → tt (((wipe σ [i, j]).set i (some x)).set j (some (vn n))) H' R)
    (k : ∀ D H', H D = none → Same H H' → H' D = some (.lst ((pickP (fun i => P (xs.getD i 0)) as).map V.ref)) → Q (.ref D) H') :
    tLc (iZip K (tCons (tVar 0) (tCons (tVar 1) tNil))) (gTup K 2 (gCons (gName i) (gCons (gName j) gNil))) tt (tVar i) [i, j] σ H Q := by
  refine ⟨_, h0, _, h1, l, sl, _, _, rfl, hl, hs, fun D hD => ⟨fun n m H' => m = as.length - n ∧ n ≤ as.length ∧ Same H H' ∧ H' D = some (.lst ((pickP (fun i => P (xs.getD i 0)) (as.take n)).map V.ref)), ⟨as.length, rfl, Nat.zero_le _, same_upd hD, upd_same⟩, ?_⟩⟩
  rintro n m H' ⟨rfl, hn, s, e⟩
  by_cases hlt : n < as.length
  · have ha : as[n]? = some as[n] := List.getElem?_eq_getElem hlt
    have hlt2 : n < xs.length := he ▸ hlt
    have hx : xs[n]? = some xs[n] := List.getElem?_eq_getElem hlt2
    have ga : (as.map V.ref)[n]? = some (.ref as[n]) := by rw [List.getElem?_map, ha]; rfl
    have gx : (xs.map vn)[n]? = some (vn xs[n]) := by rw [List.getElem?_map, hx]; rfl
    have gd : xs.getD n 0 = xs[n] := by rw [List.getD_eq_getElem?_getD, hx]; rfl
    have pk := pickP_take (P := fun i => P (xs.getD i 0)) ha
    refine .inr ⟨⟨_, _, _, _, s.seq hl, s.seq hs, ga, gx⟩, fun H2 => Same H H2 ∧ H2 D = some (.lst ((pickP (fun i => P (xs.getD i 0)) (as.take (n + 1))).map V.ref)), fun H2 h2 => ⟨as.length - (n + 1), by omega, rfl, hlt, h2⟩, fun v H2 y => ?_⟩
    obtain ⟨T, x', y', rfl, hT, rfl, f1, f2⟩ := y
    have ex : x' = .ref as[n] := Option.some.inj ((f1 _ (s.seq hl)).symm.trans ga)
    have ey : y' = vn xs[n] := Option.some.inj ((f2 _ (s.seq hs)).symm.trans gx)
    subst ex ey
    have nDT : D ≠ T := ne_of_none e hT
    have eT : (upd H' T (.tup [.ref as[n], vn xs[n]])) D = some (.lst ((pickP (fun i => P (xs.getD i 0)) (as.take n)).map V.ref)) := by rw [upd_ne nDT]; exact e
    have sT : Same H (upd H' T (.tup [.ref as[n], vn xs[n]])) := s.trans (same_upd hT)
    refine ⟨T, [.ref as[n], vn xs[n]], rfl, sqt upd_same, rfl, _, _, rfl, _, _, rfl, rfl, hw _ _, ht _ _ _ _ (ite3 (fun c => ?_) (fun c => ?_))⟩
    · refine ⟨_, hi _ _, _, eT, ?_, same_but sT hD, ?_⟩
      · rw [List.length_map]
        refine small_line (Nat.le_trans pickP_len ?_)
        rw [List.length_take]
        exact Nat.le_trans (Nat.min_le_right _ _) (Nat.le_trans hsz (by decide))
      · rw [upd_same, pk, gd, if_pos c, List.map_append]
        rfl
    · refine ⟨sT, ?_⟩
      rw [pk, gd, if_neg (by rw [c]; decide), List.append_nil]
      exact eT
  · have en : n = as.length := by omega
    subst en
    rw [List.take_length] at e
    exact .inl ⟨⟨_, _, s.seq hl, s.seq hs, .inl (by rw [List.length_map]; exact Nat.le_refl _)⟩, k D H' hD s e⟩
/-- Heap(l) -/
theorem rd_mkHeap {H : Hp} {l : Addr} {as : List Addr} {cs : List Crate} {Q : VK} {E : XK} (hl : H l = some (.lst (as.map V.ref))) (hc : Crs A H as cs) (hs : Small cs) (k : ∀ x H', H x = none → Same H H' → HeAt A H' x (heap cs) → Q (.ref x) H') :
    ∀ x dx, H x = none → H dx = none → dx ≠ x → spHeapI K A (.ref x :: ([.ref l] ++ [])) (upd (upd H dx (.own x)) x (.ins A.cHeap dx [])) (fun v H2 => v = .non ∧ Q (.ref x) H2) E := by
  intro x dx nx nd ne
  exact ⟨x, dx, l, as, cs, rfl, upd_same, same_made nx nd _ _ hl, hc.same (same_made nx nd), hs, fun H' b e => ⟨rfl, k x H' nx (But.made nx nd b) ⟨dx, e⟩⟩⟩
def spHeapOf (K : PySem.W.Frag) (A : Adr) : Sp := fun vs H Q _ => ∃ (l sl : Addr) (m : Nat) (as : List Addr) (cs : List Crate) (xs : List Nat), vs = [.ref l, .ref sl, vn m] ∧ H l = some (.lst (as.map V.ref)) ∧ SqL K H sl (xs.map vn) ∧ Crs A H as cs ∧ Small cs ∧ xs.length = cs.length ∧
  ∀ x H', H x = none → Same H H' → HeAt A H' x (heap (pickP (fun i => decide (xs.getD i 0 = m)) cs)) → Q (.ref x) H'
theorem scHeapOf : FnScope ["crates", "share", "mark", "crate", "own"] ["crates", "share", "mark"] (defScope sHeapOf) := ⟨rfl, rfl, rfl, by decide +kernel, rfl, by decide +kernel, by decide +kernel⟩
theorem ok_heapOf (T : Txt K mg A) : Ok P w K mg base CX0 3 A.heapOf ["crates", "share", "mark"] (spHeapOf K A) := by
  obtain ⟨fd, F, b⟩ := T.heapOf.d
  obtain ⟨fi, G, bi⟩ := ok_heapI (P := P) (w := w) (base := base) T
  refine ⟨fd, F.ok scHeapOf (fun vs H Q E h => ?_) (fun cdv A' outer s H vs Q E hr h => ?_), b⟩
  · obtain ⟨l, sl, m, as, cs, xs, rfl, _⟩ := h
    rfl
  · obtain ⟨l, sl, m, as, cs, xs, rfl, hl, hsl, hc, hs, hlen, k⟩ := h
    refine ⟨_, pss_one (ps_ret (pe_make T.heapC.m G hr rfl T.heapC.g bi .nil pass0 (pa_cons (pe_lc (own := [("crate", 3), ("own", 4)]) (g := gTup K 2 (gCons (gName 3) (gCons (gName 4) gNil))) (tt := tTest (tOp rEq (tVar 4) (tVar 2))) (te := tVar 3) rfl scHeapOf.nd
      (pi_zip (by rfl) T.zip (pa_cons (pv 0) (pa_cons (pv 1) pa_nil))) (blkOk_by (N := ["crates", "share", "mark", "crate", "own"]) (sc := defScope sHeapOf) (by decide +kernel))
      (fun _ _ _ _ _ => pg_tup rfl (pgs_cons (pg_name (i := 3) scHeapOf.nd rfl (Or.inl rfl)) (pgs_cons (pg_name (i := 4) scHeapOf.nd rfl (Or.inl rfl)) pgs_nil)))
      (fun _ _ _ _ _ => pts_one (pt_cmpR op_eq (pv 4) (pv 2) (nomark _))) (fun _ _ _ _ _ => pv 3)) pa_nil))), ?_⟩
    have elen : as.length = cs.length := paired_length hc
    show tLc (iZip K (tCons (tVar 0) (tCons (tVar 1) tNil))) (gTup K 2 (gCons (gName 3) (gCons (gName 4) gNil))) (tTest (tOp rEq (tVar 4) (tVar 2))) (tVar 3) [3, 4] [some (.ref l), some (.ref sl), some (vn m), none, none] H (fun y H1 => ∀ x dx, H1 x = none → H1 dx = none → dx ≠ x → spHeapI K A (.ref x :: ([y] ++ [])) (upd (upd H1 dx (.own x)) x (.ins A.cHeap dx [])) (fun v H2 => v = .non ∧ Q (.ref x) H2) E0)
    refine rd_zip (K := K) (i := 3) (j := 4) (σ := [some (.ref l), some (.ref sl), some (vn m), none, none]) (as := as) (xs := xs) (fun n => decide (n = m)) rfl rfl (sql hl) hsl (by omega) (by rw [elen]; exact hs.few) (fun _ _ => rfl) (fun _ _ => rfl) (fun x n H' R r => ?_) (fun D H' hD sD eD => ?_)
    · refine ⟨_, rfl, _, rfl, rfl, _, rfl, ?_⟩
      rw [dec_vn]
      exact r
    · refine rd_mkHeap eD (paired_pick (hc.same sD)) (hs.pick _) fun x H2 nx s2 h2 => ?_
      exact k x H2 (sD.free nx) (sD.trans s2) h2
def spHeapNot (K : PySem.W.Frag) (A : Adr) : Sp := fun vs H Q _ => ∃ (l sl : Addr) (as : List Addr) (cs : List Crate) (xs : List Nat), vs = [.ref l, .ref sl] ∧ H l = some (.lst (as.map V.ref)) ∧ SqL K H sl (xs.map vn) ∧ Crs A H as cs ∧ Small cs ∧ xs.length = cs.length ∧
  ∀ x H', H x = none → Same H H' → HeAt A H' x (heap (pickP (fun i => decide (xs.getD i 0 ≠ 0)) cs)) → Q (.ref x) H'
theorem scHeapNot : FnScope ["crates", "share", "crate", "own"] ["crates", "share"] (defScope sHeapNot) := ⟨rfl, rfl, rfl, by decide +kernel, rfl, by decide +kernel, by decide +kernel⟩
theorem ok_heapNot (T : Txt K mg A) : Ok P w K mg base CX0 3 A.heapNot ["crates", "share"] (spHeapNot K A) := by
  obtain ⟨fd, F, b⟩ := T.heapNot.d
  obtain ⟨fi, G, bi⟩ := ok_heapI (P := P) (w := w) (base := base) T
  refine ⟨fd, F.ok scHeapNot (fun vs H Q E h => ?_) (fun cdv A' outer s H vs Q E hr h => ?_), b⟩
  · obtain ⟨l, sl, as, cs, xs, rfl, _⟩ := h
    rfl
  · obtain ⟨l, sl, as, cs, xs, rfl, hl, hsl, hc, hs, hlen, k⟩ := h
    refine ⟨_, pss_one (ps_ret (pe_make T.heapC.m G hr rfl T.heapC.g bi .nil pass0 (pa_cons (pe_lc (own := [("crate", 2), ("own", 3)]) (g := gTup K 2 (gCons (gName 2) (gCons (gName 3) gNil))) (tt := tTest (tOp rNe (tVar 3) (tC (.int 0)))) (te := tVar 2) rfl scHeapNot.nd
      (pi_zip (by rfl) T.zip (pa_cons (pv 0) (pa_cons (pv 1) pa_nil))) (blkOk_by (N := ["crates", "share", "crate", "own"]) (sc := defScope sHeapNot) (by decide +kernel))
      (fun _ _ _ _ _ => pg_tup rfl (pgs_cons (pg_name (i := 2) scHeapNot.nd rfl (Or.inl rfl)) (pgs_cons (pg_name (i := 3) scHeapNot.nd rfl (Or.inl rfl)) pgs_nil)))
      (fun _ _ _ _ _ => pts_one (pt_cmpR op_ne (pv 3) pe_int (nomark _))) (fun _ _ _ _ _ => pv 2)) pa_nil))), ?_⟩
    have elen : as.length = cs.length := paired_length hc
    show tLc (iZip K (tCons (tVar 0) (tCons (tVar 1) tNil))) (gTup K 2 (gCons (gName 2) (gCons (gName 3) gNil))) (tTest (tOp rNe (tVar 3) (tC (.int 0)))) (tVar 2) [2, 3] [some (.ref l), some (.ref sl), none, none] H (fun y H1 => ∀ x dx, H1 x = none → H1 dx = none → dx ≠ x → spHeapI K A (.ref x :: ([y] ++ [])) (upd (upd H1 dx (.own x)) x (.ins A.cHeap dx [])) (fun v H2 => v = .non ∧ Q (.ref x) H2) E0)
    refine rd_zip (K := K) (i := 2) (j := 3) (σ := [some (.ref l), some (.ref sl), none, none]) (as := as) (xs := xs) (fun n => decide (n ≠ 0)) rfl rfl (sql hl) hsl (by omega) (by rw [elen]; exact hs.few) (fun _ _ => rfl) (fun _ _ => rfl) (fun x n H' R r => ?_) (fun D H' hD sD eD => ?_)
    · refine ⟨_, rfl, rfl, _, rfl, ?_⟩
      have e : (!decide (vn n = V.int 0)) = decide (n ≠ 0) := by
        have q := dec_vn (a := n) (b := 0)
        rw [show decide (vn n = V.int 0) = decide (n = 0) from q, decide_not]
      rw [e]
      exact r
    · refine rd_mkHeap eD (paired_pick (hc.same sD)) (hs.pick _) fun x H2 nx s2 h2 => ?_
      exact k x H2 (sD.free nx) (sD.trans s2) h2

/-! ### Yard.__init__ -/
def spYardI (A : Adr) : Sp := fun vs H Q _ => ∃ (p dx cl wl : Addr) (h : Nat), vs = [.ref p, .ref cl, .ref wl, vn h] ∧ H p = some (.ins A.cYard dx []) ∧ Q .non (upd H p (.ins A.cYard dx (yaF cl wl h)))
theorem scYardI : FnScope ["self", "crates", "wants", "stays"] ["self", "crates", "wants", "stays"] (defScope sYardI) := ⟨rfl, rfl, rfl, by decide +kernel, rfl, by decide +kernel, by decide +kernel⟩
theorem ok_yardI (T : Txt K mg A) : Ok P w K mg base CX0 1 A.iYard ["self", "crates", "wants", "stays"] (spYardI A) := by
  obtain ⟨fd, F, b⟩ := T.yardC.d
  refine ⟨fd, F.ok scYardI (fun vs H Q E h => ?_) (fun cdv A' outer s H vs Q E hr h => ?_), b⟩
  · obtain ⟨p, dx, cl, wl, n, rfl, _⟩ := h
    rfl
  · obtain ⟨p, dx, cl, wl, n, rfl, hp, k⟩ := h
    refine ⟨_, pss_cons (ps_fld (pv 0) (pv 1) rfl) (pss_cons (ps_fld (pv 0) (pv 2) rfl) (pss_one (ps_fld (pv 0) (pv 3) rfl))), ?_⟩
    refine ⟨_, rfl, _, rfl, p, A.cYard, dx, [], rfl, hp, T.yardC.cl, T.ya_crates, (by decide), ?_⟩
    refine ⟨_, rfl, _, rfl, p, A.cYard, dx, _, rfl, upd_same, T.yardC.cl, T.ya_wants, (by show 1 < 1000; decide), ?_⟩
    refine ⟨_, rfl, _, rfl, p, A.cYard, dx, _, rfl, upd_same, T.yardC.cl, T.ya_stays, (by show 2 < 1000; decide), ?_⟩
    simp only [upd_upd, yaF_put]
    exact k

/-! ### Best -/
/-- behind H0 (what stood before it, and all that it doesn't own) a best stands at b -/
structure BeAt (A : Adr) (H0 H : Hp) (b : Addr) (B : Bst V) : Prop where
  same : Same H0 H
  nb : H0 b = none
  ex : ∃ dx l, H0 l = none ∧ H b = some (.ins A.cBest dx (beF l B.cost B.weight)) ∧ H l = some (.lst B.some)
/-- what it may hold: numbers, lists of numbers -/
inductive Thing (H : Hp) : V → Prop
  | int (n : Nat) : Thing H (vn n)
  | lst {p : Addr} {ns : List Nat} : H p = some (.lst (ns.map vn)) → Thing H (.ref p)
theorem Thing.same {H H' : Hp} {v : V} (s : Same H H') : Thing H v → Thing H' v
  | .int n => .int n
  | .lst e => .lst (s _ _ e)
theorem ints_data {H : Hp} : ∀ ns : List Nat, ∃ ds, DpAll K H (ns.map vn) ds ∧ PyData.canLayAll0 ds = true ∧ PyData.depthAll ds = 0
  | [] => ⟨[], .nil, by simp only [PyData.canLayAll0], by simp only [PyData.depthAll]⟩
  | n :: ns => by
    obtain ⟨ds, h1, h2, h3⟩ := ints_data (H := H) ns
    exact ⟨.int n :: ds, .cons (.int _) h1, by simp only [PyData.canLayAll0, PyData.canLay0, h2, Bool.true_and], by simp only [PyData.depthAll, PyData.depth, h3, Nat.max_self]⟩
theorem things_data {H : Hp} : ∀ {vs : List V}, (∀ v ∈ vs, Thing H v) → ∃ ds, DpAll K H vs ds ∧ PyData.canLayAll0 ds = true ∧ PyData.depthAll ds ≤ 1 ∧ ds.isEmpty = vs.isEmpty
  | [], _ => ⟨[], .nil, by simp only [PyData.canLayAll0], by simp only [PyData.depthAll]; omega, rfl⟩
  | v :: vs, h => by
    obtain ⟨ds, h1, h2, h3, _⟩ := things_data fun x hx => h x (List.mem_cons_of_mem _ hx)
    cases h v List.mem_cons_self with
    | int n => exact ⟨.int n :: ds, .cons (.int _) h1, by simp only [PyData.canLayAll0, PyData.canLay0, h2, Bool.true_and], by simp only [PyData.depthAll, PyData.depth]; omega, rfl⟩
    | lst e =>
      rename_i p ns
      obtain ⟨es, g1, g2, g3⟩ := ints_data (K := K) (H := H) ns
      exact ⟨.list es :: ds, .cons (.lst (sql e) g1) h1, by simp only [PyData.canLayAll0, PyData.canLay0, g2, h2, Bool.true_and], by simp only [PyData.depthAll, PyData.depth, g3]; omega, rfl⟩
theorem list_shaped {ds : List PyData} (h2 : PyData.canLayAll0 ds = true) (h3 : PyData.depthAll ds ≤ 1) : SeqAt.shaped (.list ds) = true := by
  unfold SeqAt.shaped
  simp only [PyData.canLay0, PyData.depth, h2, Bool.true_and]
  exact decide_eq_true (by omega)
theorem eqv_nil (ds : List PyData) : PyData.eqv (.list ds) (.list []) = ds.isEmpty := by
  cases ds with
  | nil => simp only [PyData.eqv, PyData.eqvAll, List.isEmpty_nil]
  | cons d r => simp only [PyData.eqv, PyData.eqvAll, List.isEmpty_cons]
/-- x.some == [] -/
theorem rd_empty {H : Hp} {l p : Addr} {vs : List V} (hl : H l = some (.lst vs)) (hp : H p = some (.lst [])) (ht : ∀ v ∈ vs, Thing H v) {Q : VK} (k : Q (.bl vs.isEmpty) H) : rEqD K (.ref l) (.ref p) H Q := by
  obtain ⟨ds, h1, h2, h3, h4⟩ := things_data (K := K) ht
  refine ⟨.list ds, .list [], .lst (sql hl) h1, .lst (sql hp) .nil, list_shaped h2 h3, by decide, ?_⟩
  rw [eqv_nil, h4]
  exact k
/-- x.some != [] -/
theorem rd_full {H : Hp} {l p : Addr} {vs : List V} (hl : H l = some (.lst vs)) (hp : H p = some (.lst [])) (ht : ∀ v ∈ vs, Thing H v) {Q : VK} (k : Q (.bl (!vs.isEmpty)) H) : rNeD K (.ref l) (.ref p) H Q := by
  obtain ⟨ds, h1, h2, h3, h4⟩ := things_data (K := K) ht
  refine ⟨.list ds, .list [], .lst (sql hl) h1, .lst (sql hp) .nil, list_shaped h2 h3, by decide, ?_⟩
  rw [eqv_nil, h4]
  exact k
def spBestI (A : Adr) : Sp := fun vs H Q _ => ∃ (p dx : Addr), vs = [.ref p] ∧ H p = some (.ins A.cBest dx []) ∧ ∀ (H' : Hp) (l : Addr), But p H H' → H l = none → H' p = some (.ins A.cBest dx (beF l 0 0)) → H' l = some (.lst []) → Q .non H'
theorem scBestI : FnScope ["self"] ["self"] (defScope sBestI) := ⟨rfl, rfl, rfl, by decide +kernel, rfl, by decide +kernel, by decide +kernel⟩
theorem ok_bestI (T : Txt K mg A) : Ok P w K mg base CX0 1 A.iBest ["self"] (spBestI A) := by
  obtain ⟨fd, F, b⟩ := T.bestC.d
  refine ⟨fd, F.ok scBestI (fun vs H Q E h => ?_) (fun cdv A' outer s H vs Q E hr h => ?_), b⟩
  · obtain ⟨p, dx, rfl, _⟩ := h
    rfl
  · obtain ⟨p, dx, rfl, hp, k⟩ := h
    refine ⟨_, pss_cons (ps_fld (pv 0) (pe_lst pa_nil) rfl) (pss_cons (ps_fld (pv 0) pe_int rfl) (pss_one (ps_fld (pv 0) pe_int rfl))), ?_⟩
    refine ⟨Nat.zero_le _, fun l nl => ?_⟩
    have npl : p ≠ l := ne_of_none hp nl
    refine ⟨_, rfl, p, A.cBest, dx, [], rfl, by rw [upd_ne npl]; exact hp, T.bestC.cl, T.be_some, (by decide), ?_⟩
    refine ⟨_, rfl, p, A.cBest, dx, _, rfl, upd_same, T.bestC.cl, T.be_cost, (by show 1 < 1000; decide), ?_⟩
    refine ⟨_, rfl, p, A.cBest, dx, _, rfl, upd_same, T.bestC.cl, T.be_weight, (by show 2 < 1000; decide), ?_⟩
    simp only [upd_upd]
    refine k _ l (But.of_same (same_upd nl)).upd nl ?_ ?_
    · rw [upd_same]
      exact congrArg (fun q => some (HO.ins A.cBest dx q)) (beF_put l 0 0)
    · rw [upd_ne npl.symm, upd_same]
/-- Best() -/
theorem rd_mkBest {H : Hp} {Q : VK} {E : XK} (k : ∀ x H', H x = none → BeAt A H H' x Bst.none → Q (.ref x) H') :
    ∀ x dx, H x = none → H dx = none → dx ≠ x → spBestI A (.ref x :: ([] ++ [])) (upd (upd H dx (.own x)) x (.ins A.cBest dx [])) (fun v H2 => v = .non ∧ Q (.ref x) H2) E := by
  intro x dx nx nd ne
  exact ⟨x, dx, rfl, upd_same, fun H' l b nl e1 e2 => ⟨rfl, k x H' nx ⟨But.made nx nd b, nx, dx, l, (same_made nx nd).free nl, e1, e2⟩⟩⟩
def t_yes (K : PySem.W.Frag) : TS := tSeq (sFld K (tVar 0) (tLst (tCons (tVar 3) tNil)) "some") (tSeq (sFld K (tVar 0) (tVar 1) "cost") (sFld K (tVar 0) (tVar 2) "weight"))
def t_no (K : PySem.W.Frag) : TS := tIfS (tAnd (tTest (tOp rEq (tVar 1) (tFld K (tVar 0) "cost"))) (tTest (tOp rEq (tVar 2) (tFld K (tVar 0) "weight")))) (tDrop (tBM K "list" rAppend (tFld K (tVar 0) "some") (tCons (tVar 3) tNil))) tNext
def spTake (A : Adr) : Sp := fun vs H Q _ => ∃ (H0 : Hp) (b : Addr) (c w : Nat) (x : V) (B : Bst V), vs = [.ref b, vn c, vn w, x] ∧ BeAt A H0 H b B ∧ (∀ v ∈ B.some, Thing H0 v) ∧ B.some.length ≤ 100000 ∧
  ∀ H', BeAt A H0 H' b (B.take c w x) → Q .non H'
theorem scTake : FnScope ["self", "cost", "weight", "thing"] ["self", "cost", "weight", "thing"] (defScope sTake) := ⟨rfl, rfl, rfl, by decide +kernel, rfl, by decide +kernel, by decide +kernel⟩
theorem ok_take (T : Txt K mg A) : Ok P w K mg base CX0 1 A.take ["self", "cost", "weight", "thing"] (spTake A) := by
  obtain ⟨fd, F, b⟩ := T.takeM.d
  refine ⟨fd, F.ok scTake (fun vs H Q E h => ?_) (fun cdv A' outer s H vs Q E hr h => ?_), b⟩
  · obtain ⟨H0, b, c, w, x, B, rfl, _⟩ := h
    rfl
  · obtain ⟨H0, b, c, w, x, B, rfl, ⟨s0, nb, dx, l, nl, hb, hl⟩, ht, hz, k⟩ := h
    refine ⟨tIfS (tOr (tTest (tOp (rEqD K) (tFld K (tVar 0) "some") (tLst tNil))) (tOr (tTest (tOp (rI0 fun i j => .bl (decide (i < j))) (tVar 1) (tFld K (tVar 0) "cost"))) (tAnd (tTest (tOp rEq (tVar 1) (tFld K (tVar 0) "cost"))) (tTest (tOp (rI0 fun i j => .bl (decide (j < i))) (tVar 2) (tFld K (tVar 0) "weight"))))))
        (t_yes K) (t_no K), pss_one (ps_if (PW.pt (pw_or (pt_cmpR (op_eqD hr.units) (pe_fld (pv 0) rfl) (pe_lst pa_nil) (nomark _)) (pw_or (pt_cmpR op_lt (pv 1) (pe_fld (pv 0) rfl) (nomark _))
        (pw_or1 (PW.pt (pw_and (pt_cmpR op_eq (pv 1) (pe_fld (pv 0) rfl) (nomark _)) (pw_and1 (pt_cmpR op_gt (pv 2) (pe_fld (pv 0) rfl) (nomark _)))))))))
        (pss_cons (ps_fld (pv 0) (pe_lst (pa_cons (pv 3) pa_nil)) rfl) (pss_cons (ps_fld (pv 0) (pv 1) rfl) (pss_one (ps_fld (pv 0) (pv 2) rfl))))
        (pss_one (ps_if (PW.pt (pw_and (pt_cmpR op_eq (pv 1) (pe_fld (pv 0) rfl) (nomark _)) (pw_and1 (pt_cmpR op_eq (pv 2) (pe_fld (pv 0) rfl) (nomark _)))))
          (pss_one (ps_expr (pe_bm PySem.F.plainAttrs_list PySem.F.slot_list_append PySem.F.type_list_append mt_append (pe_fld (pv 0) rfl) (pa_cons (pv 3) pa_nil)))) pss_nil))), ?_⟩
    refine ⟨_, rfl, b, _, dx, _, _, rfl, hb, T.bestC.cl, T.be_some, beF_some _ _ _, Nat.zero_le _, fun p np => ?_⟩
    have nbl : b ≠ l := ne_of hb hl (by intro z; cases z)
    have nbp : b ≠ p := ne_of_none hb np
    have nlp : l ≠ p := ne_of_none hl np
    have s1 : Same H0 (upd H p (.lst [])) := s0.trans (same_upd np)
    have hb1 : (upd H p (.lst [])) b = some (.ins A.cBest dx (beF l B.cost B.weight)) := by rw [upd_ne nbp]; exact hb
    have hl1 : (upd H p (.lst [])) l = some (.lst B.some) := by rw [upd_ne nlp]; exact hl
    -- a better one
    have yes : B.better c w = true → t_yes K { nx := fun _ H' => Q .non H', rt := Q } [some (V.ref b), some (vn c), some (vn w), some x] (upd H p (.lst [])) := by
      intro hB
      refine ⟨_, rfl, le_line (by show 1 ≤ 16777216; decide), fun m nm => ?_⟩
      have nbm : b ≠ m := ne_of_none hb1 nm
      refine ⟨_, rfl, b, _, dx, _, rfl, by rw [upd_ne nbm]; exact hb1, T.bestC.cl, T.be_some, (by show 3 < 1000; decide), ?_⟩
      refine ⟨_, rfl, _, rfl, b, _, dx, _, rfl, upd_same, T.bestC.cl, T.be_cost, Nat.lt_of_le_of_lt (length_putF _ _ _) (by show 4 < 1000; decide), ?_⟩
      refine ⟨_, rfl, _, rfl, b, _, dx, _, rfl, upd_same, T.bestC.cl, T.be_weight, Nat.lt_of_le_of_lt (length_putF _ _ _) (Nat.lt_of_le_of_lt (Nat.succ_le_succ (length_putF _ _ _)) (by show 5 < 1000; decide)), ?_⟩
      simp only [upd_upd, beF_put3]
      have e : B.take c w x = ⟨[x], c, w⟩ := if_pos hB
      rw [e] at k
      refine k _ ⟨fun a o q => ?_, nb, dx, m, s1.free nm, upd_same, by rw [upd_ne nbm.symm, upd_same]⟩
      have nab : a ≠ b := fun z => by rw [z, nb] at q; cases q
      rw [upd_ne nab]
      exact same_upd nm _ _ (s1 _ _ q)
    have no : B.better c w = false → t_no K { nx := fun _ H' => Q .non H', rt := Q } [some (V.ref b), some (vn c), some (vn w), some x] (upd H p (.lst [])) := by
      intro hB
      have e : B.take c w x = if B.alike c w = true then { B with some := B.some ++ [x] } else B := if_neg (by rw [hB]; decide)
      rw [e] at k
      unfold Bst.alike at k
      have stay : ∀ (h : (if (decide (c = B.cost) && decide (w = B.weight)) = true then { B with some := B.some ++ [x] } else B) = B), Q .non (upd H p (.lst [])) := fun h => by
        rw [h] at k
        exact k _ ⟨s1, nb, dx, l, nl, hb1, hl1⟩
      refine ⟨_, rfl, _, rfl, b, _, dx, _, _, rfl, hb1, T.bestC.cl, T.be_cost, beF_cost _ _ _, rfl, _, rfl, ite3 (fun c1 => ?_) (fun c1 => ?_)⟩
      · rw [dec_vn] at c1
        refine ⟨_, rfl, _, rfl, b, _, dx, _, _, rfl, hb1, T.bestC.cl, T.be_weight, beF_weight _ _ _, rfl, _, rfl, ite3 (fun c2 => ?_) (fun c2 => ?_)⟩
        · rw [dec_vn] at c2
          rw [c1, c2, if_pos (show (true && true) = true from rfl)] at k
          refine ⟨_, rfl, b, _, dx, _, _, rfl, hb1, T.bestC.cl, T.be_some, beF_some _ _ _, .inl ⟨rfl, _, sql hl1⟩, _, rfl, l, _, _, rfl, rfl, hl1, small_line (by omega), ?_⟩
          refine k _ ⟨fun a o q => ?_, nb, dx, l, nl, by rw [upd_ne nbl]; exact hb1, upd_same⟩
          have nal : a ≠ l := fun z => by rw [z, nl] at q; cases q
          rw [upd_ne nal]
          exact s1 _ _ q
        · rw [dec_vn] at c2
          exact stay (if_neg (by rw [c2, Bool.and_false]; decide))
      · rw [dec_vn] at c1
        exact stay (if_neg (by rw [c1, Bool.false_and]; decide))
    refine rd_empty hl1 upd_same (fun v hv => (ht v hv).same s1) ⟨_, rfl, ite3 (fun c1 => ?_) (fun c1 => ?_)⟩
    · exact yes (by unfold Bst.better; rw [c1]; rfl)
    · refine ⟨_, rfl, _, rfl, b, _, dx, _, _, rfl, hb1, T.bestC.cl, T.be_cost, beF_cost _ _ _, _, _, rfl, rfl, _, rfl, ite3 (fun c2 => ?_) (fun c2 => ?_)⟩
      · rw [dec_lt] at c2
        exact yes (by unfold Bst.better; rw [c2]; simp)
      · rw [dec_lt] at c2
        refine ⟨_, rfl, _, rfl, b, _, dx, _, _, rfl, hb1, T.bestC.cl, T.be_cost, beF_cost _ _ _, rfl, _, rfl, ite3 (fun c3 => ?_) (fun c3 => ?_)⟩
        · rw [dec_vn] at c3
          refine ⟨_, rfl, _, rfl, b, _, dx, _, _, rfl, hb1, T.bestC.cl, T.be_weight, beF_weight _ _ _, _, _, rfl, rfl, _, rfl, ite3 (fun c4 => ?_) (fun c4 => ?_)⟩
          · rw [dec_lt] at c4
            exact yes (by unfold Bst.better; rw [c3, c4]; simp)
          · rw [dec_lt] at c4
            exact no (by unfold Bst.better; rw [c1, c2, c3, c4]; rfl)
        · rw [dec_vn] at c3
          exact no (by unfold Bst.better; rw [c1, c2, c3]; rfl)
/-- told(): cost, weight, how many -/
def spTold (A : Adr) : Sp := fun vs H Q _ => ∃ (H0 : Hp) (b : Addr) (B : Bst V), vs = [.ref b] ∧ BeAt A H0 H b B ∧ ∀ x, H x = none → Q (.ref x) (upd H x (.lst [vn B.cost, vn B.weight, vn B.some.length]))
theorem scTold : FnScope ["self"] ["self"] (defScope sTold) := ⟨rfl, rfl, rfl, by decide +kernel, rfl, by decide +kernel, by decide +kernel⟩
theorem ok_told (T : Txt K mg A) : Ok P w K mg base CX0 1 A.told ["self"] (spTold A) := by
  obtain ⟨fd, F, b⟩ := T.toldM.d
  refine ⟨fd, F.ok scTold (fun vs H Q E h => ?_) (fun cdv A' outer s H vs Q E hr h => ?_), b⟩
  · obtain ⟨H0, b, B, rfl, _⟩ := h
    rfl
  · obtain ⟨H0, b, B, rfl, ⟨s0, nb, dx, l, nl, hb, hl⟩, k⟩ := h
    refine ⟨_, pss_one (ps_ret (pe_lst (pa_cons (pe_fld (pv 0) rfl) (pa_cons (pe_fld (pv 0) rfl) (pa_cons (pe_callB call_len_seq (by rfl) T.len PySem.boot_len (pa_cons (pe_fld (pv 0) rfl) pa_nil)) pa_nil))))), ?_⟩
    exact ⟨_, rfl, b, _, dx, _, _, rfl, hb, T.bestC.cl, T.be_cost, beF_cost _ _ _, _, rfl, b, _, dx, _, _, rfl, hb, T.bestC.cl, T.be_weight, beF_weight _ _ _, _, rfl, b, _, dx, _, _, rfl, hb, T.bestC.cl, T.be_some, beF_some _ _ _, l, _, rfl, .inl (sql hl), le_line (by show 3 ≤ 16777216; decide), fun x nx => k x nx⟩
end
end Tm
/-! TmD: a plan's faults, all shares, the cheapest. -/
namespace Tm
open PySem PySem.Spec PyProof.Rows L2
open Sj14 (Crate Wanted)
section
variable {P : Program} {w : World} {K : PySem.W.Frag} {mg : Str → Option Value} {base : Heap} {A : Adr}

/-! ### wrong_plan -/
theorem Valid.small {s : Sj16.Shop} (V : Valid s) : Small s.crates := ⟨V.few, V.crates⟩
def spWrongPlan (K : PySem.W.Frag) (A : Adr) : Sp := fun vs H Q _ => ∃ (y sl : Addr) (k : Nat) (s : Sj16.Shop) (l : List Nat), vs = [.ref y, vn k, .ref sl] ∧ YaAt A H y s ∧ Valid s ∧ k < 2 ∧ SqL K H sl (l.map vn) ∧ l.length = s.crates.length ∧
  ∀ H', Same H H' → Q (vn (Tm.wrongPlan s k l)) H'
theorem scWrongPlan : FnScope ["yard", "first", "share", "one", "other"] ["yard", "first", "share"] (defScope sWrongPlan) := ⟨rfl, rfl, rfl, by decide +kernel, rfl, by decide +kernel, by decide +kernel⟩
theorem ok_wrongPlan (T : Txt K mg A) : Ok P w K mg base CX0 5 A.wrongPlan ["yard", "first", "share"] (spWrongPlan K A) := by
  obtain ⟨fd, F, b⟩ := T.wrongPlan.d
  obtain ⟨f1, G1, b1⟩ := ok_heapOf (P := P) (w := w) (base := base) T
  obtain ⟨f2, G2, b2⟩ := ok_wrongBoth (P := P) (w := w) (base := base) T
  obtain ⟨tM, gM⟩ := T.c_MELTS
  refine ⟨fd, F.ok scWrongPlan (fun vs H Q E h => ?_) (fun cdv A' outer s H vs Q E hr h => ?_), b⟩
  · obtain ⟨y, sl, k, s, l, rfl, _⟩ := h
    rfl
  · obtain ⟨y, sl, k, S, l, rfl, ⟨cl, wl, ⟨dy, hy⟩, ⟨as, hcl, hcs⟩, ⟨w0, w1, hwl, h0, h1⟩⟩, VA, hk, hsl, hlen, q⟩ := h
    have hr3 : Room 3 _ := hr.mono (by decide)
    refine ⟨_, pss_cons (ps_set (i := 3) scWrongPlan.nd rfl (Or.inl rfl) (pe_call G1 hr3 rfl T.heapOf.g T.heapOf.k b1 .nil pass0 (pa_cons (pe_fld (pv 0) rfl) (pa_cons (pv 2) (pa_cons (pe_op op_add (pv 1) pe_int) pa_nil)))))
      (pss_cons (ps_set (i := 4) scWrongPlan.nd rfl (Or.inl rfl) (pe_call G1 hr3 rfl T.heapOf.g T.heapOf.k b1 .nil pass0 (pa_cons (pe_fld (pv 0) rfl) (pa_cons (pv 2) (pa_cons (pe_op op_sub (pe_glob (v := .int 2) rfl gM ⟨_, rfl⟩) (pv 1)) pa_nil)))))
      (pss_one (ps_ret (pe_call G2 hr rfl T.wrongBoth.g T.wrongBoth.k b2 .nil pass0 (pa_cons (pv 3) (pa_cons (pv 4) (pa_cons (pe_tup (pa_cons (pe_ix ix_list (pe_fld (pv 0) rfl) (pv 1) (fun _ _ => rfl)) (pa_cons (pe_ix ix_list (pe_fld (pv 0) rfl) (pe_op op_sub pe_int (pv 1)) (fun _ _ => rfl)) pa_nil))) (pa_cons (pe_fld (pv 0) rfl) pa_nil)))))))), ?_⟩
    obtain ⟨wa, wb, g1, g2, ha, hb, oa, ob⟩ : ∃ wa wb, atI [V.ref w0, V.ref w1] (k : Int) = some (.ref wa) ∧ atI [V.ref w0, V.ref w1] ((1 : Int) - (k : Int)) = some (.ref wb) ∧ WaAt A H wa (want S k) ∧ WaAt A H wb (want S (1 - k)) ∧ WOk (want S k) ∧ WOk (want S (1 - k)) := by
      have e : k = 0 ∨ k = 1 := by omega
      rcases e with rfl | rfl
      · exact ⟨w0, w1, rfl, rfl, h0, h1, wok_of VA.first, wok_of VA.second⟩
      · exact ⟨w1, w0, rfl, rfl, h1, h0, wok_of VA.second, wok_of VA.first⟩
    have e2 : ((2 : Int) - (k : Int)) = ((2 - k : Nat) : Int) := by omega
    refine ⟨_, rfl, y, _, dy, _, _, rfl, hy, T.yardC.cl, T.ya_crates, yaF_crates _ _ _, _, rfl, _, rfl, _, _, rfl, rfl, cl, sl, k + 1, as, S.crates, l, rfl, hcl, hsl, hcs, VA.small, hlen, fun x1 H1 n1 s1 p1 => ?_⟩
    refine ⟨_, rfl, y, _, dy, _, _, rfl, s1 _ _ hy, T.yardC.cl, T.ya_crates, yaF_crates _ _ _, _, rfl, _, rfl, _, _, rfl, rfl, cl, sl, 2 - k, as, S.crates, l, (by show [V.ref cl, V.ref sl, V.int ((2 : Int) - (k : Int))] = _; rw [e2]), s1 _ _ hcl, s1.seq hsl, hcs.same s1, VA.small, hlen, fun x2 H2 n2 s2 p2 => ?_⟩
    have s12 := s1.trans s2
    refine ⟨_, rfl, _, rfl, _, rfl, y, _, dy, _, _, rfl, s12 _ _ hy, T.yardC.cl, T.ya_wants, yaF_wants _ _ _, _, rfl, wl, _, _, _, rfl, rfl, sql (s12 _ _ hwl), g1,
      _, rfl, y, _, dy, _, _, rfl, s12 _ _ hy, T.yardC.cl, T.ya_wants, yaF_wants _ _ _, _, rfl, _, _, rfl, rfl, wl, _, _, _, rfl, rfl, sql (s12 _ _ hwl), g2, le_line (by show 2 ≤ 16777216; decide), fun t nt => ?_⟩
    have s3 := s12.trans (same_upd (o := .tup [.ref wa, .ref wb]) nt)
    refine ⟨_, rfl, y, _, dy, _, _, rfl, s3 _ _ hy, T.yardC.cl, T.ya_stays, yaF_stays _ _ _, x1, x2, t, wa, wb, _, _, _, _, S.heel, rfl, (p1.same s2).same (same_upd nt), p2.same (same_upd nt), sqt upd_same, ha.same s3, hb.same s3, oa, ob, (VA.small.pick _).weight, VA.heel, ?_⟩
    exact q _ s3

/-! ### shares -/
def Rw (H0 H : Hp) (p : Addr) (l : List Nat) : Prop := H0 p = none ∧ H p = some (.lst (l.map vn))
theorem Rw.same {H0 H H' : Hp} {p : Addr} {l : List Nat} (s : Same H H') (h : Rw H0 H p l) : Rw H0 H' p l := ⟨h.1, s _ _ h.2⟩
structure ShAt (H0 H : Hp) (f : Addr) (L : List (List Nat)) : Prop where
  new : H0 f = none
  ex : ∃ ps : List Addr, H f = some (.lst (ps.map V.ref)) ∧ Paired (Rw H0 H) ps L
theorem shares_len : ∀ n, (Tm.shares n).length = 3 ^ n
  | 0 => rfl
  | n + 1 => by
    show ((Tm.shares n).flatMap fun l => [l ++ [0], l ++ [1], l ++ [2]]).length = 3 ^ (n + 1)
    rw [List.length_flatMap]
    have e : ∀ L : List (List Nat), (L.map fun l => [l ++ [0], l ++ [1], l ++ [2]].length).sum = L.length * 3 := by
      intro L
      induction L with
      | nil => rfl
      | cons a r ih =>
        rw [List.map_cons, List.sum_cons, ih]
        show 3 + r.length * 3 = (r.length + 1) * 3
        omega
    rw [e, shares_len n, Nat.pow_succ]
theorem shares_item {n : Nat} {l : List Nat} (h : l ∈ Tm.shares n) : l.length = n ∧ ∀ x ∈ l, x < 3 := by
  rw [shares_eq] at h
  exact rows_facts h
theorem pow3 {n : Nat} (h : n ≤ 7) : 3 ^ n ≤ 2187 := Nat.le_trans (Nat.pow_le_pow_right (by decide) h) (by decide)
def more (l : List Nat) : List (List Nat) := [l ++ [0], l ++ [1], l ++ [2]]
theorem more_len (L : List (List Nat)) : (L.flatMap more).length = L.length * 3 := by
  rw [List.length_flatMap]
  induction L with
  | nil => rfl
  | cons a r ih =>
    rw [List.map_cons, List.sum_cons, ih]
    show 3 + r.length * 3 = (r.length + 1) * 3
    omega
/-- as Rw, apart from a and b -/
def Rx (H0 H : Hp) (a b p : Addr) (l : List Nat) : Prop := H0 p = none ∧ p ≠ a ∧ p ≠ b ∧ H p = some (.lst (l.map vn))
theorem Rx.same {H0 H H' : Hp} {a b p : Addr} {l : List Nat} (s : Same H H') (h : Rx H0 H a b p l) : Rx H0 H' a b p l := ⟨h.1, h.2.1, h.2.2.1, s _ _ h.2.2.2⟩
theorem Rx.updA {H0 H : Hp} {a b p : Addr} {l : List Nat} {o : HO} (h : Rx H0 H a b p l) : Rx H0 (upd H a o) a b p l := ⟨h.1, h.2.1, h.2.2.1, by rw [upd_ne h.2.1]; exact h.2.2.2⟩
theorem Rx.updB {H0 H : Hp} {a b p : Addr} {l : List Nat} {o : HO} (h : Rx H0 H a b p l) : Rx H0 (upd H b o) a b p l := ⟨h.1, h.2.1, h.2.2.1, by rw [upd_ne h.2.2.1]; exact h.2.2.2⟩
def spShares : Sp := fun vs H Q _ => ∃ n : Nat, vs = [vn n] ∧ n ≤ 7 ∧ ∀ f H', Same H H' → ShAt H H' f (Tm.shares n) → Q (.ref f) H'
theorem scShares : FnScope ["many", "found", "crate", "longer", "share", "mark"] ["many"] (defScope sShares) := ⟨rfl, rfl, rfl, by decide +kernel, rfl, by decide +kernel, by decide +kernel⟩
theorem ok_shares (T : Txt K mg A) : Ok P w K mg base CX0 1 A.shares ["many"] spShares := by
  obtain ⟨fd, F, b⟩ := T.shares.d
  obtain ⟨tM, gM⟩ := T.c_MARKS
  refine ⟨fd, F.ok scShares (fun vs H Q E h => ?_) (fun cdv A' outer s H vs Q E hr h => ?_), b⟩
  · obtain ⟨n, rfl, _⟩ := h
    rfl
  · obtain ⟨n, rfl, hn, q⟩ := h
    refine ⟨_, pss_cons (ps_set (i := 1) scShares.nd rfl (Or.inl rfl) (pe_lst (pa_cons (pe_lst pa_nil) pa_nil)))
      (pss_cons (ps_for PassesOwn.never rfl (pi_range1 rfl T.range (pa_cons (pv 0) pa_nil)) (pg_name (i := 2) scShares.nd rfl (Or.inl rfl))
        (pss_cons (ps_set (i := 3) scShares.nd rfl (Or.inl rfl) (pe_lst pa_nil))
        (pss_cons (ps_for PassesOwn.never rfl (pi_list (pv 1)) (pg_name (i := 4) scShares.nd rfl (Or.inr rfl))
          (pss_one (ps_expr (pe_bm PySem.F.plainAttrs_list PySem.F.slot_list_extend PySem.F.type_list_extend mt_extend (pv 3)
            (pa_cons (pe_lc (own := [("mark", 5)]) (g := gName 5) (tt := tYes) (te := tOp rCat (tVar 4) (tLst (tCons (tVar 5) tNil))) rfl scShares.nd (pi_range1 rfl T.range (pa_cons (pe_glob (v := .int 3) rfl gM ⟨_, rfl⟩) pa_nil))
              (blkOk_by (N := ["many", "found", "crate", "longer", "share", "mark"]) (sc := defScope sShares) (by decide +kernel)) (fun _ _ _ _ _ => pg_name (i := 5) scShares.nd rfl (Or.inl rfl)) (fun _ _ _ _ _ => pts_nil)
              (fun _ _ _ _ _ => pe_op op_cat (pv 4) (pe_lst (pa_cons (pv 5) pa_nil)))) pa_nil)))))
        (pss_one (ps_set (i := 1) scShares.nd rfl (Or.inl rfl) (pv 3))))))
      (pss_one (ps_ret (pv 1)))), ?_⟩
    refine ⟨Nat.zero_le _, fun e ne => ⟨le_line (by show 1 ≤ 16777216; decide), fun f nf => ?_⟩⟩
    have sf := (same_upd (o := .lst []) ne).trans (same_upd (o := .lst [.ref e]) nf)
    have nef : e ≠ f := ne_of_none upd_same nf
    refine ⟨_, rfl, (n : Int), rfl, by omega, by omega, for_range (lo := 0) (n := n) (fun i σ H' => ∃ (f : Addr) (v2 v3 v4 : Option V), σ = [some (vn n), some (.ref f), v2, v3, v4, none] ∧ Same H H' ∧ ShAt H H' f (Tm.shares i))
      ⟨f, none, none, none, rfl, sf, (same_upd (o := .lst []) ne).free nf, [e], upd_same, .cons ⟨ne, by rw [upd_ne nef]; exact upd_same⟩ .nil⟩ ?_ ?_⟩
    · rintro i σ H' hi ⟨f, v2, v3, v4, rfl, s1, nf, ps, hf, hp⟩
      -- longer = []
      refine ⟨Nat.zero_le _, fun g ng => ?_⟩
      have sg := same_upd (o := .lst []) ng
      have elen : ps.length = (Tm.shares i).length := paired_length hp
      have hlen : (Tm.shares i).length ≤ 2187 := by rw [shares_len]; exact pow3 (by omega)
      refine ⟨_, rfl, f, rfl, ⟨_, sql (sg _ _ hf)⟩, for_list (K := K) (a := f) (xs := ps.map V.ref) (fun j σ H2 => ∃ (v4 : Option V), σ = [some (vn n), some (.ref f), some (.int (0 + (i : Int))), some (.ref g), v4, none] ∧ Same H' H2 ∧ ∃ qs : List Addr, H2 g = some (.lst (qs.map V.ref)) ∧ Paired (Rx H H2 g g) qs (((Tm.shares i).take j).flatMap more))
        ⟨v4, rfl, sg, [], upd_same, .nil⟩ (fun j σ H2 _ ⟨_, _, s2, _⟩ => s2.seq (sql hf)) ?_ ?_⟩
      · rintro j z σ H2 hz ⟨v4, rfl, s2, qs, hg, hq⟩
        obtain ⟨p, hpj, rfl⟩ : ∃ p, ps[j]? = some p ∧ z = V.ref p := by
          rw [List.getElem?_map] at hz
          cases e : ps[j]? with
          | none => rw [e] at hz; cases hz
          | some p => rw [e] at hz; exact ⟨p, rfl, (Option.some.inj hz).symm⟩
        obtain ⟨l, hl, np, hpl⟩ := paired_get hp hpj
        have hlm := shares_item (List.mem_of_getElem? hl)
        have hpl2 := s2 _ _ hpl
        have qlen : qs.length ≤ 2187 * 3 := by
          rw [paired_length hq, more_len, List.length_take]
          exact Nat.mul_le_mul_right 3 (Nat.le_trans (Nat.min_le_right _ _) hlen)
        -- the three longer ones
        refine ⟨_, rfl, .inl ⟨rfl, _, sql hg⟩, (3 : Int), rfl, by decide, by decide, fun D nD => ?_⟩
        have nDg : D ≠ g := fun z => by rw [z, hg] at nD; cases nD
        refine lc_range (lo := 0) (n := 3) (fun m H3 => Same H2 H3 ∧ ∃ rs : List Addr, H3 D = some (.lst (rs.map V.ref)) ∧ Paired (Rx H H3 D g) rs ((List.range m).map fun x => l ++ [x])) ⟨same_upd nD, [], upd_same, .nil⟩ ?_ ?_
        · rintro m H3 hm ⟨s3, rs, hD, hr3⟩
          have hs3 := s3 _ _ hpl2
          have hg3 := s3 _ _ hg
          have s13 := s1.trans (s2.trans s3)
          have go : tOp rCat (tVar 4) (tLst (tCons (tVar 5) tNil)) [some (vn n), some (.ref f), some (.int (0 + (i : Int))), some (.ref g), some (.ref p), some (.int (0 + (m : Int)))] H3 (fun y H4 => ∃ acc, H4 D = some (.lst acc) ∧ acc.length < sizeLine ∧
              (Same H2 (upd H4 D (.lst (acc ++ [y]))) ∧ ∃ rs : List Addr, (upd H4 D (.lst (acc ++ [y]))) D = some (.lst (rs.map V.ref)) ∧ Paired (Rx H (upd H4 D (.lst (acc ++ [y]))) D g) rs ((List.range (m + 1)).map fun x => l ++ [x]))) := by
            refine ⟨_, rfl, _, rfl, le_line (by show 1 ≤ 16777216; decide), fun a na => ?_⟩
            have sa := same_upd (o := .lst [.int (0 + (m : Int))]) na
            refine ⟨p, a, _, _, rfl, rfl, sa _ _ hs3, upd_same, ?_, fun r nr => ?_⟩
            · rw [List.length_map, hlm.1]
              exact le_line (by show i + 1 ≤ 16777216; omega)
            have s4 := sa.trans (same_upd (o := .lst (l.map vn ++ [.int (0 + (m : Int))])) nr)
            have nDr : D ≠ r := ne_of_none (sa _ _ hD) nr
            have ngr : g ≠ r := ne_of_none (sa _ _ hg3) nr
            refine ⟨_, s4 _ _ hD, ?_, same_but (s3.trans s4) nD, rs ++ [r], ?_, ?_⟩
            · rw [List.length_map, paired_length hr3, List.length_map, List.length_range]
              exact small_line (by omega)
            · rw [upd_same, List.map_append]
              rfl
            · rw [List.range_succ, List.map_append]
              refine paired_append (paired_mono (fun x y h => (h.same s4).updA) hr3) (.cons ⟨s13.free (sa.free nr), nDr.symm, ngr.symm, ?_⟩ .nil)
              rw [upd_ne nDr.symm, upd_same, List.map_append, Int.zero_add]
              rfl
          exact ⟨rfl, go⟩
        · rintro H3 ⟨s3, rs, hD, hr3⟩
          have s23 := s2.trans s3
          refine ⟨g, D, _, _, rfl, rfl, s3 _ _ hg, hD, ?_, _, rfl, same_but s23 ng, qs ++ rs, ?_, ?_⟩
          · rw [List.length_map, List.length_map, paired_length hr3]
            exact le_line (by show qs.length + 3 ≤ _; omega)
          · rw [upd_same, List.map_append]
          · rw [List.take_add_one, hl, List.flatMap_append]
            refine paired_append (paired_mono (fun x y h => (h.same s3).updA) hq) ?_
            have e : (some l).toList.flatMap more = (List.range 3).map fun x => l ++ [x] := rfl
            rw [e]
            exact paired_mono (fun x y h => ⟨h.1, h.2.2.1, h.2.2.1, by rw [upd_ne h.2.2.1]; exact h.2.2.2⟩) hr3
      · rintro σ H2 ⟨v4, rfl, s2, qs, hg, hq⟩
        rw [List.length_map, elen, List.take_length] at hq
        exact ⟨_, rfl, g, some (.int (0 + (i : Int))), some (.ref g), v4, rfl, s1.trans s2, s1.free ng, qs, hg, paired_mono (fun x y h => ⟨h.1, h.2.2.2⟩) hq⟩
    · rintro σ H' ⟨f, v2, v3, v4, rfl, s1, h⟩
      exact ⟨_, rfl, q f H' s1 h⟩
end
end Tm
/-! TmE: the cheapest plans, the cheapest sets. -/
namespace Tm
open PySem PySem.Spec PyProof.Rows L2
open Sj14 (Crate Wanted)
section
variable {P : Program} {w : World} {K : PySem.W.Frag} {mg : Str → Option Value} {base : Heap} {A : Adr}

/-! ### Best over a heap that grows -/
theorem BeAt.on {H0 H H' : Hp} {b : Addr} {B : Bst V} (h : BeAt A H0 H b B) (s : Same H H') : BeAt A H0 H' b B :=
  let ⟨dx, l, nl, e1, e2⟩ := h.ex; ⟨h.same.trans s, h.nb, dx, l, nl, s _ _ e1, s _ _ e2⟩
/-- a new object may be among what it doesn't own -/
theorem BeAt.add {H0 H : Hp} {b p : Addr} {B : Bst V} {o : HO} (h : BeAt A H0 H b B) (n : H p = none) : BeAt A (upd H0 p o) (upd H p o) b B := by
  obtain ⟨s, nb, dx, l, nl, e1, e2⟩ := h
  have nbp : b ≠ p := ne_of_none e1 n
  have nlp : l ≠ p := ne_of_none e2 n
  refine ⟨fun a u q => ?_, by rw [upd_ne nbp]; exact nb, dx, l, by rw [upd_ne nlp]; exact nl, by rw [upd_ne nbp]; exact e1, by rw [upd_ne nlp]; exact e2⟩
  by_cases h : a = p
  · subst h
    rw [upd_same] at q ⊢
    exact q
  · rw [upd_ne h] at q ⊢
    exact s _ _ q
/-- all that is new may be -/
theorem BeAt.re {H0 H H' : Hp} {b : Addr} {B : Bst V} (h : BeAt A H0 H b B) (s : Same H H') : ∃ Hf, BeAt A Hf H' b B ∧ Same H0 Hf ∧ ∀ a o, H a = none → H' a = some o → Hf a = some o := by
  obtain ⟨s0, nb, dx, l, nl, e1, e2⟩ := h
  refine ⟨fun a => if a = b ∨ a = l then none else H' a, ⟨fun a o q => ?_, if_pos (.inl rfl), dx, l, if_pos (.inr rfl), s _ _ e1, s _ _ e2⟩, fun a o q => ?_, fun a o n q => ?_⟩
  · have q' : (if a = b ∨ a = l then none else H' a) = some o := q
    by_cases h : a = b ∨ a = l
    · rw [if_pos h] at q'; cases q'
    · rw [if_neg h] at q'; exact q'
  · have h : ¬ (a = b ∨ a = l) := by
      rintro (z | z)
      · rw [z, nb] at q; cases q
      · rw [z, nl] at q; cases q
    show (if a = b ∨ a = l then none else H' a) = some o
    rw [if_neg h]
    exact s _ _ (s0 _ _ q)
  · have h : ¬ (a = b ∨ a = l) := by
      rintro (z | z)
      · rw [z, e1] at n; cases n
      · rw [z, e2] at n; cases n
    show (if a = b ∨ a = l then none else H' a) = some o
    rw [if_neg h]
    exact q
/-- a best of values is a best of what they stand for -/
structure RelV2 {α : Type} (F : V → α → Prop) (B : Bst V) (b : Bst α) : Prop where
  cost : B.cost = b.cost
  weight : B.weight = b.weight
  some : Paired F B.some b.some
theorem RelV2.mono {α : Type} {F G : V → α → Prop} (h : ∀ v x, F v x → G v x) {B : Bst V} {b : Bst α} (r : RelV2 F B b) : RelV2 G B b := ⟨r.cost, r.weight, paired_mono h r.some⟩
theorem RelV2.take {α : Type} {F : V → α → Prop} {B : Bst V} {b : Bst α} (r : RelV2 F B b) (c w : Nat) {v : V} {x : α} (h : F v x) : RelV2 F (B.take c w v) (b.take c w x) := by
  obtain ⟨r1, r2, r3⟩ := r
  have e : B.some.isEmpty = b.some.isEmpty := by
    have h := paired_length r3
    cases h1 : B.some with
    | nil =>
      cases h2 : b.some with
      | nil => rfl
      | cons _ _ => rw [h1, h2] at h; cases h
    | cons _ _ =>
      cases h2 : b.some with
      | nil => rw [h1, h2] at h; cases h
      | cons _ _ => rfl
  unfold Bst.take Bst.better Bst.alike
  rw [e, r1, r2]
  split
  · exact ⟨rfl, rfl, .cons h .nil⟩
  · split
    · exact ⟨rfl, rfl, paired_append r3 (.cons h .nil)⟩
    · exact ⟨r1, r2, r3⟩
theorem take_len {α : Type} (b : Bst α) (c w : Nat) (x : α) : (b.take c w x).some.length ≤ b.some.length + 1 := by
  unfold Bst.take
  split
  · show 1 ≤ _; omega
  · split
    · show (b.some ++ [x]).length ≤ _
      rw [List.length_append]; exact Nat.le_refl _
    · omega
/-- a list of numbers -/
def IsRow (H : Hp) (v : V) (l : List Nat) : Prop := ∃ p, v = .ref p ∧ H p = some (.lst (l.map vn))
def IsNum (v : V) (n : Nat) : Prop := v = vn n
theorem row_things {H : Hp} {vs : List V} {ls : List (List Nat)} (h : Paired (IsRow H) vs ls) : ∀ v ∈ vs, Thing H v := by
  intro v hv
  obtain ⟨i, hi⟩ := List.mem_iff_getElem?.mp hv
  obtain ⟨l, _, p, rfl, e⟩ := paired_get h hi
  exact .lst e
theorem num_things {H : Hp} {vs : List V} {ls : List Nat} (h : Paired IsNum vs ls) : ∀ v ∈ vs, Thing H v := by
  intro v hv
  obtain ⟨i, hi⟩ := List.mem_iff_getElem?.mp hv
  obtain ⟨l, _, rfl⟩ := paired_get h hi
  exact .int l

/-! ### cheapest -/
def spCheapest (A : Adr) : Sp := fun vs H Q _ => ∃ (y : Addr) (s : Sj16.Shop), vs = [.ref y] ∧ YaAt A H y s ∧ Valid s ∧
  ∀ b H' Hf B, Same H H' → BeAt A Hf H' b B → RelV2 (IsRow Hf) B (Tm.cheapest s) → Q (.ref b) H'
theorem scCheapest : FnScope ["yard", "best", "some", "first", "share", "heap"] ["yard"] (defScope sCheapest) := ⟨rfl, rfl, rfl, by decide +kernel, rfl, by decide +kernel, by decide +kernel⟩
theorem ok_cheapest (T : Txt K mg A) : Ok P w K mg base CX0 6 A.cheapest ["yard"] (spCheapest A) := by
  obtain ⟨fd, F, b⟩ := T.cheapest.d
  obtain ⟨f1, G1, b1⟩ := ok_bestI (P := P) (w := w) (base := base) T
  obtain ⟨f2, G2, b2⟩ := ok_shares (P := P) (w := w) (base := base) T
  obtain ⟨f3, G3, b3⟩ := ok_wrongPlan (P := P) (w := w) (base := base) T
  obtain ⟨f4, G4, b4⟩ := ok_heapNot (P := P) (w := w) (base := base) T
  obtain ⟨f5, G5, b5⟩ := ok_take (P := P) (w := w) (base := base) T
  obtain ⟨tM, gM⟩ := T.c_MELTS
  obtain ⟨tF, gF⟩ := T.c_FINE
  refine ⟨fd, F.ok scCheapest (fun vs H Q E h => ?_) (fun cdv A' outer s H vs Q E hr h => ?_), b⟩
  · obtain ⟨y, S, rfl, _⟩ := h
    rfl
  · obtain ⟨y, S, rfl, hY, VA, q⟩ := h
    have hr1 : Room 1 _ := hr.mono (by decide)
    have hr2 : Room 2 _ := hr.mono (by decide)
    have hr3 : Room 3 _ := hr.mono (by decide)
    refine ⟨_, pss_cons (ps_set (i := 1) scCheapest.nd rfl (Or.inl rfl) (pe_make0 T.bestC.m G1 hr2 rfl T.bestC.g b1 .nil pass0))
      (pss_cons (ps_set (i := 2) scCheapest.nd rfl (Or.inl rfl) (pe_call G2 hr1 rfl T.shares.g T.shares.k b2 .nil pass0 (pa_cons (pe_callB call_len_seq (by rfl) T.len PySem.boot_len (pa_cons (pe_fld (pv 0) rfl) pa_nil)) pa_nil)))
      (pss_cons (ps_for PassesOwn.never rfl (pi_range1 rfl T.range (pa_cons (pe_glob (v := .int 2) rfl gM ⟨_, rfl⟩) pa_nil)) (pg_name (i := 3) scCheapest.nd rfl (Or.inl rfl))
        (pss_one (ps_for PassesOwn.never rfl (pi_list (pv 2)) (pg_name (i := 4) scCheapest.nd rfl (Or.inl rfl))
          (pss_one (ps_if (pt_cmpR op_eq (pe_call G3 hr rfl T.wrongPlan.g T.wrongPlan.k b3 .nil pass0 (pa_cons (pv 0) (pa_cons (pv 3) (pa_cons (pv 4) pa_nil)))) (pe_glob (v := .int 0) rfl gF ⟨_, rfl⟩) (nomark _))
            (pss_cons (ps_set (i := 5) scCheapest.nd rfl (Or.inl rfl) (pe_call G4 hr3 rfl T.heapNot.g T.heapNot.k b4 .nil pass0 (pa_cons (pe_fld (pv 0) rfl) (pa_cons (pv 4) pa_nil))))
            (pss_one (ps_expr (pe_meth (pv 1) T.bestC.cl T.takeM.m G5 hr1 b5 .nil pass0 (pa_cons (pe_fld (pv 5) rfl) (pa_cons (pe_fld (pv 5) rfl) (pa_cons (pe_op op_cat (pe_lst (pa_cons (pv 3) pa_nil)) (pv 4)) pa_nil)))))))
            pss_nil)))))
      (pss_one (ps_ret (pv 1))))), ?_⟩
    intro b dxb nb ndb neb
    refine ⟨b, dxb, rfl, upd_same, fun H1 lb1 bb nlb1 eb1 eb2 => ⟨rfl, ?_⟩⟩
    have hB1 : BeAt A H H1 b Bst.none := ⟨But.made nb ndb bb, nb, dxb, lb1, (same_made nb ndb).free nlb1, eb1, eb2⟩
    obtain ⟨cl0, wl0, ⟨dy0, hy0⟩, ⟨as0, hcl0, hcs0⟩, _⟩ := id (hY.same hB1.same)
    -- some = shares(len(yard.crates))
    refine ⟨_, rfl, y, _, dy0, _, _, rfl, hy0, T.yardC.cl, T.ya_crates, yaF_crates _ _ _, cl0, _, rfl, .inl (sql hcl0), S.crates.length, by rw [List.length_map, paired_length hcs0]; rfl, VA.few, fun f H2 s2 hSh => ?_⟩
    obtain ⟨Hf0, hB2, s0f, newf⟩ := hB1.re s2
    obtain ⟨nf, ps, hf, hp⟩ := hSh
    have hYf : YaAt A Hf0 y S := hY.same s0f
    have hff : Hf0 f = some (.lst (ps.map V.ref)) := newf _ _ nf hf
    have hpf : Paired (fun p l => Hf0 p = some (.lst (l.map vn))) ps (Tm.shares S.crates.length) := paired_mono (fun p l h => newf _ _ h.1 h.2) hp
    have plen : ps.length = (Tm.shares S.crates.length).length := paired_length hp
    have slen : (Tm.shares S.crates.length).length ≤ 2187 := by rw [shares_len]; exact pow3 VA.few
    -- the state between two turns: the best is the mirror's bst; m bounds its length
    have keep : ∀ (bst : Bst (List Nat)) (m : Nat) (H' : Hp), Prop := fun bst m H' => ∃ Hf B, BeAt A Hf H' b B ∧ Same Hf0 Hf ∧ RelV2 (IsRow Hf) B bst ∧ B.some.length ≤ m
    refine ⟨(2 : Int), rfl, by decide, by decide, for_range (lo := 0) (n := 2) (fun i σ H' => ∃ (v3 v4 v5 : Option V), σ = [some (.ref y), some (.ref b), some (.ref f), v3, v4, v5] ∧
        ∃ Hf B, BeAt A Hf H' b B ∧ Same Hf0 Hf ∧ RelV2 (IsRow Hf) B ((List.range i).foldl (fun b k => (Tm.shares S.crates.length).foldl (look S k) b) Bst.none) ∧ B.some.length ≤ i * 2187)
      ⟨none, none, none, rfl, Hf0, Bst.none, hB2, Same.refl _, ⟨rfl, rfl, .nil⟩, Nat.zero_le _⟩ ?_ ?_⟩
    · rintro i σ H3 hi ⟨v3, v4, v5, rfl, Hf1, B1, hB3, sf1, rel1, len1⟩
      have hA : (0 + (i : Int)) = (i : Int) := Int.zero_add _
      refine ⟨_, rfl, f, rfl, ⟨_, sql (hB3.same _ _ (sf1 _ _ hff))⟩, for_list (K := K) (a := f) (xs := ps.map V.ref) (fun j σ H' => ∃ (v4 v5 : Option V), σ = [some (.ref y), some (.ref b), some (.ref f), some (.int (0 + (i : Int))), v4, v5] ∧
          ∃ Hf B, BeAt A Hf H' b B ∧ Same Hf0 Hf ∧ RelV2 (IsRow Hf) B (((Tm.shares S.crates.length).take j).foldl (look S i) ((List.range i).foldl (fun b k => (Tm.shares S.crates.length).foldl (look S k) b) Bst.none)) ∧ B.some.length ≤ i * 2187 + j)
        ⟨v4, v5, rfl, Hf1, B1, hB3, sf1, rel1, len1⟩ (fun j σ H' _ ⟨_, _, _, Hf, B, hB, sf, _⟩ => (sf.trans hB.same).seq (sql hff)) ?_ ?_⟩
      · rintro j z σ H4 hz ⟨v4, v5, rfl, Hf, B, hB, sf, rel, len⟩
        obtain ⟨p, hpj, rfl⟩ : ∃ p, ps[j]? = some p ∧ z = V.ref p := by
          rw [List.getElem?_map] at hz
          cases e : ps[j]? with
          | none => rw [e] at hz; cases hz
          | some p => rw [e] at hz; exact ⟨p, rfl, (Option.some.inj hz).symm⟩
        have hj : j < ps.length := (List.getElem?_eq_some_iff.mp hpj).1
        obtain ⟨l, hl, hpl⟩ := paired_get hpf hpj
        have hlm := shares_item (List.mem_of_getElem? hl)
        have foldj : ∀ b0, ((Tm.shares S.crates.length).take (j + 1)).foldl (look S i) b0 = look S i (((Tm.shares S.crates.length).take j).foldl (look S i) b0) l := fun b0 => by
          rw [List.take_add_one, hl, List.foldl_append]
          rfl
        have s4 := sf.trans hB.same
        -- wrong_plan(yard, first, share)
        refine ⟨_, rfl, _, rfl, _, rfl, y, p, i, S, l, by rw [hA]; rfl, hYf.same s4, VA, hi, sql (s4 _ _ hpl), hlm.1, fun H5 s5 => ?_⟩
        have hB5 := hB.on s5
        have s45 := s4.trans s5
        refine ⟨rfl, _, rfl, ite3 (fun c => ?_) (fun c => ?_)⟩
        · have c0 : Tm.wrongPlan S i l = 0 := of_decide_eq_true ((dec_vn (a := Tm.wrongPlan S i l) (b := 0)).symm.trans c)
          obtain ⟨cl, wl, ⟨dy, hy⟩, ⟨as, hcl, hcs⟩, _⟩ := id (hYf.same s45)
          -- heap = heap_not_left(yard.crates, share)
          refine ⟨_, rfl, y, _, dy, _, _, rfl, hy, T.yardC.cl, T.ya_crates, yaF_crates _ _ _, _, rfl, cl, p, as, S.crates, l, rfl, hcl, sql (s45 _ _ hpl), hcs, VA.small, hlm.1, fun x H6 nx s6 hx => ?_⟩
          have hB6 := hB5.on s6
          obtain ⟨dx, ex⟩ := id hx
          obtain ⟨db, lb, nlb, eb, elb⟩ := id hB6.ex
          -- best.take(heap.cost, heap.weight, [first] + share)
          refine ⟨_, rfl, b, db, _, rfl, eb, beF_take _ _ _, _, rfl, x, _, dx, _, _, rfl, ex, T.heapC.cl, T.he_cost, heF_cost _, _, rfl, x, _, dx, _, _, rfl, ex, T.heapC.cl, T.he_weight, heF_weight _, _, rfl, le_line (by show 1 ≤ 16777216; decide), fun a na => ?_⟩
          have sa := same_upd (o := .lst [.int (0 + (i : Int))]) na
          refine ⟨_, rfl, a, p, _, _, rfl, rfl, upd_same, sa _ _ (s6 _ _ (s45 _ _ hpl)), ?_, fun r nr => ?_⟩
          · rw [List.length_map, hlm.1]
            have := VA.few
            exact le_line (by show 1 + S.crates.length ≤ 16777216; omega)
          have hBr := (hB6.on sa).add (o := .lst ([.int (0 + (i : Int))] ++ l.map vn)) nr
          have nrf : Hf r = none := (hB6.on sa).same.free nr
          have sfr := same_upd (o := .lst ([.int (0 + (i : Int))] ++ l.map vn)) nrf
          have rel2 := rel.mono (G := IsRow (upd Hf r (.lst ([.int (0 + (i : Int))] ++ l.map vn)))) (fun v x h => let ⟨p, e1, e2⟩ := h; ⟨p, e1, sfr _ _ e2⟩)
          have row : IsRow (upd Hf r (.lst ([.int (0 + (i : Int))] ++ l.map vn))) (.ref r) (i :: l) := ⟨r, rfl, by rw [upd_same, hA]; rfl⟩
          refine ⟨_, b, (notLeft S l).cost, (notLeft S l).weight, .ref r, B, rfl, hBr, row_things rel2.some, ?_, fun H7 hB7 => ?_⟩
          · have hi2 : i * 2187 ≤ 1 * 2187 := Nat.mul_le_mul_right _ (by omega)
            omega
          · refine ⟨_, _, rfl, _, _, hB7, sf.trans sfr, ?_, ?_⟩
            · rw [foldj]
              have e : ∀ b0, look S i b0 l = b0.take (notLeft S l).cost (notLeft S l).weight (i :: l) := fun b0 => if_pos c0
              rw [e]
              exact rel2.take _ _ row
            · have := take_len B (notLeft S l).cost (notLeft S l).weight (.ref r)
              omega
        · have c0 : ¬ Tm.wrongPlan S i l = 0 := of_decide_eq_false ((dec_vn (a := Tm.wrongPlan S i l) (b := 0)).symm.trans c)
          refine ⟨_, _, rfl, Hf, B, hB5, sf, ?_, by omega⟩
          rw [foldj]
          have e : ∀ b0, look S i b0 l = b0 := fun b0 => if_neg c0
          rw [e]
          exact rel
      · rintro σ H4 ⟨v4, v5, rfl, Hf, B, hB, sf, rel, len⟩
        rw [List.length_map, plen] at len
        rw [List.length_map, plen, List.take_length] at rel
        refine ⟨_, v4, v5, rfl, Hf, B, hB, sf, ?_, ?_⟩
        · rw [List.range_succ, List.foldl_append]
          exact rel
        · rw [Nat.succ_mul]
          omega
    · rintro σ H' ⟨v3, v4, v5, rfl, Hf, B, hB, sf, rel, len⟩
      exact ⟨_, rfl, q b H' Hf B (s0f.trans (sf.trans hB.same)) hB rel⟩

/-! ### crates_of, cheapest_set -/
theorem bit_eq (n i : Nat) : decide (V.int ((n : Int) / ((1 : Int) * 2 ^ ((i : Int)).toNat) % 2) = V.int 1) = decide (n / 2 ^ i % 2 = 1) := by
  have e : ((n : Int) / ((1 : Int) * 2 ^ ((i : Int)).toNat) % 2) = ((n / 2 ^ i % 2 : Nat) : Int) := by
    rw [Int.one_mul, Int.toNat_natCast]
    push_cast
    rfl
  rw [e]
  exact dec_vn
def spCratesOf : Sp := fun vs H Q _ => ∃ (l : Addr) (n : Nat) (as : List Addr), vs = [.ref l, vn n] ∧ H l = some (.lst (as.map V.ref)) ∧ as.length ≤ 7 ∧
  ∀ D H', H D = none → Same H H' → H' D = some (.lst ((pickP (fun i => decide (n / 2 ^ i % 2 = 1)) as).map V.ref)) → Q (.ref D) H'
theorem scCratesOf : FnScope ["crates", "number", "at", "crate"] ["crates", "number"] (defScope sCratesOf) := ⟨rfl, rfl, rfl, by decide +kernel, rfl, by decide +kernel, by decide +kernel⟩
theorem ok_cratesOf (T : Txt K mg A) : Ok P w K mg base CX0 1 A.cratesOf ["crates", "number"] spCratesOf := by
  obtain ⟨fd, F, b⟩ := T.cratesOf.d
  refine ⟨fd, F.ok scCratesOf (fun vs H Q E h => ?_) (fun cdv A' outer s H vs Q E hr h => ?_), b⟩
  · obtain ⟨l, n, as, rfl, _⟩ := h
    rfl
  · obtain ⟨l, n, as, rfl, hl, hz, q⟩ := h
    refine ⟨_, pss_one (ps_ret (pe_lc (own := [("at", 2), ("crate", 3)]) (g := gTup K 2 (gCons (gName 2) (gCons (gName 3) gNil)))
      (tt := tTest (tOp rEq (tOp (rI (fun _ j => 0 < j) fun i j => .int (i % j)) (tOp (rI CDiv fun i j => .int (i / j)) (tVar 1) (tOp (rI CPow fun i j => .int (i * 2 ^ j.toNat)) (tC (.int 1)) (tVar 2))) (tC (.int 2))) (tC (.int 1)))) (te := tVar 3) rfl scCratesOf.nd
      (pi_enum (by rfl) T.enum (pa_cons (pv 0) pa_nil)) (blkOk_by (N := ["crates", "number", "at", "crate"]) (sc := defScope sCratesOf) (by decide +kernel))
      (fun _ _ _ _ _ => pg_tup rfl (pgs_cons (pg_name (i := 2) scCratesOf.nd rfl (Or.inl rfl)) (pgs_cons (pg_name (i := 3) scCratesOf.nd rfl (Or.inl rfl)) pgs_nil)))
      (fun _ _ _ _ _ => pts_one (pt_cmpR op_eq (pe_op op_mod (pe_op op_fdiv (pv 1) (pe_op op_shl pe_int (pv 2))) pe_int) pe_int (nomark _))) (fun _ _ _ _ _ => pv 3))), ?_⟩
    refine ⟨_, rfl, l, _, rfl, sql hl, fun D hD => ⟨fun i m H' => m = as.length - i ∧ i ≤ as.length ∧ Same H H' ∧ H' D = some (.lst ((pickP (fun i => decide (n / 2 ^ i % 2 = 1)) (as.take i)).map V.ref)), ⟨as.length, rfl, Nat.zero_le _, same_upd hD, upd_same⟩, ?_⟩⟩
    rintro i m H' ⟨rfl, hi, s1, e⟩
    by_cases hlt : i < as.length
    · have ha : as[i]? = some as[i] := List.getElem?_eq_getElem hlt
      have ga : (as.map V.ref)[i]? = some (.ref as[i]) := by rw [List.getElem?_map, ha]; rfl
      have pk := pickP_take (P := fun i => decide (n / 2 ^ i % 2 = 1)) ha
      refine .inr ⟨⟨_, _, s1.seq (sql hl), ga⟩, fun H2 => Same H H2 ∧ H2 D = some (.lst ((pickP (fun i => decide (n / 2 ^ i % 2 = 1)) (as.take (i + 1))).map V.ref)), fun H2 h2 => ⟨as.length - (i + 1), by omega, rfl, hlt, h2⟩, fun v H2 y => ?_⟩
      obtain ⟨T', x', rfl, hT, rfl, f1⟩ := y
      have ex : x' = .ref as[i] := Option.some.inj ((f1 _ (s1.seq (sql hl))).symm.trans ga)
      subst ex
      have nDT : D ≠ T' := ne_of_none e hT
      have eT : (upd H' T' (.tup [.int (i : Nat), .ref as[i]])) D = some (.lst ((pickP (fun i => decide (n / 2 ^ i % 2 = 1)) (as.take i)).map V.ref)) := by rw [upd_ne nDT]; exact e
      have sT : Same H (upd H' T' (.tup [.int (i : Nat), .ref as[i]])) := s1.trans (same_upd hT)
      have hp : (1 : Int) * 2 ^ ((i : Int)).toNat = ((2 ^ i : Nat) : Int) := by
        rw [Int.one_mul, Int.toNat_natCast]
        push_cast
        rfl
      have p1 : 0 < 2 ^ i := Nat.pow_pos (by decide)
      have p2 : 2 ^ i ≤ 2 ^ 7 := Nat.pow_le_pow_right (by decide) (by omega)
      refine ⟨T', [.int (i : Nat), .ref as[i]], rfl, sqt upd_same, rfl, _, _, rfl, _, _, rfl, rfl, rfl, ?_⟩
      refine ⟨_, rfl, _, rfl, _, _, rfl, rfl, ⟨by omega, by omega, by decide⟩, _, _, rfl, rfl, ⟨by rw [hp]; omega, by rw [hp]; omega⟩, _, _, rfl, rfl, (by show (0 : Int) < 2; decide), rfl, _, rfl, ite3 (fun c => ?_) (fun c => ?_)⟩
      · rw [bit_eq] at c
        refine ⟨_, rfl, _, eT, ?_, same_but sT hD, ?_⟩
        · rw [List.length_map]
          refine small_line (Nat.le_trans pickP_len ?_)
          rw [List.length_take]
          exact Nat.le_trans (Nat.min_le_right _ _) (Nat.le_trans hz (by decide))
        · rw [upd_same, pk, if_pos c, List.map_append]
          rfl
      · rw [bit_eq] at c
        refine ⟨sT, ?_⟩
        rw [pk, if_neg (by rw [c]; decide), List.append_nil]
        exact eT
    · have en : i = as.length := by omega
      subst en
      rw [List.take_length] at e
      exact .inl ⟨⟨_, s1.seq (sql hl), by rw [List.length_map]; exact Nat.le_refl _⟩, q D H' hD s1 e⟩
def spCheapestSet (A : Adr) : Sp := fun vs H Q _ => ∃ (y : Addr) (k : Nat) (s : Sj16.Shop), vs = [.ref y, vn k] ∧ YaAt A H y s ∧ Valid s ∧ k < 2 ∧
  ∀ b H' Hf B, Same H H' → BeAt A Hf H' b B → RelV2 IsNum B (Tm.cheapestSet s k) → Q (.ref b) H'
theorem scCheapestSet : FnScope ["yard", "melt", "best", "number", "heap"] ["yard", "melt"] (defScope sCheapestSet) := ⟨rfl, rfl, rfl, by decide +kernel, rfl, by decide +kernel, by decide +kernel⟩
theorem ok_cheapestSet (T : Txt K mg A) : Ok P w K mg base CX0 4 A.cheapestSet ["yard", "melt"] (spCheapestSet A) := by
  obtain ⟨fd, F, b⟩ := T.cheapestSet.d
  obtain ⟨f1, G1, b1⟩ := ok_bestI (P := P) (w := w) (base := base) T
  obtain ⟨f2, G2, b2⟩ := ok_cratesOf (P := P) (w := w) (base := base) T
  obtain ⟨f3, G3, b3⟩ := ok_wrongAlone (P := P) (w := w) (base := base) T
  obtain ⟨f4, G4, b4⟩ := ok_heapI (P := P) (w := w) (base := base) T
  obtain ⟨f5, G5, b5⟩ := ok_take (P := P) (w := w) (base := base) T
  obtain ⟨tF, gF⟩ := T.c_FINE
  refine ⟨fd, F.ok scCheapestSet (fun vs H Q E h => ?_) (fun cdv A' outer s H vs Q E hr h => ?_), b⟩
  · obtain ⟨y, k, S, rfl, _⟩ := h
    rfl
  · obtain ⟨y, k, S, rfl, hY, VA, hk, q⟩ := h
    have hr1 : Room 1 _ := hr.mono (by decide)
    have hr2 : Room 2 _ := hr.mono (by decide)
    refine ⟨_, pss_cons (ps_set (i := 2) scCheapestSet.nd rfl (Or.inl rfl) (pe_make0 T.bestC.m G1 hr2 rfl T.bestC.g b1 .nil pass0))
      (pss_cons (ps_for PassesOwn.never rfl (pi_range1 rfl T.range (pa_cons (pe_op op_shl pe_int (pe_callB call_len_seq (by rfl) T.len PySem.boot_len (pa_cons (pe_fld (pv 0) rfl) pa_nil))) pa_nil)) (pg_name (i := 3) scCheapestSet.nd rfl (Or.inl rfl))
        (pss_cons (ps_set (i := 4) scCheapestSet.nd rfl (Or.inl rfl) (pe_make T.heapC.m G4 hr2 rfl T.heapC.g b4 .nil pass0 (pa_cons (pe_call G2 hr1 rfl T.cratesOf.g T.cratesOf.k b2 .nil pass0 (pa_cons (pe_fld (pv 0) rfl) (pa_cons (pv 3) pa_nil))) pa_nil)))
        (pss_one (ps_if (pt_cmpR op_eq (pe_call G3 hr rfl T.wrongAlone.g T.wrongAlone.k b3 .nil pass0 (pa_cons (pv 4) (pa_cons (pe_ix ix_list (pe_fld (pv 0) rfl) (pv 1) (fun _ _ => rfl)) pa_nil))) (pe_glob (v := .int 0) rfl gF ⟨_, rfl⟩) (nomark _))
          (pss_one (ps_expr (pe_meth (pv 2) T.bestC.cl T.takeM.m G5 hr1 b5 .nil pass0 (pa_cons (pe_fld (pv 4) rfl) (pa_cons (pe_fld (pv 4) rfl) (pa_cons (pv 3) pa_nil))))))
          pss_nil))))
      (pss_one (ps_ret (pv 2)))), ?_⟩
    intro b dxb nb ndb neb
    refine ⟨b, dxb, rfl, upd_same, fun H1 lb1 bb nlb1 eb1 eb2 => ⟨rfl, ?_⟩⟩
    have hB1 : BeAt A H H1 b Bst.none := ⟨But.made nb ndb bb, nb, dxb, lb1, (same_made nb ndb).free nlb1, eb1, eb2⟩
    obtain ⟨cl0, wl0, ⟨dy0, hy0⟩, ⟨as0, hcl0, hcs0⟩, _⟩ := id (hY.same hB1.same)
    have elen : (as0.map V.ref).length = S.crates.length := by rw [List.length_map, paired_length hcs0]
    have few := VA.few
    have hp : (1 : Int) * 2 ^ (((as0.map V.ref).length : Nat) : Int).toNat = ((2 ^ S.crates.length : Nat) : Int) := by
      rw [Int.one_mul, Int.toNat_natCast, elen]
      push_cast
      rfl
    have p2 : 2 ^ S.crates.length ≤ 2 ^ 7 := Nat.pow_le_pow_right (by decide) few
    have p1 : (0 : Int) ≤ ((2 ^ S.crates.length : Nat) : Int) := Int.natCast_nonneg _
    have p3 : ((2 ^ S.crates.length : Nat) : Int) ≤ 128 := Int.ofNat_le.mpr p2
    refine ⟨_, rfl, y, _, dy0, _, _, rfl, hy0, T.yardC.cl, T.ya_crates, yaF_crates _ _ _, cl0, _, rfl, .inl (sql hcl0), _, _, rfl, rfl, ⟨by omega, by rw [elen]; omega, by decide⟩, _, rfl, by rw [hp]; exact Int.le_trans (by decide) p1, by rw [hp]; exact Int.lt_of_le_of_lt p3 (by decide), ?_⟩
    rw [hp, Int.toNat_natCast]
    refine for_range (lo := 0) (n := 2 ^ S.crates.length) (fun i σ H' => ∃ (v3 v4 : Option V), σ = [some (.ref y), some (vn k), some (.ref b), v3, v4] ∧
        ∃ B, BeAt A H H' b B ∧ RelV2 IsNum B ((List.range i).foldl (look1 S k) Bst.none) ∧ B.some.length ≤ i)
      ⟨none, none, rfl, Bst.none, hB1, ⟨rfl, rfl, .nil⟩, Nat.zero_le _⟩ ?_ ?_
    · rintro i σ H3 hi ⟨v3, v4, rfl, B, hB, rel, len⟩
      have hA : (0 + (i : Int)) = (i : Int) := Int.zero_add _
      obtain ⟨cl, wl, ⟨dy, hy⟩, ⟨as, hcl, hcs⟩, _⟩ := id (hY.same hB.same)
      have foldi : (List.range (i + 1)).foldl (look1 S k) Bst.none = look1 S k ((List.range i).foldl (look1 S k) Bst.none) i := by
        rw [List.range_succ, List.foldl_append]
        rfl
      -- heap = Heap(crates_of(yard.crates, number))
      refine ⟨_, rfl, y, _, dy, _, _, rfl, hy, T.yardC.cl, T.ya_crates, yaF_crates _ _ _, _, rfl, cl, i, as, by rw [hA]; rfl, hcl, by rw [paired_length hcs]; exact few, fun D H4 nD s4 hD => ?_⟩
      intro x dxx nx ndx nex
      refine ⟨x, dxx, D, _, _, rfl, upd_same, same_made nx ndx _ _ hD, paired_pick (P := fun j => decide (i / 2 ^ j % 2 = 1)) ((hcs.same s4).same (same_made nx ndx)), VA.small.pick _, fun H5 bx ex0 => ⟨rfl, ?_⟩⟩
      have s5 := But.made nx ndx bx
      have hx : HeAt A H5 x (heap (setOfN S i)) := ⟨dxx, ex0⟩
      have s45 := s4.trans s5
      have hB5 := hB.on s45
      obtain ⟨cl', wl', ⟨dy', hy'⟩, _, ⟨w0, w1, hwl, h0, h1⟩⟩ := id (hY.same hB5.same)
      obtain ⟨dx, ex⟩ := id hx
      obtain ⟨wa, g1, ha, oa⟩ : ∃ wa, atI [V.ref w0, V.ref w1] (k : Int) = some (.ref wa) ∧ WaAt A H5 wa (want S k) ∧ WOk (want S k) := by
        have e : k = 0 ∨ k = 1 := by omega
        rcases e with rfl | rfl
        · exact ⟨w0, rfl, h0, wok_of VA.first⟩
        · exact ⟨w1, rfl, h1, wok_of VA.second⟩
      -- wrong_alone(heap, yard.wants[melt])
      refine ⟨_, rfl, _, rfl, y, _, dy', _, _, rfl, hy', T.yardC.cl, T.ya_wants, yaF_wants _ _ _, _, rfl, wl', _, _, _, rfl, rfl, sql hwl, g1, x, wa, _, _, rfl, hx, ha, oa, rfl, _, rfl, ite3 (fun c => ?_) (fun c => ?_)⟩
      · have c0 : Tm.wrongAlone (heap (setOfN S i)) (want S k) = 0 := of_decide_eq_true ((dec_vn (a := Tm.wrongAlone (heap (setOfN S i)) (want S k)) (b := 0)).symm.trans c)
        obtain ⟨db, lb, nlb, eb, elb⟩ := id hB5.ex
        refine ⟨_, rfl, b, db, _, rfl, eb, beF_take _ _ _, _, rfl, x, _, dx, _, _, rfl, ex, T.heapC.cl, T.he_cost, heF_cost _, _, rfl, x, _, dx, _, _, rfl, ex, T.heapC.cl, T.he_weight, heF_weight _, _, rfl, ?_⟩
        refine ⟨H, b, (heap (setOfN S i)).cost, (heap (setOfN S i)).weight, vn i, B, by rw [hA]; rfl, hB5, num_things rel.some, by omega, fun H7 hB7 => ?_⟩
        refine ⟨_, _, rfl, _, hB7, ?_, ?_⟩
        · rw [foldi]
          have e : ∀ b0, look1 S k b0 i = b0.take (heap (setOfN S i)).cost (heap (setOfN S i)).weight i := fun b0 => if_pos c0
          rw [e]
          exact rel.take _ _ rfl
        · have := take_len B (heap (setOfN S i)).cost (heap (setOfN S i)).weight (vn i)
          omega
      · have c0 : ¬ Tm.wrongAlone (heap (setOfN S i)) (want S k) = 0 := of_decide_eq_false ((dec_vn (a := Tm.wrongAlone (heap (setOfN S i)) (want S k)) (b := 0)).symm.trans c)
        refine ⟨_, _, rfl, B, hB5, ?_, by omega⟩
        rw [foldi]
        have e : ∀ b0, look1 S k b0 i = b0 := fun b0 => if_neg c0
        rw [e]
        exact rel
    · rintro σ H' ⟨v3, v4, rfl, B, hB, rel, len⟩
      exact ⟨_, rfl, q b H' H B hB.same hB rel⟩
end
end Tm
/-! TmF: refusals, new yards, the desk's calls that change it. -/
namespace Tm
open PySem PySem.Spec PyProof.Rows L2
open Sj14 (Crate Wanted)
section
variable {P : Program} {w : World} {K : PySem.W.Frag} {mg : Str → Option Value} {base : Heap} {A : Adr}

/-! ### must -/
def spMust (A : Adr) : Sp := fun vs H Q E => ∃ (so : Bool) (l : Addr), vs = [.bl so, .ref l] ∧ (so = true → Q .non H) ∧
  (so = false → ∀ d, H d = none → E (.ref A.cRef) (some d) (upd H d (.xd [(("numbers" : Str), .ref l)])))
theorem scMust : FnScope ["so", "numbers"] ["so", "numbers"] (defScope sMust) := ⟨rfl, rfl, rfl, by decide +kernel, rfl, by decide +kernel, by decide +kernel⟩
theorem ok_must (T : Txt K mg A) : Ok P w K mg base (L2.CX P w) 3 A.must ["so", "numbers"] (spMust A) := by
  obtain ⟨fd, F, b⟩ := T.must.d
  refine ⟨fd, F.okX scMust (fun vs H Q E h => ?_) (fun cdv A' outer s H vs Q E hr h => ?_), b⟩
  · obtain ⟨so, l, rfl, _⟩ := h
    rfl
  · obtain ⟨so, l, rfl, h1, h2⟩ := h
    refine ⟨_, pss_one (ps_if (pt_not (pt_val (pv 0))) (pss_one (ps_raiseRef rfl T.ref hr (takes_of rfl rfl rfl rfl) (by exact (pa_cons (pv 1) pa_nil)))) pss_nil), ?_⟩
    refine ⟨_, rfl, so, rfl, ite3 (fun c => ?_) (fun c => ?_)⟩
    · exact ⟨_, rfl, _, rfl, fun d hd => h2 (by simpa using c) d hd⟩
    · exact h1 (by simpa using c)

/-! ### new_yard -/
theorem WaAt.updL {H : Hp} {D a : Addr} {xs ys : List V} {w : Wanted} (h : WaAt A H a w) (e : H D = some (.lst xs)) : WaAt A (upd H D (.lst ys)) a w := by
  obtain ⟨dx, t1, t2, t3, e0, e1, e2, e3⟩ := h
  have n : ∀ {b : Addr} {o : HO}, H b = some o → (∀ zs, o ≠ .lst zs) → (upd H D (.lst ys)) b = some o := fun {b o} q d => by
    rw [upd_ne (ne_of q e (d xs))]; exact q
  exact ⟨dx, t1, t2, t3, n e0 (fun _ z => by cases z), n e1 (fun _ z => by cases z), n e2 (fun _ z => by cases z), n e3 (fun _ z => by cases z)⟩
def spNewYard (A : Adr) : Sp := fun vs H Q _ => ∃ h : Nat, vs = [vn h] ∧
  ∀ y H' cl wl, Same H H' → H y = none → H cl = none → H wl = none → cl ≠ wl → YaIs A H' y cl wl (newShop h) → Q (.ref y) H'
theorem scNewYard : FnScope ["stays", "melt"] ["stays"] (defScope sNewYard) := ⟨rfl, rfl, rfl, by decide +kernel, rfl, by decide +kernel, by decide +kernel⟩
theorem ok_newYard (T : Txt K mg A) : Ok P w K mg base CX0 3 A.newYard ["stays"] (spNewYard A) := by
  obtain ⟨fd, F, b⟩ := T.newYard.d
  obtain ⟨f1, G1, b1⟩ := ok_wantedI (P := P) (w := w) (base := base) T
  obtain ⟨f2, G2, b2⟩ := ok_yardI (P := P) (w := w) (base := base) T
  obtain ⟨tM, gM⟩ := T.c_MELTS
  obtain ⟨aF, gF, hF⟩ := T.atFirst
  refine ⟨fd, F.ok scNewYard (fun vs H Q E h => ?_) (fun cdv A' outer s H vs Q E hr h => ?_), b⟩
  · obtain ⟨h, rfl, _⟩ := h
    rfl
  · obtain ⟨h, rfl, q⟩ := h
    refine ⟨_, pss_one (ps_ret (pe_make T.yardC.m G2 hr rfl T.yardC.g b2 .nil pass0 (pa_cons (pe_lst pa_nil)
      (pa_cons (pe_lc (own := [("melt", 1)]) (g := gName 1) (tt := tYes) (te := tMake A.cWanted (spWantedI K A) [] E0 (tCons (tC (.ref aF)) tNil)) rfl scNewYard.nd (pi_range1 rfl T.range (pa_cons (pe_glob (v := .int 2) rfl gM ⟨_, rfl⟩) pa_nil))
        (blkOk_by (N := ["stays", "melt"]) (sc := defScope sNewYard) (by decide +kernel)) (fun _ _ _ _ _ => pg_name (i := 1) scNewYard.nd rfl (Or.inl rfl)) (fun _ _ _ _ _ => pts_nil)
        (fun _ _ _ _ _ => pe_make T.wantedC.m G1 hr rfl T.wantedC.g b1 .nil pass0 (pa_cons (pe_glob (v := .ref aF) rfl gF rfl) pa_nil)))
      (pa_cons (pv 0) pa_nil))))), ?_⟩
    refine ⟨Nat.zero_le _, fun cl ncl => ⟨(2 : Int), rfl, by decide, by decide, fun D nD => ?_⟩⟩
    have scl := same_upd (o := .lst []) ncl
    have ncD : cl ≠ D := ne_of_none upd_same nD
    refine lc_range (lo := 0) (n := 2) (fun m H3 => Same (upd H cl (.lst [])) H3 ∧ ∃ ws : List Addr, H3 D = some (.lst (ws.map V.ref)) ∧ (∀ x ∈ ws, WaAt A H3 x W0) ∧ ws.length = m) ⟨same_upd nD, [], upd_same, (fun x hx => by cases hx), rfl⟩ ?_ ?_
    · rintro m H3 hm ⟨s3, ws, hD, hw, hl⟩
      have go : tMake A.cWanted (spWantedI K A) [] E0 (tCons (tC (.ref aF)) tNil) [some (vn h), some (.int (0 + (m : Int)))] H3 (fun y H4 => ∃ acc, H4 D = some (.lst acc) ∧ acc.length < sizeLine ∧
          (Same (upd H cl (.lst [])) (upd H4 D (.lst (acc ++ [y]))) ∧ ∃ ws : List Addr, (upd H4 D (.lst (acc ++ [y]))) D = some (.lst (ws.map V.ref)) ∧ (∀ x ∈ ws, WaAt A (upd H4 D (.lst (acc ++ [y]))) x W0) ∧ ws.length = m + 1)) := by
        intro x dx nx ndx nex
        refine ⟨x, dx, aF, W0, rfl, upd_same, .inr (hF _), fun H5 b5 hx => ⟨rfl, ?_⟩⟩
        have s5 := But.made nx ndx b5
        have hD5 := s5 _ _ hD
        refine ⟨_, hD5, ?_, same_but (s3.trans s5) nD, ws ++ [x], ?_, ?_, ?_⟩
        · rw [List.length_map, hl]
          exact small_line (by omega)
        · rw [upd_same, List.map_append]
          rfl
        · intro z hz
          rcases List.mem_append.mp hz with e | e
          · exact ((hw z e).same s5).updL hD5
          · rw [List.mem_singleton] at e
            subst e
            exact hx.updL hD5
        · rw [List.length_append, hl]
          rfl
      exact ⟨rfl, go⟩
    · rintro H3 ⟨s3, ws, hD, hw, hl⟩
      obtain ⟨w0, w1, rfl⟩ : ∃ w0 w1, ws = [w0, w1] := by
        match ws, hl with
        | [a, b], _ => exact ⟨a, b, rfl⟩
      refine ⟨_, rfl, ?_⟩
      intro y dy ny ndy ney
      refine ⟨y, dy, cl, D, h, rfl, upd_same, ⟨rfl, ?_⟩⟩
      rw [upd_upd]
      have sy : Same H3 (upd (upd H3 dy (.own y)) y (.ins A.cYard dy (yaF cl D h))) := same_made ny ndy
      refine q y _ cl D (scl.trans (s3.trans sy)) (scl.free (s3.free ny)) ncl (scl.free nD) ncD ⟨⟨dy, upd_same⟩, ⟨[], sy _ _ (s3 _ _ upd_same), .nil⟩, ⟨w0, w1, sy _ _ hD, (hw w0 (by simp)).same sy, (hw w1 (by simp)).same sy⟩⟩

/-! ### are_bounds, are_wants, is_crate -/
def spBounds : Sp := fun vs H Q _ => ∃ (a b lo hi : Nat), vs = [vn a, vn b, vn lo, vn hi] ∧ Q (.bl (Tm.bounds a b lo hi)) H
theorem scBounds : FnScope ["least", "most", "low", "high"] ["least", "most", "low", "high"] (defScope sBounds) := ⟨rfl, rfl, rfl, by decide +kernel, rfl, by decide +kernel, by decide +kernel⟩
theorem ok_bounds (T : Txt K mg A) : Ok P w K mg base CX0 1 A.bounds ["least", "most", "low", "high"] spBounds := by
  obtain ⟨fd, F, b⟩ := T.bounds.d
  refine ⟨fd, F.ok scBounds (fun vs H Q E h => ?_) (fun cdv A' outer s H vs Q E hr h => ?_), b⟩
  · obtain ⟨a, b, lo, hi, rfl, _⟩ := h
    rfl
  · obtain ⟨a, b, lo, hi, rfl, q⟩ := h
    refine ⟨_, pss_one (ps_ret (pe_and (pe_cmpR op_ge (pv 0) (pv 2) (nomark _)) (pe_and (pe_cmpR op_le (pv 0) (pv 1) (nomark _)) (pe_one (pe_cmpR op_le (pv 1) (pv 3) (nomark _)))))), ?_⟩
    unfold Tm.bounds at q
    refine ⟨_, rfl, _, rfl, _, _, rfl, rfl, _, rfl, ite3 (fun c => ?_) (fun c => ?_)⟩
    · rw [dec_le] at c
      rw [c, Bool.true_and] at q
      refine ⟨_, rfl, _, rfl, _, _, rfl, rfl, _, rfl, ite3 (fun c => ?_) (fun c => ?_)⟩
      · rw [dec_le] at c
        rw [c, Bool.true_and] at q
        refine ⟨_, rfl, _, rfl, _, _, rfl, rfl, ?_⟩
        show Q (V.bl (decide ((b : Int) ≤ (hi : Int)))) H
        rw [dec_le]
        exact q
      · rw [dec_le] at c
        rw [c, Bool.false_and] at q
        exact q
    · rw [dec_le] at c
      rw [c, Bool.false_and] at q
      exact q
def spAreWants (K : PySem.W.Frag) : Sp := fun vs H Q _ => ∃ (l : Addr) (x : Wanted), vs = [.ref l] ∧ SqL K H l (w6 x) ∧ Q (.bl (Tm.areWants x)) H
theorem scAreWants : FnScope ["numbers"] ["numbers"] (defScope sAreWants) := ⟨rfl, rfl, rfl, by decide +kernel, rfl, by decide +kernel, by decide +kernel⟩
theorem ok_areWants (T : Txt K mg A) : Ok P w K mg base CX0 2 A.areWants ["numbers"] (spAreWants K) := by
  obtain ⟨fd, F, b⟩ := T.areWants.d
  obtain ⟨f1, G1, b1⟩ := ok_bounds (P := P) (w := w) (base := base) T
  obtain ⟨t1, g1⟩ := T.c_MOST_WEIGHT
  obtain ⟨t2, g2⟩ := T.c_MOST_SHARE
  refine ⟨fd, F.ok scAreWants (fun vs H Q E h => ?_) (fun cdv A' outer s H vs Q E hr h => ?_), b⟩
  · obtain ⟨l, x, rfl, _⟩ := h
    rfl
  · obtain ⟨l, x, rfl, hl, q⟩ := h
    refine ⟨_, pss_cons (ps_if (pt_not (pt_val (pe_call G1 hr rfl T.bounds.g T.bounds.k b1 .nil pass0 (pa_cons (pe_ix ix_list (pv 0) pe_int (fun _ _ => rfl)) (pa_cons (pe_ix ix_list (pv 0) pe_int (fun _ _ => rfl)) (pa_cons pe_int (pa_cons (pe_glob (v := .int 1000) rfl g1 ⟨_, rfl⟩) pa_nil))))))) (pss_one (ps_ret pe_bl)) pss_nil)
      (pss_one (ps_ret (pe_and (pe_call G1 hr rfl T.bounds.g T.bounds.k b1 .nil pass0 (pa_cons (pe_ix ix_list (pv 0) pe_int (fun _ _ => rfl)) (pa_cons (pe_ix ix_list (pv 0) pe_int (fun _ _ => rfl)) (pa_cons pe_int (pa_cons (pe_glob (v := .int 1000) rfl g2 ⟨_, rfl⟩) pa_nil)))))
        (pe_one (pe_call G1 hr rfl T.bounds.g T.bounds.k b1 .nil pass0 (pa_cons (pe_ix ix_list (pv 0) pe_int (fun _ _ => rfl)) (pa_cons (pe_ix ix_list (pv 0) pe_int (fun _ _ => rfl)) (pa_cons pe_int (pa_cons (pe_glob (v := .int 1000) rfl g2 ⟨_, rfl⟩) pa_nil))))))))), ?_⟩
    unfold Tm.areWants at q
    refine ⟨_, rfl, l, _, _, _, rfl, rfl, hl, rfl, _, rfl, l, _, _, _, rfl, rfl, hl, rfl, x.light, x.heavy, 1, 1000, rfl, _, rfl, ite3 (fun c => ?_) (fun c => ?_)⟩
    · rw [if_pos (by simpa using c)] at q
      exact q
    · have c1 : Tm.bounds x.light x.heavy 1 1000 = true := by simpa using c
      rw [if_neg (by rw [c1]; decide)] at q
      refine ⟨_, rfl, l, _, _, _, rfl, rfl, hl, rfl, _, rfl, l, _, _, _, rfl, rfl, hl, rfl, x.copperLow, x.copperHigh, 0, 1000, rfl, _, rfl, ite3 (fun c => ?_) (fun c => ?_)⟩
      · rw [c, Bool.true_and] at q
        exact ⟨_, rfl, l, _, _, _, rfl, rfl, hl, rfl, _, rfl, l, _, _, _, rfl, rfl, hl, rfl, x.zincLow, x.zincHigh, 0, 1000, rfl, q⟩
      · rw [c, Bool.false_and] at q
        exact q
def spIsCrate : Sp := fun vs H Q _ => ∃ c : Crate, vs = [vn c.heavy, vn c.copper, vn c.zinc, vn c.price] ∧ Q (.bl (Tm.isCrate c)) H
theorem scIsCrate : FnScope ["heavy", "copper", "zinc", "price"] ["heavy", "copper", "zinc", "price"] (defScope sIsCrate) := ⟨rfl, rfl, rfl, by decide +kernel, rfl, by decide +kernel, by decide +kernel⟩
theorem ok_isCrate (T : Txt K mg A) : Ok P w K mg base CX0 1 A.isCrate ["heavy", "copper", "zinc", "price"] spIsCrate := by
  obtain ⟨fd, F, b⟩ := T.isCrate.d
  obtain ⟨t1, g1⟩ := T.c_MOST_HEAVY
  obtain ⟨t2, g2⟩ := T.c_THOUSAND
  obtain ⟨t3, g3⟩ := T.c_MOST_PRICE
  refine ⟨fd, F.ok scIsCrate (fun vs H Q E h => ?_) (fun cdv A' outer s H vs Q E hr h => ?_), b⟩
  · obtain ⟨c, rfl, _⟩ := h
    rfl
  · obtain ⟨c, rfl, q⟩ := h
    refine ⟨_, pss_one (ps_ret (pe_and (pe_cmpR op_ge (pv 0) pe_int (nomark _)) (pe_and (pe_cmpR op_le (pv 0) (pe_glob (v := .int 200) rfl g1 ⟨_, rfl⟩) (nomark _)) (pe_and (pe_cmpR op_le (pe_op op_add (pv 1) (pv 2)) (pe_glob (v := .int 1000) rfl g2 ⟨_, rfl⟩) (nomark _)) (pe_one (pe_cmpR op_le (pv 3) (pe_glob (v := .int 1000) rfl g3 ⟨_, rfl⟩) (nomark _))))))), ?_⟩
    unfold Tm.isCrate at q
    refine ⟨_, rfl, _, _, rfl, rfl, _, rfl, ite3 (fun c1 => ?_) (fun c1 => ?_)⟩
    · have e : decide (1 ≤ c.heavy) = true := (dec_le (a := 1) (b := c.heavy)).symm.trans c1
      rw [e, Bool.true_and] at q
      refine ⟨_, rfl, _, _, rfl, rfl, _, rfl, ite3 (fun c2 => ?_) (fun c2 => ?_)⟩
      · have e : decide (c.heavy ≤ 200) = true := (dec_le (a := c.heavy) (b := 200)).symm.trans c2
        rw [e, Bool.true_and] at q
        refine ⟨_, rfl, _, rfl, _, _, rfl, rfl, _, _, rfl, rfl, _, rfl, ite3 (fun c3 => ?_) (fun c3 => ?_)⟩
        · have e : decide (c.copper + c.zinc ≤ 1000) = true := (dec_le (a := c.copper + c.zinc) (b := 1000)).symm.trans c3
          rw [e, Bool.true_and] at q
          refine ⟨_, rfl, _, _, rfl, rfl, ?_⟩
          have e : decide ((c.price : Int) ≤ 1000) = decide (c.price ≤ 1000) := dec_le (a := c.price) (b := 1000)
          show Q (V.bl (decide ((c.price : Int) ≤ 1000))) H
          rw [e]
          exact q
        · have e : decide (c.copper + c.zinc ≤ 1000) = false := (dec_le (a := c.copper + c.zinc) (b := 1000)).symm.trans c3
          rw [e, Bool.false_and] at q
          exact q
      · have e : decide (c.heavy ≤ 200) = false := (dec_le (a := c.heavy) (b := 200)).symm.trans c2
        rw [e, Bool.false_and] at q
        exact q
    · have e : decide (1 ≤ c.heavy) = false := (dec_le (a := 1) (b := c.heavy)).symm.trans c1
      rw [e, Bool.false_and] at q
      exact q

/-! ### The desk -/
/-- behind H0 (all that it doesn't own) a desk stands at d, its yard is s -/
structure DeAt (A : Adr) (H0 H : Hp) (d : Addr) (s : Sj16.Shop) : Prop where
  same : Same H0 H
  nd : H0 d = none
  ex : ∃ dd y cl wl, H0 cl = none ∧ H0 wl = none ∧ cl ≠ wl ∧ H d = some (.ins A.cDesk dd (deF y)) ∧ YaIs A H y cl wl s
theorem DeAt.on {H0 H H' : Hp} {d : Addr} {s : Sj16.Shop} (h : DeAt A H0 H d s) (e : Same H H') : DeAt A H0 H' d s :=
  let ⟨dd, y, cl, wl, n1, n2, n3, e1, e2⟩ := h.ex; ⟨h.same.trans e, h.nd, dd, y, cl, wl, n1, n2, n3, e _ _ e1, e2.same e⟩
theorem DeAt.less {H0 H1 H : Hp} {d : Addr} {s : Sj16.Shop} (h : DeAt A H1 H d s) (e : Same H0 H1) : DeAt A H0 H d s :=
  let ⟨dd, y, cl, wl, n1, n2, n3, e1, e2⟩ := h.ex; ⟨e.trans h.same, e.free h.nd, dd, y, cl, wl, e.free n1, e.free n2, n3, e1, e2⟩
theorem DeAt.add {H0 H : Hp} {d p : Addr} {s : Sj16.Shop} {o : HO} (h : DeAt A H0 H d s) (n : H p = none) : DeAt A (upd H0 p o) (upd H p o) d s := by
  obtain ⟨s0, nd, dd, y, cl, wl, n1, n2, n3, e1, e2⟩ := h
  have sp := same_upd (o := o) n
  obtain ⟨dy, ey⟩ := e2.y
  obtain ⟨as, ec, _⟩ := e2.cr
  obtain ⟨w0, w1, ew, _⟩ := e2.wa
  refine ⟨fun a u q => ?_, by rw [upd_ne (ne_of_none e1 n)]; exact nd, dd, y, cl, wl, by rw [upd_ne (ne_of_none ec n)]; exact n1, by rw [upd_ne (ne_of_none ew n)]; exact n2, n3, sp _ _ e1, e2.same sp⟩
  by_cases h : a = p
  · subst h
    rw [upd_same] at q ⊢
    exact q
  · rw [upd_ne h] at q ⊢
    exact s0 _ _ q
/-- what a call comes to -/
def OutOk (A : Adr) (H0 : Hp) (d : Addr) (s : Sj16.Shop) (o : Out) (Q : VK) (E : XK) : Prop :=
  (∀ s' l, o = .ok (s', l) → ∀ H' a, DeAt A H0 H' d s' → H0 a = none → H' a = some (.lst (l.map V.int)) → Q (.ref a) H') ∧
  (∀ l, o = .error l → ∀ H' x a, DeAt A H0 H' d s → H0 a = none → H' x = some (.xd [(("numbers" : Str), .ref a)]) → H' a = some (.lst (l.map V.int)) → E (.ref A.cRef) (some x) H')
theorem OutOk.more {H0 H1 : Hp} {d : Addr} {s : Sj16.Shop} {o : Out} {Q : VK} {E : XK} (h : OutOk A H0 d s o Q E) (e : Same H0 H1) : OutOk A H1 d s o Q E :=
  ⟨fun s' l q H' a hD n hl => h.1 s' l q H' a (hD.less e) (e.free n) hl, fun l q H' x a hD n hx hl => h.2 l q H' x a (hD.less e) (e.free n) hx hl⟩
/-- a refusal: must(.., [numbers]) -/
theorem OutOk.refuse {H0 H : Hp} {d : Addr} {s : Sj16.Shop} {l : List Int} {Q : VK} {E : XK} {a : Addr} (h : OutOk A H0 d s (.error l) Q E) (hD : DeAt A H0 H d s) (na : H0 a = none) (hl : H a = some (.lst (l.map V.int))) :
    ∀ x, H x = none → E (.ref A.cRef) (some x) (upd H x (.xd [(("numbers" : Str), .ref a)])) := fun x nx =>
  h.2 l rfl _ x a (hD.on (same_upd nx)) na upd_same (same_upd nx _ _ hl)
def spDeskI (A : Adr) : Sp := fun vs H Q _ => ∃ (p dx : Addr), vs = [.ref p] ∧ H p = some (.ins A.cDesk dx []) ∧
  ∀ H' y cl wl, But p H H' → H cl = none → H wl = none → cl ≠ wl → H' p = some (.ins A.cDesk dx (deF y)) → YaIs A H' y cl wl (newShop 0) → Q .non H'
theorem YaIs.updI {H : Hp} {p y cl wl C dx : Addr} {fs : List (Str × V)} {o : HO} {s : Sj16.Shop} (h : YaIs A H y cl wl s) (e : H p = some (.ins A.cDesk dx fs)) (hn : ∀ a dy, H a = some (.ins A.cDesk dy fs) → a ≠ y) (hx : ∀ c, crF c ≠ fs) (hw : ∀ a b c, waF a b c ≠ fs) : YaIs A (upd H p o) y cl wl s := by
  have n : ∀ {b : Addr} {u : HO}, H b = some u → u ≠ .ins A.cDesk dx fs → (upd H p o) b = some u := fun {b u} q d => by
    rw [upd_ne (ne_of q e d)]; exact q
  obtain ⟨⟨dy, hy⟩, ⟨as, hc, hs⟩, ⟨w0, w1, hw0, h0, h1⟩⟩ := h
  have wa : ∀ {a : Addr} {x : Wanted}, WaAt A H a x → WaAt A (upd H p o) a x := fun {a x} ⟨dx', t1, t2, t3, e0, e1, e2, e3⟩ =>
    ⟨dx', t1, t2, t3, n e0 (fun z => by injection z with z1 z2 z3; exact hw _ _ _ z3), n e1 (fun z => by cases z), n e2 (fun z => by cases z), n e3 (fun z => by cases z)⟩
  exact ⟨⟨dy, by rw [upd_ne (hn p dx e).symm]; exact hy⟩, ⟨as, n hc (fun z => by cases z), paired_mono (fun a c ⟨dx', q⟩ => ⟨dx', n q (fun z => by injection z with z1 z2 z3; exact hx _ z3)⟩) hs⟩, ⟨w0, w1, n hw0 (fun z => by cases z), wa h0, wa h1⟩⟩
theorem YaIs.updD {H : Hp} {d y cl wl dd y0 : Addr} {o : HO} {s : Sj16.Shop} (h : YaIs A H y cl wl s) (e : H d = some (.ins A.cDesk dd (deF y0))) : YaIs A (upd H d o) y cl wl s := by
  obtain ⟨dy, hy⟩ := h.y
  refine h.updI e (C := d) (fun a dy' q z => ?_) (fun c z => by cases z) (fun a b c z => by cases z)
  rw [z, hy] at q
  injection q with q
  injection q with q1 q2 q3
  cases q3
theorem YaIs.updN {H : Hp} {d y cl wl dd : Addr} {o : HO} {s : Sj16.Shop} (h : YaIs A H y cl wl s) (e : H d = some (.ins A.cDesk dd [])) : YaIs A (upd H d o) y cl wl s := by
  obtain ⟨dy, hy⟩ := h.y
  refine h.updI e (C := d) (fun a dy' q z => ?_) (fun c z => by cases z) (fun a b c z => by cases z)
  rw [z, hy] at q
  injection q with q
  injection q with q1 q2 q3
  cases q3
theorem scDeskI : FnScope ["self"] ["self"] (defScope sDeskI) := ⟨rfl, rfl, rfl, by decide +kernel, rfl, by decide +kernel, by decide +kernel⟩
theorem ok_deskI (T : Txt K mg A) : Ok P w K mg base CX0 4 A.iDesk ["self"] (spDeskI A) := by
  obtain ⟨fd, F, b⟩ := T.deskC.d
  obtain ⟨f1, G1, b1⟩ := ok_newYard (P := P) (w := w) (base := base) T
  refine ⟨fd, F.ok scDeskI (fun vs H Q E h => ?_) (fun cdv A' outer s H vs Q E hr h => ?_), b⟩
  · obtain ⟨p, dx, rfl, _⟩ := h
    rfl
  · obtain ⟨p, dx, rfl, hp, q⟩ := h
    refine ⟨_, pss_one (ps_fld (pv 0) (pe_call G1 hr rfl T.newYard.g T.newYard.k b1 .nil pass0 (pa_cons pe_int pa_nil)) rfl), ?_⟩
    refine ⟨0, rfl, fun y H1 cl wl s1 ny ncl nwl ncw hY => ?_⟩
    have hp1 := s1 _ _ hp
    refine ⟨_, rfl, p, A.cDesk, dx, [], rfl, hp1, T.deskC.cl, T.de_yard, (by decide), ?_⟩
    refine q _ y cl wl (But.of_same s1).upd ncl nwl ncw ?_ (hY.updN hp1)
    rw [upd_same]
    exact congrArg (fun q => some (HO.ins A.cDesk dx q)) (deF_put y)

/-! ### begins -/
def spBegins (A : Adr) : Sp := fun vs H Q E => ∃ (H0 : Hp) (d : Addr) (s : Sj16.Shop) (h : Nat), vs = [.ref d, vn h] ∧ DeAt A H0 H d s ∧ OutOk A H0 d s (mBegins h) Q E
theorem scBegins : FnScope ["self", "stays"] ["self", "stays"] (defScope sBegins) := ⟨rfl, rfl, rfl, by decide +kernel, rfl, by decide +kernel, by decide +kernel⟩
theorem ok_begins (T : Txt K mg A) : Ok P w K mg base (L2.CX P w) 4 A.begins ["self", "stays"] (spBegins A) := by
  obtain ⟨fd, F, b⟩ := T.beginsM.d
  obtain ⟨f1, G1, b1⟩ := ok_must (P := P) (w := w) (base := base) T
  obtain ⟨f2, G2, b2⟩ := ok_newYard (P := P) (w := w) (base := base) T
  obtain ⟨t1, g1⟩ := T.c_MOST_STAYS
  refine ⟨fd, F.okX scBegins (fun vs H Q E h => ?_) (fun cdv A' outer s H vs Q E hr h => ?_), b⟩
  · obtain ⟨H0, d, S, h, rfl, _⟩ := h
    rfl
  · obtain ⟨H0, d, S, h, rfl, hD, q⟩ := h
    refine ⟨_, pss_cons (ps_expr (pe_call G1 hr rfl T.must.g T.must.k b1 .nil (passes_call (takes_of (E := E) rfl rfl rfl rfl) fun _ _ _ _ h => h) (pa_cons (pe_cmpR op_le (pv 1) (pe_glob (v := .int 200) rfl g1 ⟨_, rfl⟩) (nomark _)) (pa_cons (pe_lst (pa_cons (pe_un un_neg pe_int) pa_nil)) pa_nil))))
      (pss_cons (ps_fld (pv 0) (pe_call G2 hr rfl T.newYard.g T.newYard.k b2 .nil pass0 (pa_cons (pv 1) pa_nil)) rfl)
      (pss_one (ps_ret (pe_lst (pa_cons pe_int pa_nil))))), ?_⟩
    refine ⟨_, rfl, _, _, rfl, rfl, _, rfl, le_line (by show 1 ≤ 16777216; decide), fun a na => ?_⟩
    have sa := same_upd (o := .lst [.int (-1)]) na
    have ec : decide ((h : Int) ≤ 200) = decide (h ≤ 200) := dec_le (a := h) (b := 200)
    unfold mBegins at q
    refine ⟨_, a, rfl, fun c => ?_, fun c => ?_⟩
    · have c1 : h ≤ 200 := of_decide_eq_true (ec.symm.trans c)
      rw [if_pos c1] at q
      have hD1 := hD.on sa
      refine ⟨_, rfl, h, rfl, fun y H1 cl wl s1 ny ncl nwl ncw hY => ?_⟩
      have hD2 := hD1.on s1
      obtain ⟨dd, y0, cl0, wl0, n1, n2, n3, ed, _⟩ := hD2.ex
      refine ⟨_, rfl, d, A.cDesk, dd, _, rfl, ed, T.deskC.cl, T.de_yard, (by show 1 < 1000; decide), ?_⟩
      refine ⟨le_line (by show 1 ≤ 16777216; decide), fun r nr => ?_⟩
      have e1 : (upd H1 d (.ins A.cDesk dd (deF y))) d = some (.ins A.cDesk dd (deF y)) := upd_same
      have ep : putF "yard" (V.ref y) (deF y0) = deF y := deF_put1 y y0
      rw [ep] at nr ⊢
      have sr := same_upd (o := .lst [.int 0]) nr
      have s0 : Same H0 (upd H1 d (.ins A.cDesk dd (deF y))) := same_but hD2.same hD2.nd
      refine q.1 _ _ rfl _ r ⟨s0.trans sr, hD.nd, dd, y, cl, wl, hD1.same.free ncl, hD1.same.free nwl, ncw, sr _ _ e1, (hY.updD ed).same sr⟩ (s0.free nr) upd_same
    · have c1 : ¬ h ≤ 200 := of_decide_eq_false (ec.symm.trans c)
      rw [if_neg c1] at q
      exact q.refuse (hD.on sa) (hD.same.free na) upd_same
end
end Tm
/-! TmG: want, crate, check, cheap, alone. -/
namespace Tm
open PySem PySem.Spec PyProof.Rows L2
open Sj14 (Crate Wanted)
section
variable {P : Program} {w : World} {K : PySem.W.Frag} {mg : Str → Option Value} {base : Heap} {A : Adr}

/-! ### A yard's lists change -/
theorem keepL {H : Hp} {D b : Addr} {xs : List V} {u o : HO} (e : H D = some (.lst xs)) (q : H b = some o) (d : ∀ zs, o ≠ .lst zs) : (upd H D u) b = some o := by
  rw [upd_ne (ne_of q e (d xs))]
  exact q
theorem WaAt.updU {H : Hp} {D a : Addr} {xs : List V} {u : HO} {w : Wanted} (h : WaAt A H a w) (e : H D = some (.lst xs)) : WaAt A (upd H D u) a w := by
  obtain ⟨dx, t1, t2, t3, e0, e1, e2, e3⟩ := h
  exact ⟨dx, t1, t2, t3, keepL e e0 (fun _ z => by cases z), keepL e e1 (fun _ z => by cases z), keepL e e2 (fun _ z => by cases z), keepL e e3 (fun _ z => by cases z)⟩
theorem Crs.updU {H : Hp} {D : Addr} {xs : List V} {u : HO} {as : List Addr} {cs : List Crate} (h : Crs A H as cs) (e : H D = some (.lst xs)) : Crs A (upd H D u) as cs :=
  paired_mono (fun a c ⟨dx, q⟩ => ⟨dx, keepL e q (fun _ z => by cases z)⟩) h
theorem YaIs.setW {H : Hp} {y cl wl x : Addr} {s : Sj16.Shop} {w : Wanted} {k : Nat} (h : YaIs A H y cl wl s) (n : cl ≠ wl) (hx : WaAt A H x w) (hk : k < 2) :
    ∃ ws j, H wl = some (.lst ws) ∧ ixN ws.length (k : Int) = some j ∧ YaIs A (upd H wl (.lst (ws.set j (.ref x)))) y cl wl (setWant s k w) := by
  obtain ⟨⟨dy, hy⟩, ⟨as, hc, hs⟩, ⟨w0, w1, hw, h0, h1⟩⟩ := h
  have y' : ∀ u, (upd H wl u) y = some (.ins A.cYard dy (yaF cl wl s.heel)) := fun u => keepL hw hy (fun _ z => by cases z)
  have c' : ∀ u, (upd H wl u) cl = some (.lst (as.map V.ref)) := fun u => by rw [upd_ne n]; exact hc
  have e : k = 0 ∨ k = 1 := by omega
  rcases e with rfl | rfl
  · exact ⟨_, 0, hw, rfl, ⟨dy, y' _⟩, ⟨as, c' _, hs.updU hw⟩, ⟨x, w1, upd_same, hx.updU hw, h1.updU hw⟩⟩
  · exact ⟨_, 1, hw, rfl, ⟨dy, y' _⟩, ⟨as, c' _, hs.updU hw⟩, ⟨w0, x, upd_same, h0.updU hw, hx.updU hw⟩⟩
theorem YaIs.more {H : Hp} {y cl wl x : Addr} {s : Sj16.Shop} {c : Crate} (h : YaIs A H y cl wl s) (n : cl ≠ wl) (hx : CrAt A H x c) :
    ∃ as : List Addr, H cl = some (.lst (as.map V.ref)) ∧ as.length = s.crates.length ∧ YaIs A (upd H cl (.lst (as.map V.ref ++ [.ref x]))) y cl wl { s with crates := s.crates ++ [c] } := by
  obtain ⟨⟨dy, hy⟩, ⟨as, hc, hs⟩, ⟨w0, w1, hw, h0, h1⟩⟩ := h
  obtain ⟨dx, ex⟩ := hx.ex
  refine ⟨as, hc, paired_length hs, ⟨dy, keepL hc hy (fun _ z => by cases z)⟩, ⟨as ++ [x], ?_, ?_⟩, ⟨w0, w1, by rw [upd_ne n.symm]; exact hw, h0.updU hc, h1.updU hc⟩⟩
  · rw [upd_same, List.map_append]
    rfl
  · exact paired_append (hs.updU hc) (.cons ⟨dx, keepL hc ex (fun _ z => by cases z)⟩ .nil)

/-- [e for x in xs], behind its new list D: e reads and changes nothing -/
theorem lc_map {i : Nat} {te : TE} {σ : L2.St} {H1 : Hp} {a D : Addr} {xs : List V} {Qd : Hp → Prop} (ys : List V) (hl : ys.length = xs.length) (hq : SqL K H1 a xs) (hD : H1 D = none) (hsz : xs.length < sizeLine)
    (hw : ∀ x, wipe ((wipe σ [i]).set i (some x)) [i] = wipe σ [i])
    (he : ∀ (n : Nat) (x y : V) (H' : Hp) (R : VK), xs[n]? = some x → ys[n]? = some y → Same H1 H' → R y H' → te ((wipe σ [i]).set i (some x)) H' R)
    (k : ∀ H', Same H1 H' → H' D = some (.lst ys) → Qd H') : ∃ W : Nat → Nat → Hp → Prop, (∃ m, W 0 m (upd H1 D (.lst []))) ∧ ∀ n m H, W n m H →
      ((Itl K a).stop n H ∧ Qd H) ∨ ((Itl K a).go n H ∧ ∃ Nx : Hp → Prop, (∀ H', Nx H' → ∃ m', m' < m ∧ W (n + 1) m' H') ∧ ∀ x H', (Itl K a).yld n H x H' → gName i x (wipe σ [i]) H' fun σ2 H2 => wipe σ2 [i] = wipe σ [i] ∧ tYes σ2 H2 fun b H3 =>
        if b = true then te σ2 H3 fun y H4 => ∃ acc, H4 D = some (.lst acc) ∧ acc.length < sizeLine ∧ Nx (upd H4 D (.lst (acc ++ [y]))) else Nx H3) := by
  refine lc_list (K := K) (a := a) (xs := xs) (g := gName i) (tt := tYes) (te := te) (vs := [i]) (σ := σ) (fun n H' => Same H1 H' ∧ H' D = some (.lst (ys.take n))) ⟨same_upd hD, upd_same⟩ (fun n H' _ ⟨s, _⟩ => s.seq hq) ?_ ?_
  · rintro n x H' hx ⟨s, e⟩
    have hn : n < xs.length := (List.getElem?_eq_some_iff.mp hx).1
    have hy : ys[n]? = some (ys[n]'(by omega)) := List.getElem?_eq_getElem (by omega)
    have g := he n x _ H' (fun y H4 => ∃ acc, H4 D = some (.lst acc) ∧ acc.length < sizeLine ∧ (Same H1 (upd H4 D (.lst (acc ++ [y]))) ∧ (upd H4 D (.lst (acc ++ [y]))) D = some (.lst (ys.take (n + 1))))) hx hy s
    refine ⟨hw x, g ⟨_, e, ?_, same_but s hD, ?_⟩⟩
    · rw [List.length_take]
      exact Nat.lt_of_le_of_lt (Nat.min_le_left _ _) (Nat.lt_trans hn hsz)
    · rw [upd_same, List.take_add_one, hy]
      rfl
  · rintro H' ⟨s, e⟩
    rw [← hl, List.take_length] at e
    exact k H' s e

/-! ### want -/
def spWant (K : PySem.W.Frag) (A : Adr) : Sp := fun vs H Q E => ∃ (H0 : Hp) (d l : Addr) (s : Sj16.Shop) (k : Nat) (x : Wanted), vs = [.ref d, vn k, .ref l] ∧ DeAt A H0 H d s ∧ SqL K H0 l (w6 x) ∧ OutOk A H0 d s (mWant s k x) Q E
theorem scWant : FnScope ["self", "melt", "numbers"] ["self", "melt", "numbers"] (defScope sWant) := ⟨rfl, rfl, rfl, by decide +kernel, rfl, by decide +kernel, by decide +kernel⟩
theorem ok_want (T : Txt K mg A) : Ok P w K mg base (L2.CX P w) 4 A.want ["self", "melt", "numbers"] (spWant K A) := by
  obtain ⟨fd, F, b⟩ := T.wantM.d
  obtain ⟨f1, G1, b1⟩ := ok_must (P := P) (w := w) (base := base) T
  obtain ⟨f2, G2, b2⟩ := ok_areWants (P := P) (w := w) (base := base) T
  obtain ⟨f3, G3, b3⟩ := ok_wantedI (P := P) (w := w) (base := base) T
  obtain ⟨t1, g1⟩ := T.c_MELTS
  refine ⟨fd, F.okX scWant (fun vs H Q E h => ?_) (fun cdv A' outer s H vs Q E hr h => ?_), b⟩
  · obtain ⟨H0, d, l, S, k, x, rfl, _⟩ := h
    rfl
  · obtain ⟨H0, d, l, S, k, x, rfl, hD, hl, q⟩ := h
    have hr2 : Room 2 _ := hr.mono (by decide)
    refine ⟨_, pss_cons (ps_expr (pe_call G1 hr rfl T.must.g T.must.k b1 .nil (passes_call (takes_of (E := E) rfl rfl rfl rfl) fun _ _ _ _ h => h) (pa_cons (pe_cmpR op_lt (pv 1) (pe_glob (v := .int 2) rfl g1 ⟨_, rfl⟩) (nomark _)) (pa_cons (pe_lst (pa_cons (pe_un un_neg pe_int) pa_nil)) pa_nil))))
      (pss_cons (ps_expr (pe_call G1 hr rfl T.must.g T.must.k b1 .nil (passes_call (takes_of (E := E) rfl rfl rfl rfl) fun _ _ _ _ h => h) (pa_cons (pe_call G2 hr2 rfl T.areWants.g T.areWants.k b2 .nil pass0 (pa_cons (pv 2) pa_nil)) (pa_cons (pe_lst (pa_cons (pe_un un_neg pe_int) pa_nil)) pa_nil))))
      (pss_cons (ps_asg (pe_make T.wantedC.m G3 hr2 rfl T.wantedC.g b3 .nil pass0 (pa_cons (pv 2) pa_nil)) (pg_sub (pe_fld (pe_fld (pv 0) rfl) rfl) (pv 1) set_list))
      (pss_one (ps_ret (pe_lst (pa_cons pe_int pa_nil)))))), ?_⟩
    unfold mWant at q
    refine ⟨_, rfl, _, _, rfl, rfl, _, rfl, le_line (by show 1 ≤ 16777216; decide), fun a na => ?_⟩
    have sa := same_upd (o := .lst [.int (-2)]) na
    have ec : decide ((k : Int) < 2) = decide (k < 2) := dec_lt (a := k) (b := 2)
    refine ⟨_, a, rfl, fun c => ?_, fun c => ?_⟩
    · have c1 : k < 2 := of_decide_eq_true (ec.symm.trans c)
      rw [if_neg (fun z => z c1)] at q
      have hD1 := hD.on sa
      refine ⟨_, rfl, l, x, rfl, hD1.same.seq hl, _, rfl, le_line (by show 1 ≤ 16777216; decide), fun a2 na2 => ?_⟩
      have sa2 := same_upd (o := .lst [.int (-1)]) na2
      have hD2 := hD1.on sa2
      refine ⟨_, a2, rfl, fun c => ?_, fun c => ?_⟩
      · rw [if_neg (by rw [c]; decide)] at q
        refine ⟨_, rfl, ?_⟩
        intro z dz nz ndz nez
        have sz : Same _ (upd (upd _ dz (.own z)) z (.ins A.cWanted dz [])) := same_made nz ndz
        refine ⟨z, dz, l, x, rfl, upd_same, .inl (sz.seq (hD2.same.seq hl)), fun H5 b5 hz => ⟨rfl, ?_⟩⟩
        have hD5 := hD2.on (But.made nz ndz b5)
        obtain ⟨dd, y, cl, wl, n1, n2, n3, ed, hY⟩ := hD5.ex
        obtain ⟨dy, hy⟩ := hY.y
        obtain ⟨ws, j, ew, ej, hY2⟩ := hY.setW n3 hz c1
        refine ⟨_, rfl, d, _, dd, _, _, rfl, ed, T.deskC.cl, T.de_yard, deF_yard _, y, _, dy, _, _, rfl, hy, T.yardC.cl, T.ya_wants, yaF_wants _ _ _, _, rfl, wl, ws, _, j, rfl, rfl, ew, ej, ?_⟩
        refine ⟨le_line (by show 1 ≤ 16777216; decide), fun r nr => ?_⟩
        have sr := same_upd (o := .lst [.int 0]) nr
        have s0 : Same H0 (upd H5 wl (.lst (ws.set j (.ref z)))) := same_but hD5.same n2
        refine q.1 _ _ rfl _ r ⟨s0.trans sr, hD.nd, dd, y, cl, wl, n1, n2, n3, sr _ _ (keepL ew ed (fun _ z => by cases z)), hY2.same sr⟩ (s0.free nr) upd_same
      · rw [if_pos c] at q
        exact q.refuse hD2 (hD1.same.free na2) upd_same
    · have c1 : ¬ k < 2 := of_decide_eq_false (ec.symm.trans c)
      rw [if_pos c1] at q
      exact q.refuse (hD.on sa) (hD.same.free na) upd_same

/-! ### crate -/
def spCrateM (K : PySem.W.Frag) (A : Adr) : Sp := fun vs H Q E => ∃ (H0 : Hp) (d l : Addr) (s : Sj16.Shop) (c : Crate), vs = [.ref d, .ref l] ∧ DeAt A H0 H d s ∧ SqL K H0 l [vn c.heavy, vn c.copper, vn c.zinc, vn c.price] ∧ OutOk A H0 d s (mCrate s c) Q E
theorem scCrateM : FnScope ["self", "numbers", "heavy", "copper", "zinc", "price"] ["self", "numbers"] (defScope sCrateM) := ⟨rfl, rfl, rfl, by decide +kernel, rfl, by decide +kernel, by decide +kernel⟩
theorem ok_crateM (T : Txt K mg A) : Ok P w K mg base (L2.CX P w) 4 A.crate ["self", "numbers"] (spCrateM K A) := by
  obtain ⟨fd, F, b⟩ := T.crateM.d
  obtain ⟨f1, G1, b1⟩ := ok_must (P := P) (w := w) (base := base) T
  obtain ⟨f2, G2, b2⟩ := ok_isCrate (P := P) (w := w) (base := base) T
  obtain ⟨f3, G3, b3⟩ := ok_crateI (P := P) (w := w) (base := base) T
  obtain ⟨t1, g1⟩ := T.c_MOST_CRATES
  refine ⟨fd, F.okX scCrateM (fun vs H Q E h => ?_) (fun cdv A' outer s H vs Q E hr h => ?_), b⟩
  · obtain ⟨H0, d, l, S, c, rfl, _⟩ := h
    rfl
  · obtain ⟨H0, d, l, S, x, rfl, hD, hl, q⟩ := h
    have hr1 : Room 1 _ := hr.mono (by decide)
    have hr2 : Room 2 _ := hr.mono (by decide)
    refine ⟨_, pss_cons (ps_asg (pv 1) (pg_lst rfl (pgs_cons (pg_name (i := 2) scCrateM.nd rfl (Or.inl rfl)) (pgs_cons (pg_name (i := 3) scCrateM.nd rfl (Or.inl rfl)) (pgs_cons (pg_name (i := 4) scCrateM.nd rfl (Or.inl rfl)) (pgs_cons (pg_name (i := 5) scCrateM.nd rfl (Or.inl rfl)) pgs_nil))))))
      (pss_cons (ps_expr (pe_call G1 hr rfl T.must.g T.must.k b1 .nil (passes_call (takes_of (E := E) rfl rfl rfl rfl) fun _ _ _ _ h => h) (pa_cons (pe_call G2 hr1 rfl T.isCrate.g T.isCrate.k b2 .nil pass0 (pa_cons (pv 2) (pa_cons (pv 3) (pa_cons (pv 4) (pa_cons (pv 5) pa_nil))))) (pa_cons (pe_lst (pa_cons (pe_un un_neg pe_int) pa_nil)) pa_nil))))
      (pss_cons (ps_expr (pe_call G1 hr rfl T.must.g T.must.k b1 .nil (passes_call (takes_of (E := E) rfl rfl rfl rfl) fun _ _ _ _ h => h) (pa_cons (pe_cmpR op_lt (pe_callB call_len_seq (by rfl) T.len PySem.boot_len (pa_cons (pe_fld (pe_fld (pv 0) rfl) rfl) pa_nil)) (pe_glob (v := .int 7) rfl g1 ⟨_, rfl⟩) (nomark _)) (pa_cons (pe_lst (pa_cons (pe_un un_neg pe_int) pa_nil)) pa_nil))))
      (pss_cons (ps_expr (pe_bm PySem.F.plainAttrs_list PySem.F.slot_list_append PySem.F.type_list_append mt_append (pe_fld (pe_fld (pv 0) rfl) rfl) (pa_cons (pe_make T.crateC.m G3 hr2 rfl T.crateC.g b3 .nil pass0 (pa_cons (pv 2) (pa_cons (pv 3) (pa_cons (pv 4) (pa_cons (pv 5) pa_nil))))) pa_nil)))
      (pss_one (ps_ret (pe_lst (pa_cons (pe_op op_sub (pe_callB call_len_seq (by rfl) T.len PySem.boot_len (pa_cons (pe_fld (pe_fld (pv 0) rfl) rfl) pa_nil)) pe_int) pa_nil))))))), ?_⟩
    unfold mCrate at q
    refine ⟨_, rfl, l, _, rfl, hD.same.seq hl, rfl, _, _, rfl, _, _, rfl, _, _, rfl, _, _, rfl, rfl, ?_⟩
    refine ⟨_, rfl, _, rfl, _, rfl, _, rfl, x, rfl, _, rfl, le_line (by show 1 ≤ 16777216; decide), fun a na => ?_⟩
    have sa := same_upd (o := .lst [.int (-1)]) na
    have hD1 := hD.on sa
    refine ⟨_, a, rfl, fun c => ?_, fun c => ?_⟩
    · rw [if_neg (by rw [c]; decide)] at q
      obtain ⟨dd, y, cl, wl, n1, n2, n3, ed, hY⟩ := hD1.ex
      obtain ⟨dy, hy⟩ := hY.y
      obtain ⟨as, hc, hcs⟩ := hY.cr
      have elen : (as.map V.ref).length = S.crates.length := by rw [List.length_map, paired_length hcs]
      refine ⟨_, rfl, d, _, dd, _, _, rfl, ed, T.deskC.cl, T.de_yard, deF_yard _, y, _, dy, _, _, rfl, hy, T.yardC.cl, T.ya_crates, yaF_crates _ _ _, cl, _, rfl, .inl (sql hc), _, _, rfl, rfl, _, rfl, le_line (by show 1 ≤ 16777216; decide), fun a2 na2 => ?_⟩
      have sa2 := same_upd (o := .lst [.int (-5)]) na2
      have hD2 := hD1.on sa2
      have ec : decide ((((as.map V.ref).length : Nat) : Int) < 7) = decide (S.crates.length < 7) := by rw [elen]; exact dec_lt (a := S.crates.length) (b := 7)
      refine ⟨_, a2, rfl, fun c5 => ?_, fun c5 => ?_⟩
      · have c6 : S.crates.length < 7 := of_decide_eq_true (ec.symm.trans c5)
        rw [if_neg (fun z => z c6)] at q
        obtain ⟨dd, y, cl, wl, n1, n2, n3, ed, hY⟩ := hD2.ex
        obtain ⟨dy, hy⟩ := hY.y
        obtain ⟨as, hc, hcs⟩ := hY.cr
        refine ⟨_, rfl, d, _, dd, _, _, rfl, ed, T.deskC.cl, T.de_yard, deF_yard _, y, _, dy, _, _, rfl, hy, T.yardC.cl, T.ya_crates, yaF_crates _ _ _, .inl ⟨rfl, _, sql hc⟩, _, rfl, _, rfl, _, rfl, _, rfl, ?_⟩
        intro z dz nz ndz nez
        refine ⟨z, dz, x, rfl, upd_same, ⟨rfl, ?_⟩⟩
        rw [upd_upd]
        have sz : Same _ (upd (upd _ dz (.own z)) z (.ins A.cCrate dz (crF x))) := same_made nz ndz
        have hY2 := hY.same sz
        have hD3 := hD2.on sz
        have ed3 := sz _ _ ed
        obtain ⟨as, hc, hlen, hY3⟩ := hY2.more n3 (x := z) (c := x) ⟨dz, upd_same⟩
        refine ⟨cl, _, _, rfl, rfl, hc, ?_, ?_⟩
        · rw [List.length_map, hlen]
          exact small_line (by omega)
        obtain ⟨dy, hy⟩ := hY3.y
        have ed4 := keepL (u := .lst (as.map V.ref ++ [.ref z])) hc ed3 (fun _ z => by cases z)
        refine ⟨_, rfl, d, _, dd, _, _, rfl, ed4, T.deskC.cl, T.de_yard, deF_yard _, y, _, dy, _, _, rfl, hy, T.yardC.cl, T.ya_crates, yaF_crates _ _ _, cl, _, rfl, .inl (sql upd_same), _, _, rfl, rfl, le_line (by show 1 ≤ 16777216; decide), fun r nr => ?_⟩
        have er : ((((as.map V.ref ++ [V.ref z]).length : Nat) : Int) - 1) = (S.crates.length : Int) := by
          rw [List.length_append, List.length_map, hlen]
          show ((S.crates.length + 1 : Nat) : Int) - 1 = _
          omega
        have s0 : Same H0 _ := same_but (o := .lst (as.map V.ref ++ [.ref z])) hD3.same n1
        have nr' := nr
        refine q.1 _ _ rfl _ r ⟨s0.trans (same_upd nr), hD.nd, dd, y, cl, wl, n1, n2, n3, same_upd nr _ _ ed4, hY3.same (same_upd nr)⟩ (s0.free nr) ?_
        rw [upd_same]
        show some (HO.lst [V.int ((((as.map V.ref ++ [V.ref z]).length : Nat) : Int) - 1)]) = _
        rw [er]
        rfl
      · have c6 : ¬ S.crates.length < 7 := of_decide_eq_false (ec.symm.trans c5)
        rw [if_pos c6] at q
        exact q.refuse hD2 (hD1.same.free na2) upd_same
    · rw [if_pos c] at q
      exact q.refuse hD1 (hD.same.free na) upd_same

/-! ### check -/
def spCheck (K : PySem.W.Frag) (A : Adr) : Sp := fun vs H Q E => ∃ (H0 : Hp) (d sl : Addr) (s : Sj16.Shop) (k : Nat) (l : List Nat), vs = [.ref d, vn k, .ref sl] ∧ DeAt A H0 H d s ∧ Valid s ∧ SqL K H0 sl (l.map vn) ∧ OutOk A H0 d s (mCheck s k l) Q E
theorem scCheck : FnScope ["self", "first", "share", "wrong", "heap", "mark"] ["self", "first", "share"] (defScope sCheck) := ⟨rfl, rfl, rfl, by decide +kernel, rfl, by decide +kernel, by decide +kernel⟩
theorem ok_check (T : Txt K mg A) : Ok P w K mg base (L2.CX P w) 6 A.check ["self", "first", "share"] (spCheck K A) := by
  obtain ⟨fd, F, b⟩ := T.checkM.d
  obtain ⟨f1, G1, b1⟩ := ok_must (P := P) (w := w) (base := base) T
  obtain ⟨f2, G2, b2⟩ := ok_wrongPlan (P := P) (w := w) (base := base) T
  obtain ⟨f3, G3, b3⟩ := ok_heapNot (P := P) (w := w) (base := base) T
  obtain ⟨t1, g1⟩ := T.c_MELTS
  obtain ⟨t2, g2⟩ := T.c_MARKS
  obtain ⟨t3, g3⟩ := T.c_FINE
  refine ⟨fd, F.okX scCheck (fun vs H Q E h => ?_) (fun cdv A' outer s H vs Q E hr h => ?_), b⟩
  · obtain ⟨H0, d, sl, S, k, l, rfl, _⟩ := h
    rfl
  · obtain ⟨H0, d, sl, S, k, l, rfl, hD, VA, hl, q⟩ := h
    have hr3 : Room 3 _ := hr.mono (by decide)
    refine ⟨_, pss_cons (ps_expr (pe_call G1 hr3 rfl T.must.g T.must.k b1 .nil (passes_call (takes_of (E := E) rfl rfl rfl rfl) fun _ _ _ _ h => h) (pa_cons (pe_and (pe_cmpR op_lt (pv 1) (pe_glob (v := .int 2) rfl g1 ⟨_, rfl⟩) (nomark _)) (pe_one (pe_cmpR op_eq (pe_callB call_len_seq (by rfl) T.len PySem.boot_len (pa_cons (pv 2) pa_nil)) (pe_callB call_len_seq (by rfl) T.len PySem.boot_len (pa_cons (pe_fld (pe_fld (pv 0) rfl) rfl) pa_nil)) (nomark _)))) (pa_cons (pe_lst (pa_cons (pe_un un_neg pe_int) pa_nil)) pa_nil))))
      (pss_cons (ps_expr (pe_call G1 hr3 rfl T.must.g T.must.k b1 .nil (passes_call (takes_of (E := E) rfl rfl rfl rfl) fun _ _ _ _ h => h) (pa_cons (pe_callB (cr_all rfl) (by rfl) T.all (by decide +kernel) (pa_cons (pe_lc (own := [("mark", 5)]) (g := gName 5) (tt := tYes) (te := tOp (rI0 fun i j => .bl (decide (i < j))) (tVar 5) (tC (.int 3))) rfl scCheck.nd (pi_list (pv 2)) (blkOk_by (N := ["self", "first", "share", "wrong", "heap", "mark"]) (sc := defScope sCheck) (by decide +kernel)) (fun _ _ _ _ _ => pg_name (i := 5) scCheck.nd rfl (Or.inl rfl)) (fun _ _ _ _ _ => pts_nil) (fun _ _ _ _ _ => pe_cmpR op_lt (pv 5) (pe_glob (v := .int 3) rfl g2 ⟨_, rfl⟩) (nomark _))) pa_nil)) (pa_cons (pe_lst (pa_cons (pe_un un_neg pe_int) pa_nil)) pa_nil))))
      (pss_cons (ps_set (i := 3) scCheck.nd rfl (Or.inl rfl) (pe_call G2 hr rfl T.wrongPlan.g T.wrongPlan.k b2 .nil pass0 (pa_cons (pe_fld (pv 0) rfl) (pa_cons (pv 1) (pa_cons (pv 2) pa_nil)))))
      (pss_cons (ps_expr (pe_call G1 hr3 rfl T.must.g T.must.k b1 .nil (passes_call (takes_of (E := E) rfl rfl rfl rfl) fun _ _ _ _ h => h) (pa_cons (pe_cmpR op_eq (pv 3) (pe_glob (v := .int 0) rfl g3 ⟨_, rfl⟩) (nomark _)) (pa_cons (pe_lst (pa_cons (pe_un un_neg pe_int) (pa_cons (pv 3) pa_nil))) pa_nil))))
      (pss_cons (ps_set (i := 4) scCheck.nd rfl (Or.inl rfl) (pe_call G3 hr3 rfl T.heapNot.g T.heapNot.k b3 .nil pass0 (pa_cons (pe_fld (pe_fld (pv 0) rfl) rfl) (pa_cons (pv 2) pa_nil))))
      (pss_one (ps_ret (pe_lst (pa_cons (pe_fld (pv 4) rfl) (pa_cons (pe_fld (pv 4) rfl) pa_nil))))))))), ?_⟩
    unfold mCheck at q
    have ek : decide ((k : Int) < 2) = decide (k < 2) := dec_lt (a := k) (b := 2)
    -- the refusal of the first test
    have bad : ¬ (k < 2 ∧ l.length = S.crates.length) → ∀ a, H a = none → ∀ x, (upd H a (.lst [.int (-1)])) x = none → E (.ref A.cRef) (some x) (upd (upd H a (.lst [.int (-1)])) x (.xd [(("numbers" : Str), .ref a)])) := fun c a na => by
      rw [if_pos c] at q
      exact q.refuse (hD.on (same_upd na)) (hD.same.free na) upd_same
    refine ⟨_, rfl, _, _, rfl, rfl, _, rfl, ite3 (fun c => ?_) (fun c => ?_)⟩
    · have c1 : k < 2 := of_decide_eq_true (ek.symm.trans c)
      obtain ⟨dd, y, cl, wl, n1, n2, n3, ed, hY⟩ := hD.ex
      obtain ⟨dy, hy⟩ := hY.y
      obtain ⟨as, hc, hcs⟩ := hY.cr
      have elen : (as.map V.ref).length = S.crates.length := by rw [List.length_map, paired_length hcs]
      refine ⟨_, rfl, sl, _, rfl, .inl (hD.same.seq hl), _, rfl, d, _, dd, _, _, rfl, ed, T.deskC.cl, T.de_yard, deF_yard _, y, _, dy, _, _, rfl, hy, T.yardC.cl, T.ya_crates, yaF_crates _ _ _, cl, _, rfl, .inl (sql hc), rfl, _, rfl, le_line (by show 1 ≤ 16777216; decide), fun a na => ?_⟩
      have sa := same_upd (o := .lst [.int (-1)]) na
      have ec : decide (vn (l.map vn).length = vn (as.map V.ref).length) = decide (l.length = S.crates.length) := by rw [dec_vn, List.length_map, elen]
      refine ⟨_, a, rfl, fun c => ?_, fun c => ?_⟩
      · have c2 : l.length = S.crates.length := of_decide_eq_true (ec.symm.trans c)
        rw [if_neg (fun z => z ⟨c1, c2⟩)] at q
        have hD1 := hD.on sa
        have few := VA.few
        -- all([mark < MARKS for mark in share])
        refine ⟨_, rfl, sl, rfl, ⟨_, hD1.same.seq hl⟩, fun D nD => lc_map (K := K) (te := tOp (rI0 fun i j => .bl (decide (i < j))) (tVar 5) (tC (.int 3))) (σ := [some (.ref d), some (vn k), some (.ref sl), none, none, none]) (i := 5) (a := sl) (xs := l.map vn) ((l.map fun x => decide (x < 3)).map V.bl) (by simp) (hD1.same.seq hl) nD (by rw [List.length_map, c2]; exact small_line (by omega)) (fun _ => rfl) (fun n x y' H2 R hx hy2 _ r => ?_) (fun H2 s2 e2 => ?_)⟩
        · rw [List.getElem?_map] at hx
          cases e : l[n]? with
          | none => rw [e] at hx; cases hx
          | some m =>
            rw [e] at hx
            obtain rfl := Option.some.inj hx
            rw [List.getElem?_map, List.getElem?_map, e] at hy2
            obtain rfl := Option.some.inj hy2
            refine ⟨_, rfl, _, _, rfl, rfl, ?_⟩
            have e3 : decide ((m : Int) < 3) = decide (m < 3) := dec_lt (a := m) (b := 3)
            show R (V.bl (decide ((m : Int) < 3))) H2
            rw [e3]
            exact r
        · have hD2 := hD1.on s2
          refine ⟨D, l.map fun x => decide (x < 3), rfl, sql e2, _, rfl, le_line (by show 1 ≤ 16777216; decide), fun a2 na2 => ?_⟩
          have sa2 := same_upd (o := .lst [.int (-1)]) na2
          have hD3 := hD2.on sa2
          have ea : (l.map fun x => decide (x < 3)).all id = l.all fun x => decide (x < 3) := by rw [List.all_map]; rfl
          refine ⟨_, a2, rfl, fun c => ?_, fun c => ?_⟩
          · rw [ea] at c
            rw [if_neg (by rw [c]; decide)] at q
            obtain ⟨dd, y, cl, wl, n1, n2, n3, ed, hY⟩ := hD3.ex
            refine ⟨_, rfl, d, _, dd, _, _, rfl, ed, T.deskC.cl, T.de_yard, deF_yard _, _, rfl, _, rfl, y, sl, k, S, l, rfl, ⟨cl, wl, hY⟩, VA, c1, hD3.same.seq hl, c2, fun H4 s4 => ?_⟩
            have hD4 := hD3.on s4
            refine ⟨_, rfl, rfl, _, rfl, _, rfl, le_line (by show 2 ≤ 16777216; decide), fun a3 na3 => ?_⟩
            have sa3 := same_upd (o := .lst [.int (-6), vn (Tm.wrongPlan S k l)]) na3
            have hD5 := hD4.on sa3
            have e0 : decide (vn (Tm.wrongPlan S k l) = V.int 0) = decide (Tm.wrongPlan S k l = 0) := dec_vn (a := Tm.wrongPlan S k l) (b := 0)
            refine ⟨_, a3, rfl, fun c => ?_, fun c => ?_⟩
            · have c3 : Tm.wrongPlan S k l = 0 := of_decide_eq_true (e0.symm.trans c)
              rw [if_neg (fun z => z c3)] at q
              obtain ⟨dd, y, cl, wl, n1, n2, n3, ed, hY⟩ := hD5.ex
              obtain ⟨dy, hy⟩ := hY.y
              obtain ⟨as, hc, hcs⟩ := hY.cr
              refine ⟨_, rfl, d, _, dd, _, _, rfl, ed, T.deskC.cl, T.de_yard, deF_yard _, y, _, dy, _, _, rfl, hy, T.yardC.cl, T.ya_crates, yaF_crates _ _ _, _, rfl, cl, sl, as, S.crates, l, rfl, hc, hD5.same.seq hl, hcs, VA.small, c2, fun x H6 nx s6 ⟨dx, hx⟩ => ?_⟩
              have hD6 := hD5.on s6
              refine ⟨_, rfl, x, _, dx, _, _, rfl, hx, T.heapC.cl, T.he_cost, heF_cost _, _, rfl, x, _, dx, _, _, rfl, hx, T.heapC.cl, T.he_weight, heF_weight _, le_line (by show 2 ≤ 16777216; decide), fun r nr => ?_⟩
              exact q.1 _ _ rfl _ r (hD6.on (same_upd nr)) (hD6.same.free nr) upd_same
            · have c3 : Tm.wrongPlan S k l ≠ 0 := of_decide_eq_false (e0.symm.trans c)
              rw [if_pos c3] at q
              exact q.refuse hD5 (hD4.same.free na3) upd_same
          · rw [ea] at c
            rw [if_pos c] at q
            exact q.refuse hD3 (hD2.same.free na2) upd_same
      · have c2 : ¬ l.length = S.crates.length := of_decide_eq_false (ec.symm.trans c)
        exact bad (fun z => c2 z.2) a na
    · have c1 : ¬ k < 2 := of_decide_eq_false (ek.symm.trans c)
      refine ⟨_, rfl, le_line (by show 1 ≤ 16777216; decide), fun a na => ⟨_, a, rfl, (fun c => by cases c), fun _ => bad (fun z => c1 z.1) a na⟩⟩

/-! ### cheap, alone -/
def spCheap (A : Adr) : Sp := fun vs H Q E => ∃ (H0 : Hp) (d : Addr) (s : Sj16.Shop), vs = [.ref d] ∧ DeAt A H0 H d s ∧ Valid s ∧ OutOk A H0 d s (mCheap s) Q E
theorem scCheap : FnScope ["self", "best"] ["self"] (defScope sCheap) := ⟨rfl, rfl, rfl, by decide +kernel, rfl, by decide +kernel, by decide +kernel⟩
theorem ok_cheap (T : Txt K mg A) : Ok P w K mg base (L2.CX P w) 7 A.cheap ["self"] (spCheap A) := by
  obtain ⟨fd, F, b⟩ := T.cheapM.d
  obtain ⟨f1, G1, b1⟩ := ok_must (P := P) (w := w) (base := base) T
  obtain ⟨f2, G2, b2⟩ := ok_cheapest (P := P) (w := w) (base := base) T
  obtain ⟨f3, G3, b3⟩ := ok_told (P := P) (w := w) (base := base) T
  refine ⟨fd, F.okX scCheap (fun vs H Q E h => ?_) (fun cdv A' outer s H vs Q E hr h => ?_), b⟩
  · obtain ⟨H0, d, S, rfl, _⟩ := h
    rfl
  · obtain ⟨H0, d, S, rfl, hD, VA, q⟩ := h
    have hr1 : Room 1 _ := hr.mono (by decide)
    have hr3 : Room 3 _ := hr.mono (by decide)
    refine ⟨_, pss_cons (ps_set (i := 1) scCheap.nd rfl (Or.inl rfl) (pe_call G2 hr rfl T.cheapest.g T.cheapest.k b2 .nil pass0 (pa_cons (pe_fld (pv 0) rfl) pa_nil)))
      (pss_cons (ps_expr (pe_call G1 hr3 rfl T.must.g T.must.k b1 .nil (passes_call (takes_of (E := E) rfl rfl rfl rfl) fun _ _ _ _ h => h) (pa_cons (pe_cmpR (op_neD hr.units) (pe_fld (pv 1) rfl) (pe_lst pa_nil) (nomark _)) (pa_cons (pe_lst (pa_cons (pe_un un_neg pe_int) pa_nil)) pa_nil))))
      (pss_one (ps_ret (pe_op op_cat (pe_meth0 (pv 1) T.bestC.cl T.toldM.m G3 hr1 b3 .nil pass0) (pe_ix ix_list (pe_fld (pv 1) rfl) pe_int (fun _ _ => rfl)))))), ?_⟩
    obtain ⟨dd, y, cl, wl, n1, n2, n3, ed, hY⟩ := hD.ex
    refine ⟨_, rfl, d, _, dd, _, _, rfl, ed, T.deskC.cl, T.de_yard, deF_yard _, y, S, rfl, ⟨cl, wl, hY⟩, VA, fun b H1 Hf B s1 hB rel => ?_⟩
    have hD1 := hD.on s1
    obtain ⟨db, lb, nlb, eb, elb⟩ := id hB.ex
    refine ⟨_, rfl, b, _, db, _, _, rfl, eb, T.bestC.cl, T.be_some, beF_some _ _ _, Nat.zero_le _, fun p np => ?_⟩
    have sp := same_upd (o := .lst []) np
    have hB2 := hB.on sp
    have things := row_things rel.some
    refine rd_full (sp _ _ elb) upd_same (fun v hv => (things v hv).same hB2.same) ⟨_, rfl, le_line (by show 1 ≤ 16777216; decide), fun a na => ?_⟩
    have sa := same_upd (o := .lst [.int (-6)]) na
    have hB3 := hB2.on sa
    have hD3 := (hD1.on sp).on sa
    unfold mCheap at q
    refine ⟨_, a, rfl, fun c => ?_, fun c => ?_⟩
    · obtain ⟨v, r, hv⟩ : ∃ v r, B.some = v :: r := by
        cases e : B.some with
        | nil => rw [e] at c; cases c
        | cons v r => exact ⟨v, r, rfl⟩
      obtain ⟨x, xr, hx, ⟨p0, rfl, ep0⟩, _⟩ : ∃ x xr, (Tm.cheapest S).some = x :: xr ∧ IsRow Hf v x ∧ Paired (IsRow Hf) r xr := by
        have h := rel.some
        rw [hv] at h
        cases h' : (Tm.cheapest S).some with
        | nil => rw [h'] at h; cases h
        | cons x xr => rw [h'] at h; cases h with | cons a b => exact ⟨x, xr, rfl, a, b⟩
      rw [hx] at q
      obtain ⟨db, lb, nlb, eb, elb⟩ := id hB3.ex
      refine ⟨_, rfl, b, db, _, rfl, eb, beF_told _ _ _, Hf, b, B, rfl, hB3, fun t nt => ?_⟩
      have st := same_upd (o := .lst [vn B.cost, vn B.weight, vn B.some.length]) nt
      have hB4 := hB3.on st
      have hD4 := hD3.on st
      refine ⟨_, rfl, b, _, db, _, _, rfl, st _ _ eb, T.bestC.cl, T.be_some, beF_some _ _ _, lb, _, _, _, rfl, rfl, sql (st _ _ elb), atI_nat (j := 0) (by rw [hv]; rfl), ?_⟩
      have ep4 := hB4.same _ _ ep0
      have blen : x.length ≤ 8 := by
        have hm : x ∈ (Tm.cheapest S).some := by rw [hx]; exact List.mem_cons_self
        have key : ∀ z ∈ (Tm.cheapest S).some, z.length ≤ 8 := by
          have step : ∀ (k : Nat) (L : List (List Nat)) (b0 : Bst (List Nat)), (∀ z ∈ b0.some, z.length ≤ 8) → (∀ l ∈ L, l.length ≤ 7) → ∀ z ∈ (L.foldl (look S k) b0).some, z.length ≤ 8 := by
            intro k L
            induction L with
            | nil => intro b0 h _; exact h
            | cons l r ih =>
              intro b0 h hL
              refine ih _ (fun z hz => ?_) fun l hl => hL l (List.mem_cons_of_mem _ hl)
              unfold look at hz
              split at hz
              · unfold Bst.take at hz
                split at hz
                · rw [List.mem_singleton] at hz
                  subst hz
                  have := hL l List.mem_cons_self
                  show l.length + 1 ≤ 8
                  omega
                · split at hz
                  · rcases List.mem_append.mp hz with e | e
                    · exact h z e
                    · rw [List.mem_singleton] at e
                      subst e
                      have := hL l List.mem_cons_self
                      show l.length + 1 ≤ 8
                      omega
                  · exact h z hz
              · exact h z hz
          have all7 : ∀ l ∈ Tm.shares S.crates.length, l.length ≤ 7 := fun l hl => by
            rw [(shares_item hl).1]; exact VA.few
          exact step 1 _ _ (step 0 _ _ (fun z hz => by cases hz) all7) all7
        exact key x hm
      refine ⟨t, p0, _, _, rfl, rfl, upd_same, ep4, ?_, fun r nr => ?_⟩
      · rw [List.length_map]
        exact le_line (by show 3 + x.length ≤ 16777216; omega)
      · refine q.1 _ _ rfl _ r (hD4.on (same_upd nr)) (hD4.same.free nr) ?_
        rw [upd_same]
        have hlen : B.some.length = (Tm.cheapest S).some.length := paired_length rel.some
        rw [rel.cost, rel.weight, hlen, List.map_append, List.map_map]
        rfl
    · have hv : B.some = [] := by
        cases e : B.some with
        | nil => rfl
        | cons v r => rw [e] at c; cases c
      have hx : (Tm.cheapest S).some = [] := by
        have h := paired_length rel.some
        rw [hv] at h
        exact List.length_eq_zero_iff.mp h.symm
      rw [hx] at q
      exact q.refuse hD3 ((hD1.on sp).same.free na) upd_same
def spAlone (A : Adr) : Sp := fun vs H Q E => ∃ (H0 : Hp) (d : Addr) (s : Sj16.Shop) (k : Nat), vs = [.ref d, vn k] ∧ DeAt A H0 H d s ∧ Valid s ∧ OutOk A H0 d s (mAlone s k) Q E
theorem scAlone : FnScope ["self", "melt", "best"] ["self", "melt"] (defScope sAlone) := ⟨rfl, rfl, rfl, by decide +kernel, rfl, by decide +kernel, by decide +kernel⟩
theorem ok_alone (T : Txt K mg A) : Ok P w K mg base (L2.CX P w) 5 A.alone ["self", "melt"] (spAlone A) := by
  obtain ⟨fd, F, b⟩ := T.aloneM.d
  obtain ⟨f1, G1, b1⟩ := ok_must (P := P) (w := w) (base := base) T
  obtain ⟨f2, G2, b2⟩ := ok_cheapestSet (P := P) (w := w) (base := base) T
  obtain ⟨f3, G3, b3⟩ := ok_told (P := P) (w := w) (base := base) T
  obtain ⟨t1, g1⟩ := T.c_MELTS
  refine ⟨fd, F.okX scAlone (fun vs H Q E h => ?_) (fun cdv A' outer s H vs Q E hr h => ?_), b⟩
  · obtain ⟨H0, d, S, k, rfl, _⟩ := h
    rfl
  · obtain ⟨H0, d, S, k, rfl, hD, VA, q⟩ := h
    have hr1 : Room 1 _ := hr.mono (by decide)
    have hr3 : Room 3 _ := hr.mono (by decide)
    refine ⟨_, pss_cons (ps_expr (pe_call G1 hr3 rfl T.must.g T.must.k b1 .nil (passes_call (takes_of (E := E) rfl rfl rfl rfl) fun _ _ _ _ h => h) (pa_cons (pe_cmpR op_lt (pv 1) (pe_glob (v := .int 2) rfl g1 ⟨_, rfl⟩) (nomark _)) (pa_cons (pe_lst (pa_cons (pe_un un_neg pe_int) pa_nil)) pa_nil))))
      (pss_cons (ps_set (i := 2) scAlone.nd rfl (Or.inl rfl) (pe_call G2 hr rfl T.cheapestSet.g T.cheapestSet.k b2 .nil pass0 (pa_cons (pe_fld (pv 0) rfl) (pa_cons (pv 1) pa_nil))))
      (pss_cons (ps_expr (pe_call G1 hr3 rfl T.must.g T.must.k b1 .nil (passes_call (takes_of (E := E) rfl rfl rfl rfl) fun _ _ _ _ h => h) (pa_cons (pe_cmpR (op_neD hr.units) (pe_fld (pv 2) rfl) (pe_lst pa_nil) (nomark _)) (pa_cons (pe_lst (pa_cons (pe_un un_neg pe_int) pa_nil)) pa_nil))))
      (pss_one (ps_ret (pe_op op_cat (pe_meth0 (pv 2) T.bestC.cl T.toldM.m G3 hr1 b3 .nil pass0) (pe_lst (pa_cons (pe_ix ix_list (pe_fld (pv 2) rfl) pe_int (fun _ _ => rfl)) pa_nil))))))), ?_⟩
    unfold mAlone at q
    refine ⟨_, rfl, _, _, rfl, rfl, _, rfl, le_line (by show 1 ≤ 16777216; decide), fun a0 na0 => ?_⟩
    have sa0 := same_upd (o := .lst [.int (-2)]) na0
    have hD0 := hD.on sa0
    have ec : decide ((k : Int) < 2) = decide (k < 2) := dec_lt (a := k) (b := 2)
    refine ⟨_, a0, rfl, fun c => ?_, fun c => ?_⟩
    · have c1 : k < 2 := of_decide_eq_true (ec.symm.trans c)
      rw [if_neg (fun z => z c1)] at q
      obtain ⟨dd, y, cl, wl, n1, n2, n3, ed, hY⟩ := hD0.ex
      refine ⟨_, rfl, d, _, dd, _, _, rfl, ed, T.deskC.cl, T.de_yard, deF_yard _, _, rfl, y, k, S, rfl, ⟨cl, wl, hY⟩, VA, c1, fun b H1 Hf B s1 hB rel => ?_⟩
      have hD1 := hD0.on s1
      obtain ⟨db, lb, nlb, eb, elb⟩ := id hB.ex
      refine ⟨_, rfl, b, _, db, _, _, rfl, eb, T.bestC.cl, T.be_some, beF_some _ _ _, Nat.zero_le _, fun p np => ?_⟩
      have sp := same_upd (o := .lst []) np
      have hB2 := hB.on sp
      have things := num_things (H := Hf) rel.some
      refine rd_full (sp _ _ elb) upd_same (fun v hv => (things v hv).same hB2.same) ⟨_, rfl, le_line (by show 1 ≤ 16777216; decide), fun a na => ?_⟩
      have sa := same_upd (o := .lst [.int (-6)]) na
      have hB3 := hB2.on sa
      have hD3 := (hD1.on sp).on sa
      refine ⟨_, a, rfl, fun c => ?_, fun c => ?_⟩
      · obtain ⟨v, r, hv⟩ : ∃ v r, B.some = v :: r := by
          cases e : B.some with
          | nil => rw [e] at c; cases c
          | cons v r => exact ⟨v, r, rfl⟩
        obtain ⟨x, xr, hx, rfl, _⟩ : ∃ x xr, (Tm.cheapestSet S k).some = x :: xr ∧ IsNum v x ∧ Paired IsNum r xr := by
          have h := rel.some
          rw [hv] at h
          cases h' : (Tm.cheapestSet S k).some with
          | nil => rw [h'] at h; cases h
          | cons x xr => rw [h'] at h; cases h with | cons a b => exact ⟨x, xr, rfl, a, b⟩
        rw [hx] at q
        obtain ⟨db, lb, nlb, eb, elb⟩ := id hB3.ex
        refine ⟨_, rfl, b, db, _, rfl, eb, beF_told _ _ _, Hf, b, B, rfl, hB3, fun t nt => ?_⟩
        have st := same_upd (o := .lst [vn B.cost, vn B.weight, vn B.some.length]) nt
        have hB4 := hB3.on st
        have hD4 := hD3.on st
        refine ⟨_, rfl, b, _, db, _, _, rfl, st _ _ eb, T.bestC.cl, T.be_some, beF_some _ _ _, lb, _, _, _, rfl, rfl, sql (st _ _ elb), atI_nat (j := 0) (by rw [hv]; rfl), le_line (by show 1 ≤ 16777216; decide), fun u nu => ?_⟩
        have su := same_upd (o := .lst [vn x]) nu
        have hD5 := hD4.on su
        refine ⟨t, u, _, _, rfl, rfl, su _ _ upd_same, upd_same, le_line (by show 4 ≤ 16777216; decide), fun r nr => ?_⟩
        refine q.1 _ _ rfl _ r (hD5.on (same_upd nr)) (hD5.same.free nr) ?_
        rw [upd_same]
        have hlen : B.some.length = (Tm.cheapestSet S k).some.length := paired_length rel.some
        rw [rel.cost, rel.weight, hlen]
        rfl
      · have hv : B.some = [] := by
          cases e : B.some with
          | nil => rfl
          | cons v r => rw [e] at c; cases c
        have hx : (Tm.cheapestSet S k).some = [] := by
          have h := paired_length rel.some
          rw [hv] at h
          exact List.length_eq_zero_iff.mp h.symm
        rw [hx] at q
        exact q.refuse hD3 ((hD1.on sp).same.free na) upd_same
    · have c1 : ¬ k < 2 := of_decide_eq_false (ec.symm.trans c)
      rw [if_pos c1] at q
      exact q.refuse hD0 (hD.same.free na0) upd_same
end
end Tm
/-! TmH: a call's answer, all answers. -/
namespace Tm
open PySem PySem.Spec PyProof.Rows L2
open Sj14 (Crate Wanted)
section
variable {P : Program} {w : World} {K : PySem.W.Frag} {mg : Str → Option Value} {base : Heap} {A : Adr}

/-! ### Slices -/
theorem cut_nat (xs : List V) {a b : Nat} (hab : a ≤ b) (hb : b ≤ xs.length) : cutV xs (some (a : Int)) (some (b : Int)) = (xs.drop a).take (b - a) := by
  unfold cutV
  rw [HT.sIx_nat, HT.sIx_nat, Nat.min_eq_left (Nat.le_trans hab hb), Nat.min_eq_left hb]
theorem cut_one (x : V) (xs : List V) : cutV (x :: xs) (some 1) none = xs := by
  unfold cutV
  rw [show HT.sIx (x :: xs).length 0 (some 1) = min 1 (x :: xs).length from HT.sIx_nat _ 0 1, HT.sIx_none]
  rw [show min 1 (x :: xs).length = 1 by rw [List.length_cons]; omega]
  show List.take ((x :: xs).length - 1) xs = xs
  rw [List.length_cons, Nat.add_sub_cancel]
  exact List.take_length
theorem OutOk.at {H0 H1 : Hp} {d : Addr} {s : Sj16.Shop} {o : Out} {Q : VK} {E : XK} (h : OutOk A H0 d s o Q E) (n : H0 = H1) : OutOk A H1 d s o Q E := n ▸ h

/-! ### answered -/
def spAnswered (K : PySem.W.Frag) (A : Adr) : Sp := fun vs H Q E => ∃ (H0 : Hp) (d l : Addr) (s : Sj16.Shop) (p : Nat) (args : List Nat), vs = [.ref d, vn p, .ref l] ∧ DeAt A H0 H d s ∧ Valid s ∧ SqL K H0 l (args.map vn) ∧ okQ (p, args) ∧ OutOk A H0 d s (mCall s (p, args)) Q E
theorem scAnswered : FnScope ["self", "place", "numbers"] ["self", "place", "numbers"] (defScope sAnswered) := ⟨rfl, rfl, rfl, by decide +kernel, rfl, by decide +kernel, by decide +kernel⟩
theorem ok_answered (T : Txt K mg A) : Ok P w K mg base (L2.CX P w) 8 A.answered ["self", "place", "numbers"] (spAnswered K A) := by
  obtain ⟨fd, F, b⟩ := T.answeredM.d
  obtain ⟨f0, G0, b0⟩ := ok_begins (P := P) (w := w) (base := base) T
  obtain ⟨f1, G1, b1⟩ := ok_want (P := P) (w := w) (base := base) T
  obtain ⟨f2, G2, b2⟩ := ok_crateM (P := P) (w := w) (base := base) T
  obtain ⟨f3, G3, b3⟩ := ok_check (P := P) (w := w) (base := base) T
  obtain ⟨f4, G4, b4⟩ := ok_cheap (P := P) (w := w) (base := base) T
  obtain ⟨f5, G5, b5⟩ := ok_alone (P := P) (w := w) (base := base) T
  refine ⟨fd, F.okX scAnswered (fun vs H Q E h => ?_) (fun cdv A' outer s H vs Q E hr h => ?_), b⟩
  · obtain ⟨H0, d, l, S, p, args, rfl, _⟩ := h
    rfl
  · obtain ⟨H0, d, l, S, p, args, rfl, hD, VA, hl, ok, q⟩ := h
    have hr4 : Room 4 _ := hr.mono (by decide)
    have hr5 : Room 5 _ := hr.mono (by decide)
    have hr6 : Room 6 _ := hr.mono (by decide)
    refine ⟨_, pss_cons (ps_if (pt_cmpR op_eq (pv 1) pe_int (nomark _)) (pss_one (ps_ret (pe_meth (pv 0) T.deskC.cl T.beginsM.m G0 hr4 b0 .nil (passes_call (takes_of (E := E) rfl rfl rfl rfl) fun _ _ _ _ h => h) (pa_cons (pe_ix ix_list (pv 2) pe_int (fun _ _ => rfl)) pa_nil)))) pss_nil)
      (pss_cons (ps_if (pt_cmpR op_eq (pv 1) pe_int (nomark _)) (pss_one (ps_ret (pe_meth (pv 0) T.deskC.cl T.wantM.m G1 hr4 b1 .nil (passes_call (takes_of (E := E) rfl rfl rfl rfl) fun _ _ _ _ h => h) (pa_cons (pe_ix ix_list (pv 2) pe_int (fun _ _ => rfl)) (pa_cons (pe_slice sl_list (pv 2) (po_some pe_int) po_none) pa_nil))))) pss_nil)
      (pss_cons (ps_if (pt_cmpR op_eq (pv 1) pe_int (nomark _)) (pss_one (ps_ret (pe_meth (pv 0) T.deskC.cl T.crateM.m G2 hr4 b2 .nil (passes_call (takes_of (E := E) rfl rfl rfl rfl) fun _ _ _ _ h => h) (pa_cons (pv 2) pa_nil)))) pss_nil)
      (pss_cons (ps_if (pt_cmpR op_eq (pv 1) pe_int (nomark _)) (pss_one (ps_ret (pe_meth (pv 0) T.deskC.cl T.checkM.m G3 hr6 b3 .nil (passes_call (takes_of (E := E) rfl rfl rfl rfl) fun _ _ _ _ h => h) (pa_cons (pe_ix ix_list (pv 2) pe_int (fun _ _ => rfl)) (pa_cons (pe_slice sl_list (pv 2) (po_some pe_int) po_none) pa_nil))))) pss_nil)
      (pss_cons (ps_if (pt_cmpR op_eq (pv 1) pe_int (nomark _)) (pss_one (ps_ret (pe_meth0 (pv 0) T.deskC.cl T.cheapM.m G4 hr b4 .nil (passes_call (takes_of (E := E) rfl rfl rfl rfl) fun _ _ _ _ h => h)))) pss_nil)
      (pss_one (ps_ret (pe_meth (pv 0) T.deskC.cl T.aloneM.m G5 hr5 b5 .nil (passes_call (takes_of (E := E) rfl rfl rfl rfl) fun _ _ _ _ h => h) (pa_cons (pe_ix ix_list (pv 2) pe_int (fun _ _ => rfl)) pa_nil)))))))), ?_⟩
    obtain ⟨dd, y, cl, wl, n1, n2, n3, ed, hY⟩ := hD.ex
    have hl' := hD.same.seq hl
    rcases ok with ⟨h, e⟩ | ⟨k, a, b, c, d', e', f, e⟩ | ⟨h, c, z, pr, e⟩ | ⟨k, r, e, hr10⟩ | e | ⟨k, e⟩
    · cases e
      refine ⟨_, rfl, rfl, _, rfl, if_true_of (by decide) ?_⟩
      exact ⟨_, rfl, d, dd, _, rfl, ed, deF_begins _, _, rfl, l, _, _, _, rfl, rfl, hl', rfl, H0, d, S, h, rfl, hD, q⟩
    · cases e
      refine ⟨_, rfl, rfl, _, rfl, if_false_of (by decide) ⟨_, rfl, rfl, _, rfl, if_true_of (by decide) ?_⟩⟩
      refine ⟨_, rfl, d, dd, _, rfl, ed, deF_want _, _, rfl, l, _, _, _, rfl, rfl, hl', rfl, _, rfl, _, rfl, l, _, rfl, hl', fun x nx => ?_⟩
      refine ⟨_, d, x, S, k, ⟨a, b, c, d', e', f⟩, rfl, hD.add nx, sql ?_, q.more (same_upd (hD.same.free nx))⟩
      rw [upd_same]
      exact congrArg (fun z => some (HO.lst z)) (cut_one _ _)
    · cases e
      refine ⟨_, rfl, rfl, _, rfl, if_false_of (by decide) ⟨_, rfl, rfl, _, rfl, if_false_of (by decide) ⟨_, rfl, rfl, _, rfl, if_true_of (by decide) ?_⟩⟩⟩
      exact ⟨_, rfl, d, dd, _, rfl, ed, deF_crate _, _, rfl, H0, d, l, S, ⟨h, c, z, pr⟩, rfl, hD, hl, q⟩
    · cases e
      refine ⟨_, rfl, rfl, _, rfl, if_false_of (by decide) ⟨_, rfl, rfl, _, rfl, if_false_of (by decide) ⟨_, rfl, rfl, _, rfl, if_false_of (by decide) ⟨_, rfl, rfl, _, rfl, if_true_of (by decide) ?_⟩⟩⟩⟩
      refine ⟨_, rfl, d, dd, _, rfl, ed, deF_check _, _, rfl, l, _, _, _, rfl, rfl, hl', atI_nat (j := 0) rfl, _, rfl, _, rfl, l, _, rfl, hl', fun x nx => ?_⟩
      refine ⟨_, d, x, S, k, r, rfl, hD.add nx, VA, sql ?_, q.more (same_upd (hD.same.free nx))⟩
      rw [upd_same]
      exact congrArg (fun z => some (HO.lst z)) (cut_one _ _)
    · cases e
      refine ⟨_, rfl, rfl, _, rfl, if_false_of (by decide) ⟨_, rfl, rfl, _, rfl, if_false_of (by decide) ⟨_, rfl, rfl, _, rfl, if_false_of (by decide) ⟨_, rfl, rfl, _, rfl, if_false_of (by decide) ⟨_, rfl, rfl, _, rfl, if_true_of (by decide) ?_⟩⟩⟩⟩⟩
      exact ⟨_, rfl, d, dd, _, rfl, ed, deF_cheap _, H0, d, S, rfl, hD, VA, q⟩
    · cases e
      refine ⟨_, rfl, rfl, _, rfl, if_false_of (by decide) ⟨_, rfl, rfl, _, rfl, if_false_of (by decide) ⟨_, rfl, rfl, _, rfl, if_false_of (by decide) ⟨_, rfl, rfl, _, rfl, if_false_of (by decide) ⟨_, rfl, rfl, _, rfl, if_false_of (by decide) ?_⟩⟩⟩⟩⟩
      exact ⟨_, rfl, d, dd, _, rfl, ed, deF_alone _, _, rfl, l, _, _, _, rfl, rfl, hl', rfl, H0, d, S, k, rfl, hD, VA, q⟩

/-! ### called -/
def spCalled (K : PySem.W.Frag) (A : Adr) : Sp := fun vs H Q _ => ∃ (H0 : Hp) (d l : Addr) (s : Sj16.Shop) (p : Nat) (args : List Nat), vs = [.ref d, vn p, .ref l] ∧ DeAt A H0 H d s ∧ Valid s ∧ SqL K H0 l (args.map vn) ∧ okQ (p, args) ∧
  ∀ H' a, DeAt A H0 H' d (fin s (mCall s (p, args))).1 → H0 a = none → H' a = some (.lst ((fin s (mCall s (p, args))).2.map V.int)) → Q (.ref a) H'
theorem scCalled : FnScope ["self", "place", "numbers", "answer", "refused"] ["self", "place", "numbers"] (defScope sCalled) := ⟨rfl, rfl, rfl, by decide +kernel, rfl, by decide +kernel, by decide +kernel⟩
theorem ok_called (T : Txt K mg A) : Ok P w K mg base CX0 9 A.called ["self", "place", "numbers"] (spCalled K A) := by
  obtain ⟨fd, F, b⟩ := T.calledM.d
  obtain ⟨f1, G1, b1⟩ := ok_answered (P := P) (w := w) (base := base) T
  refine ⟨fd, F.ok scCalled (fun vs H Q E h => ?_) (fun cdv A' outer s H vs Q E hr h => ?_), b⟩
  · obtain ⟨H0, d, l, S, p, args, rfl, _⟩ := h
    rfl
  · obtain ⟨H0, d, l, S, p, args, rfl, hD, VA, hl, ok, q⟩ := h
    refine ⟨_, pss_cons (ps_try_as (i := 4) (tb := fun W => tAsg (tMethS A.cDesk "answered" (spAnswered K A) (WE W) (tVar 0) (tCons (tVar 1) (tCons (tVar 2) tNil))) (gName 3)) (ts := fun a cls d => tRet (tNumbers A.cRef a cls d (tVar 4))) (Wout := fun _ _ _ _ => False) rfl rfl scCalled.nd rfl rfl ⟨rfl, by decide, Or.inl T.ref.gC⟩ takes0
        (fun W pn xe tk _ => pss_one (ps_set (i := 3) scCalled.nd rfl (Or.inl rfl) (by exact (pe_methE (pv 0) T.deskC.cl T.answeredM.m G1 hr b1 (fun σ => passAt tk σ) (by exact (pa_cons (pv 1) (pa_cons (pv 2) pa_nil)))))))
        (fun a oe cls d pn hz hf => pss_one (ps_ret (by exact (pe_numbers T.ref hz hf (pv 4))))))
      (pss_one (ps_ret (pv 3))), ?_⟩
    obtain ⟨dd, y, cl, wl, n1, n2, n3, ed, hY⟩ := hD.ex
    refine ⟨_, rfl, d, dd, _, rfl, ed, deF_answered _, _, rfl, _, rfl, H0, d, l, S, p, args, rfl, hD, VA, hl, ok, fun s' l' e H' a hD' na ha => ?_, fun l' e H' x a hD' na hx ha => ?_⟩
    · rw [e] at q
      exact ⟨_, rfl, q H' a hD' na ha⟩
    · rw [e] at q
      refine ⟨true, T.ref.te, fun _ a0 _ => ?_, fun z => Bool.noConfusion z⟩
      exact ⟨_, rfl, rfl, rfl, x, _, rfl, hx, q H' a hD' na ha⟩

/-! ### behind_lists -/
def spBehind (K : PySem.W.Frag) : Sp := fun vs H Q _ => ∃ (c : Addr) (ns : List Nat) (n : Nat), vs = [.ref c, vn n] ∧ SqL K H c (ns.map vn) ∧ ns[n]? = some 0 ∧ Q (vn (n + 1)) H
theorem scBehind : FnScope ["calls", "at", "end", "turn"] ["calls", "at"] (defScope sBehind) := ⟨rfl, rfl, rfl, by decide +kernel, rfl, by decide +kernel, by decide +kernel⟩
theorem ok_behind (T : Txt K mg A) : Ok P w K mg base CX0 1 A.behind ["calls", "at"] (spBehind K) := by
  obtain ⟨fd, F, b⟩ := T.behind.d
  refine ⟨fd, F.ok scBehind (fun vs H Q E h => ?_) (fun cdv A' outer s H vs Q E hr h => ?_), b⟩
  · obtain ⟨c, ns, n, rfl, _⟩ := h
    rfl
  · obtain ⟨c, ns, n, rfl, hc, h0, q⟩ := h
    refine ⟨_, pss_cons (ps_set (i := 2) scBehind.nd rfl (Or.inl rfl) (pe_op op_add (pv 1) pe_int))
      (pss_cons (ps_for PassesOwn.never rfl (pi_range1 rfl T.range (pa_cons (pe_ix ix_list (pv 0) (pv 1) (fun _ _ => rfl)) pa_nil)) (pg_name (i := 3) scBehind.nd rfl (Or.inl rfl)) pss_never)
      (pss_one (ps_ret (pv 2)))), ?_⟩
    have g0 : (ns.map vn)[n]? = some (vn 0) := by rw [List.getElem?_map, h0]; rfl
    refine ⟨_, rfl, _, _, rfl, rfl, _, rfl, _, rfl, c, _, _, _, rfl, rfl, hc, atI_nat g0, (0 : Int), rfl, by decide, by decide, for_range (lo := 0) (n := 0) (fun i σ H' => σ = [some (.ref c), some (vn n), some (vn (n + 1)), none] ∧ H' = H) ⟨rfl, rfl⟩ (fun i σ H' hi => absurd hi (Nat.not_lt_zero _)) ?_⟩
    rintro σ H' ⟨rfl, rfl⟩
    exact ⟨_, rfl, q⟩

/-! ### answers -/
/-- what the desk owns isn't p, of which H0 tells -/
theorem YaIs.updP {H : Hp} {p y cl wl : Addr} {s : Sj16.Shop} {xs : List V} {u : HO} (h : YaIs A H y cl wl s) (e : H p = some (.lst xs)) (n1 : cl ≠ p) (n2 : wl ≠ p) : YaIs A (upd H p u) y cl wl s := by
  obtain ⟨⟨dy, hy⟩, ⟨as, hc, hs⟩, ⟨w0, w1, hw, h0, h1⟩⟩ := h
  exact ⟨⟨dy, keepL e hy (fun _ z => by cases z)⟩, ⟨as, by rw [upd_ne n1]; exact hc, hs.updU e⟩, ⟨w0, w1, by rw [upd_ne n2]; exact hw, h0.updU e, h1.updU e⟩⟩
theorem DeAt.write {H0 H : Hp} {d p : Addr} {s : Sj16.Shop} {xs : List V} {u : HO} (h : DeAt A H0 H d s) (e : H0 p = some (.lst xs)) : DeAt A (upd H0 p u) (upd H p u) d s := by
  obtain ⟨s0, nd, dd, y, cl, wl, n1, n2, n3, e1, e2⟩ := h
  have e' := s0 _ _ e
  have a1 : cl ≠ p := fun z => by rw [z, e] at n1; cases n1
  have a2 : wl ≠ p := fun z => by rw [z, e] at n2; cases n2
  have a3 : d ≠ p := fun z => by rw [z, e] at nd; cases nd
  refine ⟨fun a o q => ?_, by rw [upd_ne a3]; exact nd, dd, y, cl, wl, by rw [upd_ne a1]; exact n1, by rw [upd_ne a2]; exact n2, n3, by rw [upd_ne a3]; exact e1, e2.updP e' a1 a2⟩
  by_cases h : a = p
  · subst h
    rw [upd_same] at q ⊢
    exact q
  · rw [upd_ne h] at q ⊢
    exact s0 _ _ q
def spAns (K : PySem.W.Frag) : Sp := fun vs H Q _ => ∃ (c : Addr) (qs : List (Nat × List Nat)), vs = [.ref c] ∧ SqL K H c ((flat qs).map vn) ∧ (∀ q ∈ qs, okQ q) ∧ (play (newShop 0) qs).length ≤ 10000000 ∧
  ∀ H' p, H' p = some (.lst ((play (newShop 0) qs).map V.int)) → Q (.ref p) H'
theorem scAnswers : FnScope ["calls", "desk", "told", "at", "end", "answer"] ["calls"] (defScope sAnswers) := ⟨rfl, rfl, rfl, by decide +kernel, rfl, by decide +kernel, by decide +kernel⟩
/-- where the loop stands -/
def atOf : L2.St → Nat
  | _ :: _ :: _ :: some (.int i) :: _ => i.toNat
  | _ => 0
theorem flat1_len (q : Nat × List Nat) : (flat1 q).length = q.2.length + 3 := by
  unfold flat1
  rw [List.length_cons, List.length_cons, List.length_append]
  rfl
/-- where a flat list's call lies -/
structure Lies (ns pre : List Nat) (p : Nat) (args : List Nat) (tl : List Nat) : Prop where
  place : ns[pre.length]? = some p
  many : ns[pre.length + 1]? = some args.length
  zero : ns[pre.length + 2 + args.length]? = some 0
  size : pre.length + 2 + args.length < ns.length
  cut : (ns.drop (pre.length + 2)).take args.length = args
theorem lies_of (pre : List Nat) (p : Nat) (args tl : List Nat) : Lies (pre ++ (flat1 (p, args) ++ tl)) pre p args tl := by
  have e : pre ++ (flat1 (p, args) ++ tl) = pre ++ ([p, args.length] ++ (args ++ (0 :: tl))) := by
    unfold flat1
    simp
  rw [e]
  have l2 : (pre ++ [p, args.length]).length = pre.length + 2 := by rw [List.length_append]; rfl
  have e2 : pre ++ ([p, args.length] ++ (args ++ (0 :: tl))) = (pre ++ [p, args.length]) ++ (args ++ (0 :: tl)) := (List.append_assoc _ _ _).symm
  refine ⟨?_, ?_, ?_, ?_, ?_⟩
  · rw [List.getElem?_append_right (Nat.le_refl _), Nat.sub_self]
    rfl
  · rw [List.getElem?_append_right (Nat.le_add_right _ 1), show pre.length + 1 - pre.length = 1 by omega]
    rfl
  · rw [e2, List.getElem?_append_right (by rw [l2]; omega), l2, show pre.length + 2 + args.length - (pre.length + 2) = args.length by omega, List.getElem?_append_right (Nat.le_refl _), Nat.sub_self]
    rfl
  · rw [e2, List.length_append, l2, List.length_append, List.length_cons]
    omega
  · rw [e2, show pre.length + 2 = (pre ++ [p, args.length]).length from l2.symm, List.drop_left, List.take_left]
theorem ok_answersF (T : Txt K mg A) {f : Addr} {fd : FuncData} (F : Fun K "answers" "answers" sAnswers f fd) : FnOk P w K mg base CX0 10 f fd ["calls"] (spAns K) := by
  obtain ⟨f1, G1, b1⟩ := ok_deskI (P := P) (w := w) (base := base) T
  obtain ⟨f2, G2, b2⟩ := ok_called (P := P) (w := w) (base := base) T
  obtain ⟨f3, G3, b3⟩ := ok_behind (P := P) (w := w) (base := base) T
  refine F.ok scAnswers (fun vs H Q E h => ?_) (fun cdv A' outer s H vs Q E hr h => ?_)
  · obtain ⟨c, qs, rfl, _⟩ := h
    rfl
  · obtain ⟨c, qs, rfl, hS, hok, hlen, q⟩ := h
    have hr1 : Room 1 _ := hr.mono (by decide)
    have hr5 : Room 5 _ := hr.mono (by decide)
    refine ⟨_, pss_cons (ps_set (i := 1) scAnswers.nd rfl (Or.inl rfl) (pe_make0 T.deskC.m G1 hr5 rfl T.deskC.g b1 .nil pass0))
      (pss_cons (ps_set (i := 2) scAnswers.nd rfl (Or.inl rfl) (pe_lst pa_nil))
      (pss_cons (ps_set (i := 3) scAnswers.nd rfl (Or.inl rfl) pe_int)
      (pss_cons (ps_while PassesOwn.never (pt_cmpR op_lt (pv 3) (pe_callB call_len_seq (by rfl) T.len PySem.boot_len (pa_cons (pv 0) pa_nil)) (nomark _))
        (pss_cons (ps_set (i := 4) scAnswers.nd rfl (Or.inl rfl) (pe_op op_add (pe_op op_add (pv 3) pe_int) (pe_ix ix_list (pv 0) (pe_op op_add (pv 3) pe_int) (fun _ _ => rfl))))
        (pss_cons (ps_set (i := 5) scAnswers.nd rfl (Or.inl rfl) (pe_meth (pv 1) T.deskC.cl T.calledM.m G2 hr b2 .nil pass0 (pa_cons (pe_ix ix_list (pv 0) (pv 3) (fun _ _ => rfl)) (pa_cons (pe_slice sl_list (pv 0) (po_some (pe_op op_add (pv 3) pe_int)) (po_some (pv 4))) pa_nil))))
        (pss_cons (ps_expr (pe_bm PySem.F.plainAttrs_list PySem.F.slot_list_append PySem.F.type_list_append mt_append (pv 2) (pa_cons (pe_callB call_len_seq (by rfl) T.len PySem.boot_len (pa_cons (pv 5) pa_nil)) pa_nil)))
        (pss_cons (ps_expr (pe_bm PySem.F.plainAttrs_list PySem.F.slot_list_extend PySem.F.type_list_extend mt_extend (pv 2) (pa_cons (pv 5) pa_nil)))
        (pss_one (ps_set (i := 3) scAnswers.nd rfl (Or.inl rfl) (pe_call G3 hr1 rfl T.behind.g T.behind.k b3 .nil pass0 (pa_cons (pv 0) (pa_cons (pv 4) pa_nil))))))))))
      (pss_one (ps_ret (pv 2)))))), ?_⟩
    intro d dx nd ndx ned
    refine ⟨d, dx, rfl, upd_same, fun H1 y cl wl b1 ncl nwl ncw ed hY => ⟨rfl, ?_⟩⟩
    have sm : Same H (upd (upd H dx (.own d)) d (.ins A.cDesk dx [])) := same_made nd ndx
    have hD : DeAt A H H1 d (newShop 0) := ⟨But.made nd ndx b1, nd, dx, y, cl, wl, sm.free ncl, sm.free nwl, ncw, ed, hY⟩
    refine ⟨Nat.zero_le _, fun t nt => ?_⟩
    have ht0 : H t = none := hD.same.free nt
    refine while_by (fun σ H' => ∃ (pre : List Nat) (rest : List (Nat × List Nat)) (st : Sj16.Shop) (H0 : Hp) (tl : List Int) (v4 v5 : Option V), σ = [some (.ref c), some (.ref d), some (.ref t), some (vn pre.length), v4, v5] ∧ flat qs = pre ++ flat rest ∧ (∀ q ∈ rest, okQ q) ∧
        DeAt A H0 H' d st ∧ Valid st ∧ Same H H0 ∧ H0 t = some (.lst (tl.map V.int)) ∧ tl ++ play st rest = play (newShop 0) qs) (fun σ _ => (flat qs).length - atOf σ)
      ⟨[], qs, newShop 0, upd H t (.lst []), [], none, none, rfl, rfl, hok, hD.add nt, valid_new (Nat.zero_le _), same_upd ht0, upd_same, rfl⟩ ?_ ?_
    · rintro σ H' ⟨pre, rest, st, H0, tl, v4, v5, rfl, en, hk, hD', VA, sH, et, ep⟩
      have hSc := (sH.trans hD'.same).seq hS
      refine ⟨_, rfl, _, rfl, c, _, rfl, .inl hSc, _, _, rfl, rfl, _, rfl, ite3 (fun cc => ?_) (fun cc => ?_)⟩
      · rw [dec_lt, List.length_map] at cc
        have clt := of_decide_eq_true cc
        cases rest with
        | nil =>
          rw [en] at clt
          simp [flat] at clt
        | cons pa r =>
          obtain ⟨p, args⟩ := pa
          have L : Lies (flat qs) pre p args (flat r) := by rw [en]; exact lies_of pre p args (flat r)
          have okp := hk (p, args) List.mem_cons_self
          have g : ∀ {i n : Nat}, (flat qs)[i]? = some n → ((flat qs).map vn)[i]? = some (vn n) := fun h => by rw [List.getElem?_map, h]; rfl
          have size2 := L.size
          -- end = at + 2 + calls[at + 1]
          refine ⟨_, rfl, _, _, rfl, rfl, _, rfl, _, rfl, _, _, rfl, rfl, c, _, _, _, rfl, rfl, hSc, at_of (j := pre.length + 1) rfl (g L.many), _, _, rfl, rfl, ?_⟩
          -- answer = desk.called(calls[at], calls[at + 2:end])
          obtain ⟨dd, y, cl, wl, n1, n2, n3, ed, hY⟩ := hD'.ex
          refine ⟨_, rfl, d, dd, _, rfl, ed, deF_called _, _, rfl, _, rfl, c, _, _, _, rfl, rfl, hSc, atI_nat (g L.place), _, rfl, _, rfl, _, _, rfl, rfl, _, rfl, _, rfl, _, rfl, c, _, rfl, hSc, fun na nna => ?_⟩
          have ecut : cutV ((flat qs).map vn) (some ((pre.length : Int) + 2)) (some ((pre.length : Int) + 2 + (args.length : Int))) = args.map vn := by
            have e := cut_nat ((flat qs).map vn) (a := pre.length + 2) (b := pre.length + 2 + args.length) (Nat.le_add_right _ _) (by rw [List.length_map]; omega)
            rw [Nat.add_sub_cancel_left, ← List.map_drop, ← List.map_take, L.cut] at e
            exact e
          have hDn := hD'.add (o := .lst (args.map vn)) nna
          have nat : t ≠ na := ne_of_none (hD'.same _ _ et) nna
          have et2 : (upd H0 na (.lst (args.map vn))) t = some (.lst (tl.map V.int)) := by rw [upd_ne nat]; exact et
          have nH : H na = none := sH.free (hD'.same.free nna)
          have sH2 : Same H (upd H0 na (.lst (args.map vn))) := same_but sH nH
          rw [ecut]
          refine ⟨_, d, na, st, p, args, rfl, hDn, VA, sql upd_same, okp, fun H2 a hD2 na2 ha => ?_⟩
          have VA2 : Valid (fin st (mCall st (p, args))).1 := valid_call VA (p, args)
          have eplay : play st ((p, args) :: r) = ((fin st (mCall st (p, args))).2.length : Int) :: ((fin st (mCall st (p, args))).2 ++ play (fin st (mCall st (p, args))).1 r) := rfl
          rw [eplay] at ep
          generalize (fin st (mCall st (p, args))).1 = st2 at hD2 VA2 ep
          generalize (fin st (mCall st (p, args))).2 = ans at ha ep
          have tlen : tl.length + 1 + ans.length ≤ 10000000 := by
            have e := congrArg List.length ep
            rw [List.length_append, List.length_cons, List.length_append] at e
            omega
          have ht2 := hD2.same _ _ et2
          have nat2 : a ≠ t := fun z => by rw [z, et2] at na2; cases na2
          -- told.append(len(answer))
          refine ⟨_, rfl, .inl ⟨rfl, _, sql ht2⟩, _, rfl, a, _, rfl, .inl (sql ha), t, _, _, rfl, rfl, ht2, ?_, ?_⟩
          · rw [List.length_map]
            exact small_line (by omega)
          -- told.extend(answer)
          have ha3 : (upd H2 t (.lst (tl.map V.int ++ [.int ((ans.map V.int).length : Nat)]))) a = some (.lst (ans.map V.int)) := by rw [upd_ne nat2]; exact ha
          refine ⟨_, rfl, .inl ⟨rfl, _, sql upd_same⟩, _, rfl, t, a, _, _, rfl, rfl, upd_same, ha3, ?_, ?_⟩
          · rw [List.length_append, List.length_map, List.length_map]
            exact le_line (by show tl.length + 1 + ans.length ≤ 16777216; omega)
          rw [upd_upd]
          have hD4 := hD2.write (u := .lst (tl.map V.int ++ [.int ((ans.map V.int).length : Nat)] ++ ans.map V.int)) et2
          have sH4 : Same H (upd (upd H0 na (.lst (args.map vn))) t (.lst (tl.map V.int ++ [.int ((ans.map V.int).length : Nat)] ++ ans.map V.int))) := same_but sH2 ht0
          have hSc4 := (sH4.trans hD4.same).seq hS
          -- at = behind_lists(calls, end)
          refine ⟨_, rfl, _, rfl, c, flat qs, pre.length + 2 + args.length, rfl, hSc4, L.zero, ?_⟩
          have plen : (pre ++ flat1 (p, args)).length = pre.length + 2 + args.length + 1 := by
            rw [List.length_append, flat1_len]
            show pre.length + (args.length + 3) = _
            omega
          refine ⟨⟨pre ++ flat1 (p, args), r, st2, _, tl ++ ((ans.length : Int) :: ans), some (.int ((pre.length : Int) + 2 + (args.length : Int))), some (.ref a), ?_, ?_, fun x hx => hk x (List.mem_cons_of_mem _ hx), hD4, VA2, sH4, ?_, ?_⟩, ?_⟩
          · rw [plen]
            rfl
          · rw [en, List.append_assoc]
            rfl
          · rw [upd_same, List.map_append, List.length_map, List.append_assoc]
            rfl
          · rw [List.append_assoc]
            exact ep
          · show (flat qs).length - (((pre.length + 2 + args.length + 1 : Nat) : Int)).toNat < (flat qs).length - ((pre.length : Int)).toNat
            rw [Int.toNat_natCast, Int.toNat_natCast]
            omega
      · rw [dec_lt, List.length_map] at cc
        have cge := of_decide_eq_false cc
        have er : rest = [] := by
          cases rest with
          | nil => rfl
          | cons pa r =>
            exfalso
            apply cge
            rw [en, List.length_append]
            show pre.length < pre.length + (flat1 pa ++ flat r).length
            rw [List.length_append, flat1_len]
            omega
        subst er
        have e2 : tl = play (newShop 0) qs := by
          rw [← ep]
          exact (List.append_nil tl).symm
        refine ⟨_, rfl, q H' t ?_⟩
        rw [← e2]
        exact hD'.same _ _ et
    · rintro σ H' Q1 Q2 hQ ⟨v, e, v2, e2, p, ys, e3, e4, i, j, e5, e6, k, e7, h⟩
      exact ⟨v, e, v2, e2, p, ys, e3, e4, i, j, e5, e6, k, e7, hQ _ _ h⟩
end
end Tm
/-! TmEnd: what the top has written, every address a letter (printed by gen_end.py). -/
namespace Tm
open PySem PySem.Spec PyProof.Rows L2
/-- a def's object as the top has left it -/
def GF (K : PySem.W.Frag) (x qual : Str) (st : Stmt) (f : Addr) : Prop := ∃ (oc : Value) (od : Option Addr) (kV dc pm : Value) (an : Option Addr) (cd ct : Value) (sl : Array (Option Value)),
  K.lookup f = some ⟨oc, od, .func (PySem.W.fnOf x qual (defArgs st) (defBody st) (defScope st) .none kV dc pm an cd ct), sl⟩ ∧ PySem.W.codeIn K cd qual = true ∧ PySem.W.keepIn K (.ref f) = true
theorem GF.mk {K : PySem.W.Frag} {x qual : Str} {st : Stmt} {f : Addr} {oc : Value} {od : Option Addr} {kV dc pm : Value} {an : Option Addr} {cd ct : Value} {sl : Array (Option Value)}
    (l : K.lookup f = some ⟨oc, od, .func (PySem.W.fnOf x qual (defArgs st) (defBody st) (defScope st) .none kV dc pm an cd ct), sl⟩) (c : PySem.W.codeIn K cd qual = true) (k : PySem.W.keepIn K (.ref f) = true) : GF K x qual st f :=
  ⟨oc, od, kV, dc, pm, an, cd, ct, sl, l, c, k⟩
section
variable {K : PySem.W.Frag} {h : Heap} {mg : Str → Option Value}
theorem def_mk {x qual : Str} {st : Stmt} {ps : List Str} {f : Addr}
    (b : ∀ (kV doc pm : Value) (an : Option Addr) (cdv ct : Value) (us : List Value), us.length = ps.length → bindArgs (PySem.W.fnOf x qual (defArgs st) (defBody st) (defScope st) .none kV doc pm an cdv ct) ⟨us, []⟩ = pure (ps.zip us))
    (g : GF K x qual st f) : DefT K x qual st ps f := by
  obtain ⟨oc, od, kV, dc, pm, an, cd, ct, sl, l, c, k⟩ := g
  exact ⟨_, fun_mk l c k, (fun_mk l c k).binds b⟩
theorem gdef_mk (X : K.In h) (G : h.Ns mainGlobals mg) {x : Str} {st : Stmt} {ps : List Str} {f : Addr}
    (b : ∀ (kV doc pm : Value) (an : Option Addr) (cdv ct : Value) (us : List Value), us.length = ps.length → bindArgs (PySem.W.fnOf x x (defArgs st) (defBody st) (defScope st) .none kV doc pm an cdv ct) ⟨us, []⟩ = pure (ps.zip us))
    (a : PySem.W.nsIn K mainGlobals x = some (some (.ref f))) (g : GF K x x st f) : GDef K mg x st ps f :=
  ⟨def_mk b g, PySem.W.mg_of X G a, let ⟨_, _, _, _, _, _, _, _, _, _, _, k⟩ := g; k⟩
theorem cls_mk (X : K.In h) (G : h.Ns mainGlobals mg) {x qual : Str} {st : Stmt} {ps : List Str} {C f : Addr}
    (b : ∀ (kV doc pm : Value) (an : Option Addr) (cdv ct : Value) (us : List Value), us.length = ps.length → bindArgs (PySem.W.fnOf "__init__" qual (defArgs st) (defBody st) (defScope st) .none kV doc pm an cdv ct) ⟨us, []⟩ = pure (ps.zip us))
    (c : Cls K C) (a : PySem.W.nsIn K mainGlobals x = some (some (.ref C))) (m : PySem.W.makesIn K C = true) (k : PySem.W.keepIn K (.ref C) = true) (i : PySem.W.findIn K (.ref C) "__init__" = some (some (.ref f))) (n : PySem.W.isFn K (.ref f) = true) (g : GF K "__init__" qual st f) :
    ClsT K mg x st ps C f qual := ⟨c, PySem.W.mg_of X G a, ⟨m, i, n, k⟩, def_mk b g⟩
theorem meth_mk {C : Addr} {x qual : Str} {st : Stmt} {ps : List Str} {f : Addr}
    (b : ∀ (kV doc pm : Value) (an : Option Addr) (cdv ct : Value) (us : List Value), us.length = ps.length → bindArgs (PySem.W.fnOf x qual (defArgs st) (defBody st) (defScope st) .none kV doc pm an cdv ct) ⟨us, []⟩ = pure (ps.zip us))
    (a : PySem.W.findIn K (.ref C) x = some (some (.ref f))) (n : PySem.W.isFn K (.ref f) = true) (g : GF K x qual st f) : MethT K C x qual st ps f :=
  ⟨⟨a, n, let ⟨_, _, _, _, _, _, _, _, _, _, _, k⟩ := g; k⟩, def_mk b g⟩
theorem first_mk (X : K.In h) (G : h.Ns mainGlobals mg) {aF : Addr} (a : PySem.W.nsIn K mainGlobals "AT_FIRST" = some (some (.ref aF)))
    (l : ∃ u1 u2 u3 u4 u5 u6 od n sl, K.lookup aF = some ⟨.type "tuple", od, .seq #[.int 1 u1, .int 200 u2, .int 0 u3, .int 1000 u4, .int 0 u5, .int 1000 u6] n, sl⟩) :
    ∃ a, mg "AT_FIRST" = some (.ref a) ∧ ∀ H, SqT K H a [.int 1, .int 200, .int 0, .int 1000, .int 0, .int 1000] := by
  obtain ⟨u1, u2, u3, u4, u5, u6, od, n, sl, e⟩ := l
  exact ⟨aF, PySem.W.mg_of X G a, fun H => .inr ⟨_, _, n, e, rfl, rfl, le_line (by show 6 ≤ 16777216; decide), .cons ⟨_, rfl⟩ (.cons ⟨_, rfl⟩ (.cons ⟨_, rfl⟩ (.cons ⟨_, rfl⟩ (.cons ⟨_, rfl⟩ (.cons ⟨_, rfl⟩ .nil)))))⟩⟩
/-- an error of the class at S is what «except S» names (the guide's skeleton 42) -/
theorem exm_self {S : Addr} (h1 : PySem.W.subIn K (.ref S) (.type "BaseException") = some true) (h2 : PySem.W.isClsIn K S = true) (h3 : PySem.W.typeIn K (.ref S) = some (.type "type")) (h4 : PySem.W.subIn K (.ref S) (.ref S) = some true) :
    PySem.W.exmOne K (.ref S) (.ref S) = some true := by
  have e1 : (PySem.W.subIn K (.ref S) (.type "BaseException") == some true) = true := by rw [h1] <;> rfl
  have e2 : ((PySem.W.clsIn K S).isSome && PySem.W.typeIn K (.ref S) == some (.type "type")) = true := by
    have h2' : (PySem.W.clsIn K S).isSome = true := h2
    rw [h2', h3] <;> rfl
  show (if (PySem.W.subIn K (.ref S) (.type "BaseException") == some true) = true then (if ((PySem.W.clsIn K S).isSome && PySem.W.typeIn K (.ref S) == some (.type "type")) = true then PySem.W.subIn K (.ref S) (.ref S) else none) else none) = some true
  rw [if_pos e1, if_pos e2]
  exact h4
end
theorem all_mk {P : Program} {w : World} {K : PySem.W.Frag} {h : Heap} {mg : Str → Option Value} {fa : Addr} (X : K.In h) (G : h.Ns mainGlobals mg) (hfa : mg "answers" = some (.ref fa))
    {f_heapOf f_heapNot f_lies f_isShare f_heavyRight f_wrongAlone f_mixed f_wrongBehind f_wrongBoth f_wrongPlan f_shares f_cheapest f_cratesOf f_cheapestSet f_must f_newYard f_bounds f_areWants f_isCrate f_behind f_answers c_Crate i_Crate c_Heap i_Heap c_Wanted i_Wanted c_Yard i_Yard c_Best i_Best m_take m_told c_Desk i_Desk m_begins m_want m_crate m_check m_cheap m_alone m_answered m_called aF : Addr}
    {cR iR : Addr} {nm q : Str} {N : Addr} {bs : List Value} {sn : List Str} {sub : List Value} {ab : Bool} {col : Option Bool} {dd : Option Addr} {m0 m1 m2 m3 m5 : Option Value} {od1 an1 : Option Addr} {sl1 : Array (Option Value)} {oc1 dc1 pm1 cd1 ct1 : Value}
    (a_heapOf : PySem.W.nsIn K mainGlobals "heap_of" = some (some (.ref f_heapOf)))
    (g_heapOf : GF K "heap_of" "heap_of" sHeapOf f_heapOf)
    (a_heapNot : PySem.W.nsIn K mainGlobals "heap_not_left" = some (some (.ref f_heapNot)))
    (g_heapNot : GF K "heap_not_left" "heap_not_left" sHeapNot f_heapNot)
    (a_lies : PySem.W.nsIn K mainGlobals "lies_between" = some (some (.ref f_lies)))
    (g_lies : GF K "lies_between" "lies_between" sLies f_lies)
    (a_isShare : PySem.W.nsIn K mainGlobals "is_share_between" = some (some (.ref f_isShare)))
    (g_isShare : GF K "is_share_between" "is_share_between" sIsShare f_isShare)
    (a_heavyRight : PySem.W.nsIn K mainGlobals "is_heavy_right" = some (some (.ref f_heavyRight)))
    (g_heavyRight : GF K "is_heavy_right" "is_heavy_right" sHeavyRight f_heavyRight)
    (a_wrongAlone : PySem.W.nsIn K mainGlobals "wrong_alone" = some (some (.ref f_wrongAlone)))
    (g_wrongAlone : GF K "wrong_alone" "wrong_alone" sWrongAlone f_wrongAlone)
    (a_mixed : PySem.W.nsIn K mainGlobals "mixed" = some (some (.ref f_mixed)))
    (g_mixed : GF K "mixed" "mixed" sMixed f_mixed)
    (a_wrongBehind : PySem.W.nsIn K mainGlobals "wrong_behind" = some (some (.ref f_wrongBehind)))
    (g_wrongBehind : GF K "wrong_behind" "wrong_behind" sWrongBehind f_wrongBehind)
    (a_wrongBoth : PySem.W.nsIn K mainGlobals "wrong_both" = some (some (.ref f_wrongBoth)))
    (g_wrongBoth : GF K "wrong_both" "wrong_both" sWrongBoth f_wrongBoth)
    (a_wrongPlan : PySem.W.nsIn K mainGlobals "wrong_plan" = some (some (.ref f_wrongPlan)))
    (g_wrongPlan : GF K "wrong_plan" "wrong_plan" sWrongPlan f_wrongPlan)
    (a_shares : PySem.W.nsIn K mainGlobals "shares" = some (some (.ref f_shares)))
    (g_shares : GF K "shares" "shares" sShares f_shares)
    (a_cheapest : PySem.W.nsIn K mainGlobals "cheapest" = some (some (.ref f_cheapest)))
    (g_cheapest : GF K "cheapest" "cheapest" sCheapest f_cheapest)
    (a_cratesOf : PySem.W.nsIn K mainGlobals "crates_of" = some (some (.ref f_cratesOf)))
    (g_cratesOf : GF K "crates_of" "crates_of" sCratesOf f_cratesOf)
    (a_cheapestSet : PySem.W.nsIn K mainGlobals "cheapest_set" = some (some (.ref f_cheapestSet)))
    (g_cheapestSet : GF K "cheapest_set" "cheapest_set" sCheapestSet f_cheapestSet)
    (a_must : PySem.W.nsIn K mainGlobals "must" = some (some (.ref f_must)))
    (g_must : GF K "must" "must" sMust f_must)
    (a_newYard : PySem.W.nsIn K mainGlobals "new_yard" = some (some (.ref f_newYard)))
    (g_newYard : GF K "new_yard" "new_yard" sNewYard f_newYard)
    (a_bounds : PySem.W.nsIn K mainGlobals "are_bounds" = some (some (.ref f_bounds)))
    (g_bounds : GF K "are_bounds" "are_bounds" sBounds f_bounds)
    (a_areWants : PySem.W.nsIn K mainGlobals "are_wants" = some (some (.ref f_areWants)))
    (g_areWants : GF K "are_wants" "are_wants" sAreWants f_areWants)
    (a_isCrate : PySem.W.nsIn K mainGlobals "is_crate" = some (some (.ref f_isCrate)))
    (g_isCrate : GF K "is_crate" "is_crate" sIsCrate f_isCrate)
    (a_behind : PySem.W.nsIn K mainGlobals "behind_lists" = some (some (.ref f_behind)))
    (g_behind : GF K "behind_lists" "behind_lists" sBehind f_behind)
    (a_answers : PySem.W.nsIn K mainGlobals "answers" = some (some (.ref f_answers)))
    (g_answers : GF K "answers" "answers" sAnswers f_answers)
    (a_crateC : PySem.W.nsIn K mainGlobals "Crate" = some (some (.ref c_Crate)))
    (p1_crateC : PySem.W.plainGet K c_Crate Str.empty = true)
    (p2_crateC : PySem.W.hasDictIn K c_Crate = true)
    (p3_crateC : PySem.W.plainOver K c_Crate = true)
    (p4_crateC : PySem.W.findIn K (.ref c_Crate) "__setattr__" = some (some (.builtin "object.__setattr__")))
    (p5_crateC : PySem.W.makesIn K c_Crate = true)
    (p6_crateC : PySem.W.keepIn K (.ref c_Crate) = true)
    (i_crateC : PySem.W.findIn K (.ref c_Crate) "__init__" = some (some (.ref i_Crate)))
    (n_crateC : PySem.W.isFn K (.ref i_Crate) = true)
    (g_crateC : GF K "__init__" "Crate.__init__" sCrateI i_Crate)
    (q_cr_heavy : PySem.W.findIn K (.ref c_Crate) "heavy" = some none)
    (q_cr_copper : PySem.W.findIn K (.ref c_Crate) "copper" = some none)
    (q_cr_zinc : PySem.W.findIn K (.ref c_Crate) "zinc" = some none)
    (q_cr_price : PySem.W.findIn K (.ref c_Crate) "price" = some none)
    (a_heapC : PySem.W.nsIn K mainGlobals "Heap" = some (some (.ref c_Heap)))
    (p1_heapC : PySem.W.plainGet K c_Heap Str.empty = true)
    (p2_heapC : PySem.W.hasDictIn K c_Heap = true)
    (p3_heapC : PySem.W.plainOver K c_Heap = true)
    (p4_heapC : PySem.W.findIn K (.ref c_Heap) "__setattr__" = some (some (.builtin "object.__setattr__")))
    (p5_heapC : PySem.W.makesIn K c_Heap = true)
    (p6_heapC : PySem.W.keepIn K (.ref c_Heap) = true)
    (i_heapC : PySem.W.findIn K (.ref c_Heap) "__init__" = some (some (.ref i_Heap)))
    (n_heapC : PySem.W.isFn K (.ref i_Heap) = true)
    (g_heapC : GF K "__init__" "Heap.__init__" sHeapI i_Heap)
    (q_he_many : PySem.W.findIn K (.ref c_Heap) "many" = some none)
    (q_he_weight : PySem.W.findIn K (.ref c_Heap) "weight" = some none)
    (q_he_copper : PySem.W.findIn K (.ref c_Heap) "copper" = some none)
    (q_he_zinc : PySem.W.findIn K (.ref c_Heap) "zinc" = some none)
    (q_he_cost : PySem.W.findIn K (.ref c_Heap) "cost" = some none)
    (a_wantedC : PySem.W.nsIn K mainGlobals "Wanted" = some (some (.ref c_Wanted)))
    (p1_wantedC : PySem.W.plainGet K c_Wanted Str.empty = true)
    (p2_wantedC : PySem.W.hasDictIn K c_Wanted = true)
    (p3_wantedC : PySem.W.plainOver K c_Wanted = true)
    (p4_wantedC : PySem.W.findIn K (.ref c_Wanted) "__setattr__" = some (some (.builtin "object.__setattr__")))
    (p5_wantedC : PySem.W.makesIn K c_Wanted = true)
    (p6_wantedC : PySem.W.keepIn K (.ref c_Wanted) = true)
    (i_wantedC : PySem.W.findIn K (.ref c_Wanted) "__init__" = some (some (.ref i_Wanted)))
    (n_wantedC : PySem.W.isFn K (.ref i_Wanted) = true)
    (g_wantedC : GF K "__init__" "Wanted.__init__" sWantedI i_Wanted)
    (q_wa_heavy : PySem.W.findIn K (.ref c_Wanted) "heavy" = some none)
    (q_wa_copper : PySem.W.findIn K (.ref c_Wanted) "copper" = some none)
    (q_wa_zinc : PySem.W.findIn K (.ref c_Wanted) "zinc" = some none)
    (a_yardC : PySem.W.nsIn K mainGlobals "Yard" = some (some (.ref c_Yard)))
    (p1_yardC : PySem.W.plainGet K c_Yard Str.empty = true)
    (p2_yardC : PySem.W.hasDictIn K c_Yard = true)
    (p3_yardC : PySem.W.plainOver K c_Yard = true)
    (p4_yardC : PySem.W.findIn K (.ref c_Yard) "__setattr__" = some (some (.builtin "object.__setattr__")))
    (p5_yardC : PySem.W.makesIn K c_Yard = true)
    (p6_yardC : PySem.W.keepIn K (.ref c_Yard) = true)
    (i_yardC : PySem.W.findIn K (.ref c_Yard) "__init__" = some (some (.ref i_Yard)))
    (n_yardC : PySem.W.isFn K (.ref i_Yard) = true)
    (g_yardC : GF K "__init__" "Yard.__init__" sYardI i_Yard)
    (q_ya_crates : PySem.W.findIn K (.ref c_Yard) "crates" = some none)
    (q_ya_wants : PySem.W.findIn K (.ref c_Yard) "wants" = some none)
    (q_ya_stays : PySem.W.findIn K (.ref c_Yard) "stays" = some none)
    (a_bestC : PySem.W.nsIn K mainGlobals "Best" = some (some (.ref c_Best)))
    (p1_bestC : PySem.W.plainGet K c_Best Str.empty = true)
    (p2_bestC : PySem.W.hasDictIn K c_Best = true)
    (p3_bestC : PySem.W.plainOver K c_Best = true)
    (p4_bestC : PySem.W.findIn K (.ref c_Best) "__setattr__" = some (some (.builtin "object.__setattr__")))
    (p5_bestC : PySem.W.makesIn K c_Best = true)
    (p6_bestC : PySem.W.keepIn K (.ref c_Best) = true)
    (i_bestC : PySem.W.findIn K (.ref c_Best) "__init__" = some (some (.ref i_Best)))
    (n_bestC : PySem.W.isFn K (.ref i_Best) = true)
    (g_bestC : GF K "__init__" "Best.__init__" sBestI i_Best)
    (q_be_some : PySem.W.findIn K (.ref c_Best) "some" = some none)
    (q_be_cost : PySem.W.findIn K (.ref c_Best) "cost" = some none)
    (q_be_weight : PySem.W.findIn K (.ref c_Best) "weight" = some none)
    (a_takeM : PySem.W.findIn K (.ref c_Best) "take" = some (some (.ref m_take)))
    (n_takeM : PySem.W.isFn K (.ref m_take) = true)
    (g_takeM : GF K "take" "Best.take" sTake m_take)
    (a_toldM : PySem.W.findIn K (.ref c_Best) "told" = some (some (.ref m_told)))
    (n_toldM : PySem.W.isFn K (.ref m_told) = true)
    (g_toldM : GF K "told" "Best.told" sTold m_told)
    (a_deskC : PySem.W.nsIn K mainGlobals "Desk" = some (some (.ref c_Desk)))
    (p1_deskC : PySem.W.plainGet K c_Desk Str.empty = true)
    (p2_deskC : PySem.W.hasDictIn K c_Desk = true)
    (p3_deskC : PySem.W.plainOver K c_Desk = true)
    (p4_deskC : PySem.W.findIn K (.ref c_Desk) "__setattr__" = some (some (.builtin "object.__setattr__")))
    (p5_deskC : PySem.W.makesIn K c_Desk = true)
    (p6_deskC : PySem.W.keepIn K (.ref c_Desk) = true)
    (i_deskC : PySem.W.findIn K (.ref c_Desk) "__init__" = some (some (.ref i_Desk)))
    (n_deskC : PySem.W.isFn K (.ref i_Desk) = true)
    (g_deskC : GF K "__init__" "Desk.__init__" sDeskI i_Desk)
    (q_de_yard : PySem.W.findIn K (.ref c_Desk) "yard" = some none)
    (a_beginsM : PySem.W.findIn K (.ref c_Desk) "begins" = some (some (.ref m_begins)))
    (n_beginsM : PySem.W.isFn K (.ref m_begins) = true)
    (g_beginsM : GF K "begins" "Desk.begins" sBegins m_begins)
    (a_wantM : PySem.W.findIn K (.ref c_Desk) "want" = some (some (.ref m_want)))
    (n_wantM : PySem.W.isFn K (.ref m_want) = true)
    (g_wantM : GF K "want" "Desk.want" sWant m_want)
    (a_crateM : PySem.W.findIn K (.ref c_Desk) "crate" = some (some (.ref m_crate)))
    (n_crateM : PySem.W.isFn K (.ref m_crate) = true)
    (g_crateM : GF K "crate" "Desk.crate" sCrateM m_crate)
    (a_checkM : PySem.W.findIn K (.ref c_Desk) "check" = some (some (.ref m_check)))
    (n_checkM : PySem.W.isFn K (.ref m_check) = true)
    (g_checkM : GF K "check" "Desk.check" sCheck m_check)
    (a_cheapM : PySem.W.findIn K (.ref c_Desk) "cheap" = some (some (.ref m_cheap)))
    (n_cheapM : PySem.W.isFn K (.ref m_cheap) = true)
    (g_cheapM : GF K "cheap" "Desk.cheap" sCheap m_cheap)
    (a_aloneM : PySem.W.findIn K (.ref c_Desk) "alone" = some (some (.ref m_alone)))
    (n_aloneM : PySem.W.isFn K (.ref m_alone) = true)
    (g_aloneM : GF K "alone" "Desk.alone" sAlone m_alone)
    (a_answeredM : PySem.W.findIn K (.ref c_Desk) "answered" = some (some (.ref m_answered)))
    (n_answeredM : PySem.W.isFn K (.ref m_answered) = true)
    (g_answeredM : GF K "answered" "Desk.answered" sAnswered m_answered)
    (a_calledM : PySem.W.findIn K (.ref c_Desk) "called" = some (some (.ref m_called)))
    (n_calledM : PySem.W.isFn K (.ref m_called) = true)
    (g_calledM : GF K "called" "Desk.called" sCalled m_called)
    (k_MOST_WEIGHT : ∃ t, PySem.W.nsIn K mainGlobals "MOST_WEIGHT" = some (some (.int 1000 t)))
    (k_MOST_SHARE : ∃ t, PySem.W.nsIn K mainGlobals "MOST_SHARE" = some (some (.int 1000 t)))
    (k_FINE : ∃ t, PySem.W.nsIn K mainGlobals "FINE" = some (some (.int 0 t)))
    (k_MELTS : ∃ t, PySem.W.nsIn K mainGlobals "MELTS" = some (some (.int 2 t)))
    (k_MARKS : ∃ t, PySem.W.nsIn K mainGlobals "MARKS" = some (some (.int 3 t)))
    (k_MOST_STAYS : ∃ t, PySem.W.nsIn K mainGlobals "MOST_STAYS" = some (some (.int 200 t)))
    (k_MOST_CRATES : ∃ t, PySem.W.nsIn K mainGlobals "MOST_CRATES" = some (some (.int 7 t)))
    (k_MOST_HEAVY : ∃ t, PySem.W.nsIn K mainGlobals "MOST_HEAVY" = some (some (.int 200 t)))
    (k_MOST_PRICE : ∃ t, PySem.W.nsIn K mainGlobals "MOST_PRICE" = some (some (.int 1000 t)))
    (k_THOUSAND : ∃ t, PySem.W.nsIn K mainGlobals "THOUSAND" = some (some (.int 1000 t)))
    (z_len : PySem.W.nsIn K mainGlobals "len" = some none)
    (z_sum : PySem.W.nsIn K mainGlobals "sum" = some none)
    (z_zip : PySem.W.nsIn K mainGlobals "zip" = some none)
    (z_enum : PySem.W.nsIn K mainGlobals "enumerate" = some none)
    (z_range : PySem.W.nsIn K mainGlobals "range" = some none)
    (z_all : PySem.W.nsIn K mainGlobals "all" = some none)
    (a_first : PySem.W.nsIn K mainGlobals "AT_FIRST" = some (some (.ref aF)))
    (l_first : ∃ u1 u2 u3 u4 u5 u6 od n sl, K.lookup aF = some ⟨.type "tuple", od, .seq #[.int 1 u1, .int 200 u2, .int 0 u3, .int 1000 u4, .int 0 u5, .int 1000 u6] n, sl⟩)
    (r_aC : PySem.W.nsIn K mainGlobals "Refused" = some (some (.ref cR)))
    (r_xL : K.lookup cR = some (excClassObj nm q cR N bs [.type "ValueError", .type "Exception", .type "BaseException", .type "object"] true sn sub ab col dd m0 m1 m2 m3 m5 "ValueError.__new__"))
    (r_sa : PySem.W.findIn K (.ref cR) "__setattr__" = some (some (.builtin "object.__setattr__")))
    (r_ga : PySem.W.findIn K (.ref cR) "__getattribute__" = some (some (.builtin "BaseException.__getattribute__")))
    (r_gg : PySem.W.findIn K (.ref cR) "__getattr__" = some none)
    (r_nb : PySem.W.findIn K (.ref cR) "numbers" = some none)
    (r_a1 : PySem.W.findIn K (.ref cR) "__init__" = some (some (.ref iR)))
    (r_t1 : PySem.W.typeIn K (.ref iR) = some (.type "function"))
    (r_l1 : K.lookup iR = some ⟨oc1, od1, .func (PySem.W.fnOf "__init__" "Refused.__init__" (PySem.RefX.iA ⟨129, 17, 129, 21⟩ ⟨129, 23, 129, 30⟩) (PySem.RefX.iB ⟨130, 8, 130, 12⟩ ⟨130, 8, 130, 20⟩ ⟨130, 23, 130, 30⟩ ⟨130, 8, 130, 30⟩) PySem.RefX.iS .none .none dc1 pm1 an1 cd1 ct1), sl1⟩)
    (r_c1 : PySem.W.codeIn K cd1 "Refused.__init__" = true)
    (r_kC : PySem.W.keepIn K (.ref cR) = true)
    (r_eC : PySem.W.subIn K (.ref cR) (.type "BaseException") = some true)
    (r_tC : PySem.W.typeIn K (.ref cR) = some (.type "type"))
    (r_hC : PySem.W.hasDictIn K cR = true)
    (r_iC : PySem.W.isClsIn K cR = true)
    (r_sC : PySem.W.subIn K (.ref cR) (.ref cR) = some true)
    : ∃ fd : FuncData, (∀ (s : Shared) (us : List Value), us.length = (["calls"] : List Str).length → BindsTo s fd ⟨us, []⟩ ((["calls"] : List Str).zip us)) ∧ ∀ base : Heap, K.In base → base.Ns mainGlobals mg → FnOk P w K mg base CX0 10 fa fd ["calls"] (spAns K) := by
  have e := hfa.symm.trans (PySem.W.mg_of X G a_answers)
  cases e
  have ref : PySem.RefX.RefTxt K mg cR iR :=
    { gC := PySem.W.mg_of X G r_aC, cls := ⟨nm, q, N, bs, _, sn, sub, ab, col, dd, m0, m1, m2, m3, m5, r_xL, by decide +kernel⟩, sa := r_sa, ga := r_ga, gg := r_gg, noN := r_nb, iC := r_a1, tC := r_t1, kC := r_kC, exC := r_eC, tyC := r_tC, hdC := r_hC, te := exm_self r_eC r_iC r_tC r_sC,
      fn := ⟨_, _, _, _, _, _, _, _, _, _, _, _, _, _, r_l1, r_c1⟩ }
  have T : Txt K mg ({ cCrate := c_Crate, cHeap := c_Heap, cWanted := c_Wanted, cYard := c_Yard, cBest := c_Best, cRef := cR, cDesk := c_Desk, iCrate := i_Crate, iHeap := i_Heap, iWanted := i_Wanted, iYard := i_Yard, iBest := i_Best, iRef := iR, iDesk := i_Desk, take := m_take, told := m_told, begins := m_begins, want := m_want, crate := m_crate, check := m_check, cheap := m_cheap, alone := m_alone, answered := m_answered, called := m_called, heapOf := f_heapOf, heapNot := f_heapNot, lies := f_lies, isShare := f_isShare, heavyRight := f_heavyRight, wrongAlone := f_wrongAlone, mixed := f_mixed, wrongBehind := f_wrongBehind, wrongBoth := f_wrongBoth, wrongPlan := f_wrongPlan, shares := f_shares, cheapest := f_cheapest, cratesOf := f_cratesOf, cheapestSet := f_cheapestSet, must := f_must, newYard := f_newYard, bounds := f_bounds, areWants := f_areWants, isCrate := f_isCrate, behind := f_behind, answers := fa } : Adr) :=
    { ref := ref
      heapOf := gdef_mk X G (fun _ _ _ _ _ _ us hl => match us, hl with | [_, _, _], _ => rfl) a_heapOf g_heapOf
      heapNot := gdef_mk X G (fun _ _ _ _ _ _ us hl => match us, hl with | [_, _], _ => rfl) a_heapNot g_heapNot
      lies := gdef_mk X G (fun _ _ _ _ _ _ us hl => match us, hl with | [_, _], _ => rfl) a_lies g_lies
      isShare := gdef_mk X G (fun _ _ _ _ _ _ us hl => match us, hl with | [_, _, _], _ => rfl) a_isShare g_isShare
      heavyRight := gdef_mk X G (fun _ _ _ _ _ _ us hl => match us, hl with | [_, _], _ => rfl) a_heavyRight g_heavyRight
      wrongAlone := gdef_mk X G (fun _ _ _ _ _ _ us hl => match us, hl with | [_, _], _ => rfl) a_wrongAlone g_wrongAlone
      mixed := gdef_mk X G (fun _ _ _ _ _ _ us hl => match us, hl with | [_, _, _, _], _ => rfl) a_mixed g_mixed
      wrongBehind := gdef_mk X G (fun _ _ _ _ _ _ us hl => match us, hl with | [_, _, _, _], _ => rfl) a_wrongBehind g_wrongBehind
      wrongBoth := gdef_mk X G (fun _ _ _ _ _ _ us hl => match us, hl with | [_, _, _, _], _ => rfl) a_wrongBoth g_wrongBoth
      wrongPlan := gdef_mk X G (fun _ _ _ _ _ _ us hl => match us, hl with | [_, _, _], _ => rfl) a_wrongPlan g_wrongPlan
      shares := gdef_mk X G (fun _ _ _ _ _ _ us hl => match us, hl with | [_], _ => rfl) a_shares g_shares
      cheapest := gdef_mk X G (fun _ _ _ _ _ _ us hl => match us, hl with | [_], _ => rfl) a_cheapest g_cheapest
      cratesOf := gdef_mk X G (fun _ _ _ _ _ _ us hl => match us, hl with | [_, _], _ => rfl) a_cratesOf g_cratesOf
      cheapestSet := gdef_mk X G (fun _ _ _ _ _ _ us hl => match us, hl with | [_, _], _ => rfl) a_cheapestSet g_cheapestSet
      must := gdef_mk X G (fun _ _ _ _ _ _ us hl => match us, hl with | [_, _], _ => rfl) a_must g_must
      newYard := gdef_mk X G (fun _ _ _ _ _ _ us hl => match us, hl with | [_], _ => rfl) a_newYard g_newYard
      bounds := gdef_mk X G (fun _ _ _ _ _ _ us hl => match us, hl with | [_, _, _, _], _ => rfl) a_bounds g_bounds
      areWants := gdef_mk X G (fun _ _ _ _ _ _ us hl => match us, hl with | [_], _ => rfl) a_areWants g_areWants
      isCrate := gdef_mk X G (fun _ _ _ _ _ _ us hl => match us, hl with | [_, _, _, _], _ => rfl) a_isCrate g_isCrate
      behind := gdef_mk X G (fun _ _ _ _ _ _ us hl => match us, hl with | [_, _], _ => rfl) a_behind g_behind
      answers := gdef_mk X G (fun _ _ _ _ _ _ us hl => match us, hl with | [_], _ => rfl) a_answers g_answers
      crateC := cls_mk X G (fun _ _ _ _ _ _ us hl => match us, hl with | [_, _, _, _, _], _ => rfl) ⟨p1_crateC, p2_crateC, p3_crateC, p4_crateC⟩ a_crateC p5_crateC p6_crateC i_crateC n_crateC g_crateC
      cr_heavy := q_cr_heavy
      cr_copper := q_cr_copper
      cr_zinc := q_cr_zinc
      cr_price := q_cr_price
      heapC := cls_mk X G (fun _ _ _ _ _ _ us hl => match us, hl with | [_, _], _ => rfl) ⟨p1_heapC, p2_heapC, p3_heapC, p4_heapC⟩ a_heapC p5_heapC p6_heapC i_heapC n_heapC g_heapC
      he_many := q_he_many
      he_weight := q_he_weight
      he_copper := q_he_copper
      he_zinc := q_he_zinc
      he_cost := q_he_cost
      wantedC := cls_mk X G (fun _ _ _ _ _ _ us hl => match us, hl with | [_, _], _ => rfl) ⟨p1_wantedC, p2_wantedC, p3_wantedC, p4_wantedC⟩ a_wantedC p5_wantedC p6_wantedC i_wantedC n_wantedC g_wantedC
      wa_heavy := q_wa_heavy
      wa_copper := q_wa_copper
      wa_zinc := q_wa_zinc
      yardC := cls_mk X G (fun _ _ _ _ _ _ us hl => match us, hl with | [_, _, _, _], _ => rfl) ⟨p1_yardC, p2_yardC, p3_yardC, p4_yardC⟩ a_yardC p5_yardC p6_yardC i_yardC n_yardC g_yardC
      ya_crates := q_ya_crates
      ya_wants := q_ya_wants
      ya_stays := q_ya_stays
      bestC := cls_mk X G (fun _ _ _ _ _ _ us hl => match us, hl with | [_], _ => rfl) ⟨p1_bestC, p2_bestC, p3_bestC, p4_bestC⟩ a_bestC p5_bestC p6_bestC i_bestC n_bestC g_bestC
      be_some := q_be_some
      be_cost := q_be_cost
      be_weight := q_be_weight
      takeM := meth_mk (fun _ _ _ _ _ _ us hl => match us, hl with | [_, _, _, _], _ => rfl) a_takeM n_takeM g_takeM
      toldM := meth_mk (fun _ _ _ _ _ _ us hl => match us, hl with | [_], _ => rfl) a_toldM n_toldM g_toldM
      deskC := cls_mk X G (fun _ _ _ _ _ _ us hl => match us, hl with | [_], _ => rfl) ⟨p1_deskC, p2_deskC, p3_deskC, p4_deskC⟩ a_deskC p5_deskC p6_deskC i_deskC n_deskC g_deskC
      de_yard := q_de_yard
      beginsM := meth_mk (fun _ _ _ _ _ _ us hl => match us, hl with | [_, _], _ => rfl) a_beginsM n_beginsM g_beginsM
      wantM := meth_mk (fun _ _ _ _ _ _ us hl => match us, hl with | [_, _, _], _ => rfl) a_wantM n_wantM g_wantM
      crateM := meth_mk (fun _ _ _ _ _ _ us hl => match us, hl with | [_, _], _ => rfl) a_crateM n_crateM g_crateM
      checkM := meth_mk (fun _ _ _ _ _ _ us hl => match us, hl with | [_, _, _], _ => rfl) a_checkM n_checkM g_checkM
      cheapM := meth_mk (fun _ _ _ _ _ _ us hl => match us, hl with | [_], _ => rfl) a_cheapM n_cheapM g_cheapM
      aloneM := meth_mk (fun _ _ _ _ _ _ us hl => match us, hl with | [_, _], _ => rfl) a_aloneM n_aloneM g_aloneM
      answeredM := meth_mk (fun _ _ _ _ _ _ us hl => match us, hl with | [_, _, _], _ => rfl) a_answeredM n_answeredM g_answeredM
      calledM := meth_mk (fun _ _ _ _ _ _ us hl => match us, hl with | [_, _, _], _ => rfl) a_calledM n_calledM g_calledM
      c_MOST_WEIGHT := let ⟨t, e⟩ := k_MOST_WEIGHT; ⟨t, PySem.W.mg_of X G e⟩
      c_MOST_SHARE := let ⟨t, e⟩ := k_MOST_SHARE; ⟨t, PySem.W.mg_of X G e⟩
      c_FINE := let ⟨t, e⟩ := k_FINE; ⟨t, PySem.W.mg_of X G e⟩
      c_MELTS := let ⟨t, e⟩ := k_MELTS; ⟨t, PySem.W.mg_of X G e⟩
      c_MARKS := let ⟨t, e⟩ := k_MARKS; ⟨t, PySem.W.mg_of X G e⟩
      c_MOST_STAYS := let ⟨t, e⟩ := k_MOST_STAYS; ⟨t, PySem.W.mg_of X G e⟩
      c_MOST_CRATES := let ⟨t, e⟩ := k_MOST_CRATES; ⟨t, PySem.W.mg_of X G e⟩
      c_MOST_HEAVY := let ⟨t, e⟩ := k_MOST_HEAVY; ⟨t, PySem.W.mg_of X G e⟩
      c_MOST_PRICE := let ⟨t, e⟩ := k_MOST_PRICE; ⟨t, PySem.W.mg_of X G e⟩
      c_THOUSAND := let ⟨t, e⟩ := k_THOUSAND; ⟨t, PySem.W.mg_of X G e⟩
      len := PySem.W.mg_none_of X G z_len
      sum := PySem.W.mg_none_of X G z_sum
      zip := PySem.W.mg_none_of X G z_zip
      enum := PySem.W.mg_none_of X G z_enum
      range := PySem.W.mg_none_of X G z_range
      all := PySem.W.mg_none_of X G z_all
      atFirst := first_mk X G a_first l_first
    }
  obtain ⟨oc, od, kV, dc, pm, an, cd, ct, sl, l, c, k⟩ := g_answers
  refine ⟨PySem.W.fnOf "answers" "answers" (defArgs sAnswers) (defBody sAnswers) (defScope sAnswers) .none kV dc pm an cd ct, fun s us hu => match us, hu with | [_], _ => .of_eq rfl, fun base _ _ => ?_⟩
  exact ok_answersF T (fun_mk l c k)
end Tm
open PySem PySem.W PyProof.Rows
set_option maxRecDepth 100000 in
set_option maxHeartbeats 8000000 in
theorem PySem.Challenge.cw_twomelts_s01_answers_holds : PySem.Challenge.rw_twomelts_s01_answers.Holds := by
  w_on; k_headS; (case hw => exact ⟨[.list [.int 4, .int 0, .int 0]], by decide +kernel, by decide +kernel⟩)
  k_fillS
  refine L2.walk_specK (r := PySem.Challenge.rw_twomelts_s01_answers) (k := 10) (CX := L2.CX0) (ps := ["calls"]) (sp := Tm.spAns) (by decide +kernel) rfl rfl ⟨rfl, by decide, by decide⟩ (fun w h Y => PySem.W.kIn_of Y) ?F ?S (fun _ _ _ _ z => z)
  case F =>
    intro w mg fa h Y KX G hmg
    refine' Tm.all_mk KX G hmg ?a_heapOf ?g_heapOf ?a_heapNot ?g_heapNot ?a_lies ?g_lies ?a_isShare ?g_isShare ?a_heavyRight ?g_heavyRight ?a_wrongAlone ?g_wrongAlone ?a_mixed ?g_mixed ?a_wrongBehind ?g_wrongBehind ?a_wrongBoth ?g_wrongBoth ?a_wrongPlan ?g_wrongPlan ?a_shares ?g_shares ?a_cheapest ?g_cheapest ?a_cratesOf ?g_cratesOf ?a_cheapestSet ?g_cheapestSet ?a_must ?g_must ?a_newYard ?g_newYard ?a_bounds ?g_bounds ?a_areWants ?g_areWants ?a_isCrate ?g_isCrate ?a_behind ?g_behind ?a_answers ?g_answers ?a_crateC ?p1_crateC ?p2_crateC ?p3_crateC ?p4_crateC ?p5_crateC ?p6_crateC ?i_crateC ?n_crateC ?g_crateC ?q_cr_heavy ?q_cr_copper ?q_cr_zinc ?q_cr_price ?a_heapC ?p1_heapC ?p2_heapC ?p3_heapC ?p4_heapC ?p5_heapC ?p6_heapC ?i_heapC ?n_heapC ?g_heapC ?q_he_many ?q_he_weight ?q_he_copper ?q_he_zinc ?q_he_cost ?a_wantedC ?p1_wantedC ?p2_wantedC ?p3_wantedC ?p4_wantedC ?p5_wantedC ?p6_wantedC ?i_wantedC ?n_wantedC ?g_wantedC ?q_wa_heavy ?q_wa_copper ?q_wa_zinc ?a_yardC ?p1_yardC ?p2_yardC ?p3_yardC ?p4_yardC ?p5_yardC ?p6_yardC ?i_yardC ?n_yardC ?g_yardC ?q_ya_crates ?q_ya_wants ?q_ya_stays ?a_bestC ?p1_bestC ?p2_bestC ?p3_bestC ?p4_bestC ?p5_bestC ?p6_bestC ?i_bestC ?n_bestC ?g_bestC ?q_be_some ?q_be_cost ?q_be_weight ?a_takeM ?n_takeM ?g_takeM ?a_toldM ?n_toldM ?g_toldM ?a_deskC ?p1_deskC ?p2_deskC ?p3_deskC ?p4_deskC ?p5_deskC ?p6_deskC ?i_deskC ?n_deskC ?g_deskC ?q_de_yard ?a_beginsM ?n_beginsM ?g_beginsM ?a_wantM ?n_wantM ?g_wantM ?a_crateM ?n_crateM ?g_crateM ?a_checkM ?n_checkM ?g_checkM ?a_cheapM ?n_cheapM ?g_cheapM ?a_aloneM ?n_aloneM ?g_aloneM ?a_answeredM ?n_answeredM ?g_answeredM ?a_calledM ?n_calledM ?g_calledM ?k_MOST_WEIGHT ?k_MOST_SHARE ?k_FINE ?k_MELTS ?k_MARKS ?k_MOST_STAYS ?k_MOST_CRATES ?k_MOST_HEAVY ?k_MOST_PRICE ?k_THOUSAND ?z_len ?z_sum ?z_zip ?z_enum ?z_range ?z_all ?a_first ?l_first ?r_aC ?r_xL ?r_sa ?r_ga ?r_gg ?r_nb ?r_a1 ?r_t1 ?r_l1 ?r_c1 ?r_kC ?r_eC ?r_tC ?r_hC ?r_iC ?r_sC
    (case a_heapOf => k_is)
    (case g_heapOf => (refine' Tm.GF.mk ?l ?c ?k; (case l => k_is); (case c => k_is); (case k => k_is)))
    (case a_heapNot => k_is)
    (case g_heapNot => (refine' Tm.GF.mk ?l ?c ?k; (case l => k_is); (case c => k_is); (case k => k_is)))
    (case a_lies => k_is)
    (case g_lies => (refine' Tm.GF.mk ?l ?c ?k; (case l => k_is); (case c => k_is); (case k => k_is)))
    (case a_isShare => k_is)
    (case g_isShare => (refine' Tm.GF.mk ?l ?c ?k; (case l => k_is); (case c => k_is); (case k => k_is)))
    (case a_heavyRight => k_is)
    (case g_heavyRight => (refine' Tm.GF.mk ?l ?c ?k; (case l => k_is); (case c => k_is); (case k => k_is)))
    (case a_wrongAlone => k_is)
    (case g_wrongAlone => (refine' Tm.GF.mk ?l ?c ?k; (case l => k_is); (case c => k_is); (case k => k_is)))
    (case a_mixed => k_is)
    (case g_mixed => (refine' Tm.GF.mk ?l ?c ?k; (case l => k_is); (case c => k_is); (case k => k_is)))
    (case a_wrongBehind => k_is)
    (case g_wrongBehind => (refine' Tm.GF.mk ?l ?c ?k; (case l => k_is); (case c => k_is); (case k => k_is)))
    (case a_wrongBoth => k_is)
    (case g_wrongBoth => (refine' Tm.GF.mk ?l ?c ?k; (case l => k_is); (case c => k_is); (case k => k_is)))
    (case a_wrongPlan => k_is)
    (case g_wrongPlan => (refine' Tm.GF.mk ?l ?c ?k; (case l => k_is); (case c => k_is); (case k => k_is)))
    (case a_shares => k_is)
    (case g_shares => (refine' Tm.GF.mk ?l ?c ?k; (case l => k_is); (case c => k_is); (case k => k_is)))
    (case a_cheapest => k_is)
    (case g_cheapest => (refine' Tm.GF.mk ?l ?c ?k; (case l => k_is); (case c => k_is); (case k => k_is)))
    (case a_cratesOf => k_is)
    (case g_cratesOf => (refine' Tm.GF.mk ?l ?c ?k; (case l => k_is); (case c => k_is); (case k => k_is)))
    (case a_cheapestSet => k_is)
    (case g_cheapestSet => (refine' Tm.GF.mk ?l ?c ?k; (case l => k_is); (case c => k_is); (case k => k_is)))
    (case a_must => k_is)
    (case g_must => (refine' Tm.GF.mk ?l ?c ?k; (case l => k_is); (case c => k_is); (case k => k_is)))
    (case a_newYard => k_is)
    (case g_newYard => (refine' Tm.GF.mk ?l ?c ?k; (case l => k_is); (case c => k_is); (case k => k_is)))
    (case a_bounds => k_is)
    (case g_bounds => (refine' Tm.GF.mk ?l ?c ?k; (case l => k_is); (case c => k_is); (case k => k_is)))
    (case a_areWants => k_is)
    (case g_areWants => (refine' Tm.GF.mk ?l ?c ?k; (case l => k_is); (case c => k_is); (case k => k_is)))
    (case a_isCrate => k_is)
    (case g_isCrate => (refine' Tm.GF.mk ?l ?c ?k; (case l => k_is); (case c => k_is); (case k => k_is)))
    (case a_behind => k_is)
    (case g_behind => (refine' Tm.GF.mk ?l ?c ?k; (case l => k_is); (case c => k_is); (case k => k_is)))
    (case a_answers => k_is)
    (case g_answers => (refine' Tm.GF.mk ?l ?c ?k; (case l => k_is); (case c => k_is); (case k => k_is)))
    (case a_crateC => k_is)
    (case p1_crateC => k_is)
    (case p2_crateC => k_is)
    (case p3_crateC => k_is)
    (case p4_crateC => k_is)
    (case p5_crateC => k_is)
    (case p6_crateC => k_is)
    (case i_crateC => k_is)
    (case n_crateC => k_is)
    (case g_crateC => (refine' Tm.GF.mk ?l ?c ?k; (case l => k_is); (case c => k_is); (case k => k_is)))
    (case q_cr_heavy => k_is)
    (case q_cr_copper => k_is)
    (case q_cr_zinc => k_is)
    (case q_cr_price => k_is)
    (case a_heapC => k_is)
    (case p1_heapC => k_is)
    (case p2_heapC => k_is)
    (case p3_heapC => k_is)
    (case p4_heapC => k_is)
    (case p5_heapC => k_is)
    (case p6_heapC => k_is)
    (case i_heapC => k_is)
    (case n_heapC => k_is)
    (case g_heapC => (refine' Tm.GF.mk ?l ?c ?k; (case l => k_is); (case c => k_is); (case k => k_is)))
    (case q_he_many => k_is)
    (case q_he_weight => k_is)
    (case q_he_copper => k_is)
    (case q_he_zinc => k_is)
    (case q_he_cost => k_is)
    (case a_wantedC => k_is)
    (case p1_wantedC => k_is)
    (case p2_wantedC => k_is)
    (case p3_wantedC => k_is)
    (case p4_wantedC => k_is)
    (case p5_wantedC => k_is)
    (case p6_wantedC => k_is)
    (case i_wantedC => k_is)
    (case n_wantedC => k_is)
    (case g_wantedC => (refine' Tm.GF.mk ?l ?c ?k; (case l => k_is); (case c => k_is); (case k => k_is)))
    (case q_wa_heavy => k_is)
    (case q_wa_copper => k_is)
    (case q_wa_zinc => k_is)
    (case a_yardC => k_is)
    (case p1_yardC => k_is)
    (case p2_yardC => k_is)
    (case p3_yardC => k_is)
    (case p4_yardC => k_is)
    (case p5_yardC => k_is)
    (case p6_yardC => k_is)
    (case i_yardC => k_is)
    (case n_yardC => k_is)
    (case g_yardC => (refine' Tm.GF.mk ?l ?c ?k; (case l => k_is); (case c => k_is); (case k => k_is)))
    (case q_ya_crates => k_is)
    (case q_ya_wants => k_is)
    (case q_ya_stays => k_is)
    (case a_bestC => k_is)
    (case p1_bestC => k_is)
    (case p2_bestC => k_is)
    (case p3_bestC => k_is)
    (case p4_bestC => k_is)
    (case p5_bestC => k_is)
    (case p6_bestC => k_is)
    (case i_bestC => k_is)
    (case n_bestC => k_is)
    (case g_bestC => (refine' Tm.GF.mk ?l ?c ?k; (case l => k_is); (case c => k_is); (case k => k_is)))
    (case q_be_some => k_is)
    (case q_be_cost => k_is)
    (case q_be_weight => k_is)
    (case a_takeM => k_is)
    (case n_takeM => k_is)
    (case g_takeM => (refine' Tm.GF.mk ?l ?c ?k; (case l => k_is); (case c => k_is); (case k => k_is)))
    (case a_toldM => k_is)
    (case n_toldM => k_is)
    (case g_toldM => (refine' Tm.GF.mk ?l ?c ?k; (case l => k_is); (case c => k_is); (case k => k_is)))
    (case a_deskC => k_is)
    (case p1_deskC => k_is)
    (case p2_deskC => k_is)
    (case p3_deskC => k_is)
    (case p4_deskC => k_is)
    (case p5_deskC => k_is)
    (case p6_deskC => k_is)
    (case i_deskC => k_is)
    (case n_deskC => k_is)
    (case g_deskC => (refine' Tm.GF.mk ?l ?c ?k; (case l => k_is); (case c => k_is); (case k => k_is)))
    (case q_de_yard => k_is)
    (case a_beginsM => k_is)
    (case n_beginsM => k_is)
    (case g_beginsM => (refine' Tm.GF.mk ?l ?c ?k; (case l => k_is); (case c => k_is); (case k => k_is)))
    (case a_wantM => k_is)
    (case n_wantM => k_is)
    (case g_wantM => (refine' Tm.GF.mk ?l ?c ?k; (case l => k_is); (case c => k_is); (case k => k_is)))
    (case a_crateM => k_is)
    (case n_crateM => k_is)
    (case g_crateM => (refine' Tm.GF.mk ?l ?c ?k; (case l => k_is); (case c => k_is); (case k => k_is)))
    (case a_checkM => k_is)
    (case n_checkM => k_is)
    (case g_checkM => (refine' Tm.GF.mk ?l ?c ?k; (case l => k_is); (case c => k_is); (case k => k_is)))
    (case a_cheapM => k_is)
    (case n_cheapM => k_is)
    (case g_cheapM => (refine' Tm.GF.mk ?l ?c ?k; (case l => k_is); (case c => k_is); (case k => k_is)))
    (case a_aloneM => k_is)
    (case n_aloneM => k_is)
    (case g_aloneM => (refine' Tm.GF.mk ?l ?c ?k; (case l => k_is); (case c => k_is); (case k => k_is)))
    (case a_answeredM => k_is)
    (case n_answeredM => k_is)
    (case g_answeredM => (refine' Tm.GF.mk ?l ?c ?k; (case l => k_is); (case c => k_is); (case k => k_is)))
    (case a_calledM => k_is)
    (case n_calledM => k_is)
    (case g_calledM => (refine' Tm.GF.mk ?l ?c ?k; (case l => k_is); (case c => k_is); (case k => k_is)))
    (case k_MOST_WEIGHT => (refine' ⟨_, Eq.trans ?l ?m⟩; (case l => k_is); (case m => exact rfl)))
    (case k_MOST_SHARE => (refine' ⟨_, Eq.trans ?l ?m⟩; (case l => k_is); (case m => exact rfl)))
    (case k_FINE => (refine' ⟨_, Eq.trans ?l ?m⟩; (case l => k_is); (case m => exact rfl)))
    (case k_MELTS => (refine' ⟨_, Eq.trans ?l ?m⟩; (case l => k_is); (case m => exact rfl)))
    (case k_MARKS => (refine' ⟨_, Eq.trans ?l ?m⟩; (case l => k_is); (case m => exact rfl)))
    (case k_MOST_STAYS => (refine' ⟨_, Eq.trans ?l ?m⟩; (case l => k_is); (case m => exact rfl)))
    (case k_MOST_CRATES => (refine' ⟨_, Eq.trans ?l ?m⟩; (case l => k_is); (case m => exact rfl)))
    (case k_MOST_HEAVY => (refine' ⟨_, Eq.trans ?l ?m⟩; (case l => k_is); (case m => exact rfl)))
    (case k_MOST_PRICE => (refine' ⟨_, Eq.trans ?l ?m⟩; (case l => k_is); (case m => exact rfl)))
    (case k_THOUSAND => (refine' ⟨_, Eq.trans ?l ?m⟩; (case l => k_is); (case m => exact rfl)))
    (case z_len => k_is)
    (case z_sum => k_is)
    (case z_zip => k_is)
    (case z_enum => k_is)
    (case z_range => k_is)
    (case z_all => k_is)
    (case a_first => k_is)
    (case l_first => (refine' ⟨_, _, _, _, _, _, _, _, _, Eq.trans ?l ?m⟩; (case l => k_is); (case m => exact rfl)))
    (case r_aC => k_is)
    (case r_xL => k_is)
    (case r_sa => k_is)
    (case r_ga => k_is)
    (case r_gg => k_is)
    (case r_nb => k_is)
    (case r_a1 => k_is)
    (case r_t1 => k_is)
    (case r_l1 => k_is)
    (case r_c1 => k_is)
    (case r_kC => k_is)
    (case r_eC => k_is)
    (case r_tC => k_is)
    (case r_hC => k_is)
    (case r_iC => k_is)
    (case r_sC => first | rfl | k_is)
  case S =>
    intro K H xs a hO hwi hask hx
    cases hx with
    | cons h1 h2 =>
      cases h2
      cases h1 with
      | lst hs ha =>
        have e := L2.ints_dw a.1 _ ha
        subst e
        obtain ⟨qs, e1, hok, e2, hlen⟩ := Tm.asked_opens (l := a.1) hask
        refine ⟨_, qs, rfl, ?_, hok, hlen, fun H' p hp => ?_⟩
        · have em : (Tm.flat qs).map Tm.vn = a.1.map L2.V.int := by
            rw [e1, List.map_map]
            rfl
          rw [em]
          exact hs
        · rw [← e2] at hp
          exact .lst (L2.SqL.of hp) (L2.dw_ints _)
#print axioms PySem.Challenge.cw_twomelts_s01_answers_holds
