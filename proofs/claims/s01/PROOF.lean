import PyProof.Rows.All
import PyFlatLaws
import Wide.All
import OpenK.AllK
import Wide.FinOn
import Open.SpecLaws
import KE.OsGo
import KE.OsArith
import HandS.ForSpec
import HandS.Comp
import HandS.Text
import HandS.Evl
import PySem.Challenge.RW_brokenstrokes_s01_answers
set_option Elab.async false
set_option linter.all false
set_option maxRecDepth 100000
set_option maxHeartbeats 4000000
/-! The mathematics: rows of strokes by place, their bits, and the specification. -/
namespace Bs
open Sy69 (St Sight)

/-! ### rows -/
/-- a row by place -/
def tab (d : Nat) (f : Nat → Nat) : List Nat := (List.range d).map f
theorem tab_len (d : Nat) (f : Nat → Nat) : (tab d f).length = d := by
  unfold tab
  rw [List.length_map, List.length_range]
theorem tab_get {d : Nat} {f : Nat → Nat} {k : Nat} (h : k < d) : (tab d f)[k]? = some (f k) := by
  unfold tab
  rw [List.getElem?_map, List.getElem?_range h]
  rfl
theorem tab_congr {d : Nat} {f g : Nat → Nat} (h : ∀ k, k < d → f k = g k) : tab d f = tab d g := by
  unfold tab
  refine List.map_congr_left fun k hk => h k (List.mem_range.mp hk)
theorem tab_of {l : List Nat} {d : Nat} (h : l.length = d) : tab d (fun k => l.getD k 0) = l := by
  apply List.ext_getElem?
  intro k
  by_cases hk : k < d
  · rw [tab_get hk, List.getD_eq_getElem?_getD, List.getElem?_eq_getElem (by omega)]
    rfl
  · rw [List.getElem?_eq_none (by rw [tab_len]; omega), List.getElem?_eq_none (by omega)]
theorem tab_rev (d : Nat) (f : Nat → Nat) : (tab d f).reverse = tab d (fun k => f (d - 1 - k)) := by
  apply List.ext_getElem?
  intro k
  by_cases hk : k < d
  · rw [tab_get hk, List.getElem?_reverse (by rw [tab_len]; exact hk), tab_len, tab_get (by omega)]
  · rw [List.getElem?_eq_none (by rw [List.length_reverse, tab_len]; omega), List.getElem?_eq_none (by rw [tab_len]; omega)]
theorem tab_succ (d : Nat) (f : Nat → Nat) : tab (d + 1) f = tab d f ++ [f d] := by
  unfold tab
  rw [List.range_succ, List.map_append]
  rfl

/-! ### the mirror: which strokes have always been as they should; dark in all sights; lit in all sights -/
def shouldF (d n k : Nat) : Nat := Sy69.DIGITS.getD (n / 10 ^ (d - 1 - k) % 10) 0
def shouldR (n j : Nat) : Nat := Sy69.DIGITS.getD (n / 10 ^ j % 10) 0
def worksL (d : Nat) (zs : List Sight) (x k : Nat) : Nat := zs.foldl (fun w z => w &&& ((127 ^^^ shouldF d ((x + z.time) % 10 ^ d) k) ^^^ z.lit.getD k 0)) 127
def darkL (zs : List Sight) (k : Nat) : Nat := zs.foldl (fun w z => w &&& (127 ^^^ z.lit.getD k 0)) 127
def litL (zs : List Sight) (k : Nat) : Nat := zs.foldl (fun w z => w &&& z.lit.getD k 0) 127
def worksF (s : St) (x k : Nat) : Nat := worksL s.digits s.sights x k
def darkF (s : St) (k : Nat) : Nat := darkL s.sights k
def litF (s : St) (k : Nat) : Nat := litL s.sights k
def mayB (s : St) (x : Nat) : Bool := (List.range s.digits).all fun k => (worksF s x k ||| darkF s k) ||| litF s k == 127

/-- a state that the calls lead to -/
structure Wf (s : St) : Prop where
  lo : 1 ≤ s.digits
  hi : s.digits ≤ 3
  lit : ∀ z ∈ s.sights, z.lit.length = s.digits
  top : ∀ z ∈ s.sights, ∀ m ∈ z.lit, m ≤ 127
  many : s.sights.length ≤ 8

/-! ### bits -/
theorem has_bit (m i : Nat) : Sy69.has m i = m.testBit i := by
  unfold Sy69.has
  rw [Nat.testBit_eq_decide_div_mod_eq]
  by_cases h : m / 2 ^ i % 2 = 1
  · rw [h, decide_eq_true rfl]
    rfl
  · rw [decide_eq_false h]
    exact beq_eq_false_iff_ne.mpr h
theorem bit127 {i : Nat} (h : i < 7) : Nat.testBit 127 i = true := by
  have e : (127 : Nat) = 2 ^ 7 - 1 := rfl
  rw [e, Nat.testBit_two_pow_sub_one, decide_eq_true h]
theorem fold_bit {α : Type} (g : α → Nat) (i : Nat) : ∀ (zs : List α) (w : Nat), (zs.foldl (fun w z => w &&& g z) w).testBit i = (w.testBit i && zs.all fun z => (g z).testBit i)
  | [], w => by rw [List.foldl_nil, List.all_nil, Bool.and_true]
  | z :: zs, w => by rw [List.foldl_cons, fold_bit g i zs, List.all_cons, Nat.testBit_and, Bool.and_assoc]
theorem fold_le {α : Type} (g : α → Nat) : ∀ (zs : List α) (w : Nat), zs.foldl (fun w z => w &&& g z) w ≤ w
  | [], w => Nat.le_refl _
  | z :: zs, w => Nat.le_trans (fold_le g zs _) Nat.and_le_left
theorem worksF_le (s : St) (x k : Nat) : worksF s x k ≤ 127 := fold_le (fun z : Sight => (127 ^^^ shouldF s.digits ((x + z.time) % 10 ^ s.digits) k) ^^^ z.lit.getD k 0) s.sights 127
theorem darkF_le (s : St) (k : Nat) : darkF s k ≤ 127 := fold_le (fun z : Sight => 127 ^^^ z.lit.getD k 0) s.sights 127
theorem litF_le (s : St) (k : Nat) : litF s k ≤ 127 := fold_le (fun z : Sight => z.lit.getD k 0) s.sights 127
theorem xor_lt {a b : Nat} (h1 : a < 128) (h2 : b < 128) : a ^^^ b < 128 := Nat.xor_lt_two_pow (n := 7) h1 h2
theorem or_lt {a b : Nat} (h1 : a < 128) (h2 : b < 128) : a ||| b < 128 := Nat.or_lt_two_pow (n := 7) h1 h2
theorem and_lt {a b : Nat} (h1 : a < 128) : a &&& b < 128 := Nat.lt_of_le_of_lt Nat.and_le_left h1
/-- a number below 128 by its bits -/
theorem ext7 {a b : Nat} (ha : a < 128) (hb : b < 128) (h : ∀ i, i < 7 → a.testBit i = b.testBit i) : a = b := by
  apply Nat.eq_of_testBit_eq
  intro i
  by_cases hi : i < 7
  · exact h i hi
  · have p : 128 ≤ 2 ^ i := Nat.pow_le_pow_right (n := 2) (by decide) (show 7 ≤ i by omega)
    rw [Nat.testBit_lt_two_pow (Nat.lt_of_lt_of_le ha p), Nat.testBit_lt_two_pow (Nat.lt_of_lt_of_le hb p)]
theorem all127 {a : Nat} (ha : a < 128) : (a == 127) = (List.range 7).all fun i => a.testBit i := by
  rw [Bool.eq_iff_iff, List.all_eq_true]
  constructor
  · intro h i hi
    rw [eq_of_beq h]
    exact bit127 (List.mem_range.mp hi)
  · intro h
    rw [beq_iff_eq]
    exact ext7 ha (by decide) fun i hi => by rw [bit127 hi, h i (List.mem_range.mpr hi)]
theorem mask_sum : ∀ m, m < 128 → (((List.range 7).filter fun i => m.testBit i).map fun i => 2 ^ i).sum = m := by decide +kernel
theorem sub_xor {w : Nat} (h : w ≤ 127) : 127 - w = 127 ^^^ w := by
  have q : ∀ w, w < 128 → 127 - w = 127 ^^^ w := by decide +kernel
  exact q w (by omega)
theorem not_bit {w i : Nat} (hi : i < 7) : (127 ^^^ w).testBit i = !w.testBit i := by
  rw [Nat.testBit_xor, bit127 hi]
  cases w.testBit i <;> rfl
theorem works_bit (s : St) (x k : Nat) {i : Nat} (hi : i < 7) : (worksF s x k).testBit i = Sy69.fits s x k i 0 := by
  unfold worksF worksL Sy69.fits
  rw [fold_bit, bit127 hi, Bool.true_and]
  congr 1
  funext z
  rw [Nat.testBit_xor, Nat.testBit_xor, bit127 hi]
  show ((true ^^ (shouldF s.digits ((x + z.time) % 10 ^ s.digits) k).testBit i) ^^ (z.lit.getD k 0).testBit i) = ((Sy69.should s x z.time k i) == Sy69.has (z.lit.getD k 0) i)
  rw [show Sy69.should s x z.time k i = (shouldF s.digits ((x + z.time) % 10 ^ s.digits) k).testBit i from has_bit _ _, has_bit]
  cases (shouldF s.digits ((x + z.time) % 10 ^ s.digits) k).testBit i <;> cases (z.lit.getD k 0).testBit i <;> rfl
theorem dark_bit (s : St) (x k : Nat) {i : Nat} (hi : i < 7) : (darkF s k).testBit i = Sy69.fits s x k i 1 := by
  unfold darkF darkL Sy69.fits
  rw [fold_bit, bit127 hi, Bool.true_and]
  congr 1
  funext z
  rw [not_bit hi, has_bit]
  show (!(z.lit.getD k 0).testBit i) = (false == (z.lit.getD k 0).testBit i)
  cases (z.lit.getD k 0).testBit i <;> rfl
theorem lit_bit (s : St) (x k : Nat) {i : Nat} (hi : i < 7) : (litF s k).testBit i = Sy69.fits s x k i 2 := by
  unfold litF litL Sy69.fits
  rw [fold_bit, bit127 hi, Bool.true_and]
  congr 1
  funext z
  rw [has_bit]
  show (z.lit.getD k 0).testBit i = (true == (z.lit.getD k 0).testBit i)
  cases (z.lit.getD k 0).testBit i <;> rfl
theorem should_bit (s : St) (x t k i : Nat) : (shouldF s.digits ((x + t) % 10 ^ s.digits) k).testBit i = Sy69.should s x t k i := (has_bit _ _).symm
theorem should_lt (d n k : Nat) : shouldF d n k < 128 := by
  unfold shouldF
  have q : ∀ j, j < 10 → Sy69.DIGITS.getD j 0 < 128 := by decide
  exact q _ (Nat.mod_lt _ (by decide))

/-! ### rows and counts of the specification -/
theorem states_eq (s : St) (x k : Nat) {i : Nat} (hi : i < 7) : Sy69.states s x k i = (if (worksF s x k).testBit i = true then [0] else []) ++ ((if (darkF s k).testBit i = true then [1] else []) ++ (if (litF s k).testBit i = true then [2] else [])) := by
  unfold Sy69.states
  rw [works_bit s x k hi, dark_bit s x k hi, lit_bit s x k hi, show List.range 3 = [0, 1, 2] from rfl]
  simp only [List.filter_cons, List.filter_nil]
  cases Sy69.fits s x k i 0 <;> cases Sy69.fits s x k i 1 <;> cases Sy69.fits s x k i 2 <;> rfl
theorem states_any (s : St) (x k : Nat) {i : Nat} (hi : i < 7) (p : Nat → Bool) : (Sy69.states s x k i).any p = (((worksF s x k).testBit i && p 0) || ((darkF s k).testBit i && p 1) || ((litF s k).testBit i && p 2)) := by
  rw [states_eq s x k hi]
  cases (worksF s x k).testBit i <;> cases (darkF s k).testBit i <;> cases (litF s k).testBit i <;> simp [Bool.or_assoc]
theorem states_empty (s : St) (x k : Nat) {i : Nat} (hi : i < 7) : (!(Sy69.states s x k i).isEmpty) = ((worksF s x k ||| darkF s k) ||| litF s k).testBit i := by
  rw [states_eq s x k hi, Nat.testBit_or, Nat.testBit_or]
  cases (worksF s x k).testBit i <;> cases (darkF s k).testBit i <;> cases (litF s k).testBit i <;> rfl
theorem strokes_all (s : St) (p : Nat → Nat → Bool) : ((Sy69.strokes s).all fun q => p q.1 q.2) = (List.range s.digits).all fun k => (List.range 7).all fun i => p k i := by
  unfold Sy69.strokes
  rw [List.all_flatMap]
  congr 1
theorem all_congr {n : Nat} {p q : Nat → Bool} (h : ∀ k, k < n → p k = q k) : (List.range n).all p = (List.range n).all q := by
  rw [Bool.eq_iff_iff, List.all_eq_true, List.all_eq_true]
  exact ⟨fun g k hk => by rw [← h k (List.mem_range.mp hk)]; exact g k hk, fun g k hk => by rw [h k (List.mem_range.mp hk)]; exact g k hk⟩
theorem may_eq (s : St) (x : Nat) : mayB s x = Sy69.may s x := by
  unfold mayB Sy69.may
  rw [strokes_all s fun k i => !(Sy69.states s x k i).isEmpty]
  refine all_congr fun k _ => ?_
  have h1 := worksF_le s x k
  have h2 := darkF_le s k
  have h3 := litF_le s k
  rw [all127 (or_lt (or_lt (by omega) (by omega)) (by omega))]
  exact all_congr fun i hi => (states_empty s x k hi).symm
theorem masks_eq {s : St} {f : Nat → Nat → Bool} {g : Nat → Nat} (hb : ∀ k, k < s.digits → ∀ i, i < 7 → f k i = (g k).testBit i) (hg : ∀ k, k < s.digits → g k < 128) : Sy69.masks s f = Sy69.ints (tab s.digits g) := by
  unfold Sy69.masks Sy69.ints tab
  rw [List.map_map]
  refine List.map_congr_left fun k hk => ?_
  have hk := List.mem_range.mp hk
  show ((((List.range 7).filter fun i => f k i).map fun i => 2 ^ i).sum : Nat) = ((g k : Nat) : Int)
  rw [← mask_sum (g k) (hg k hk)]
  congr 3
  refine List.filter_congr fun i hi => hb k hk i (List.mem_range.mp hi)
def cnt (m : Nat) : Nat := ((List.range 7).filter fun i => m.testBit i).length
def cntAll (l : List Nat) : Nat := (l.map cnt).sum
theorem count_eq {s : St} {f : Nat → Nat → Bool} {g : Nat → Nat} (hb : ∀ k, k < s.digits → ∀ i, i < 7 → f k i = (g k).testBit i) : ((Sy69.strokes s).filter fun p => f p.1 p.2).length = cntAll (tab s.digits g) := by
  unfold Sy69.strokes cntAll tab
  rw [List.filter_flatMap, List.length_flatMap, List.map_map]
  congr 1
  refine List.map_congr_left fun k hk => ?_
  have hk := List.mem_range.mp hk
  show ((((List.range 7).map fun i => (k, i))).filter fun p => f p.1 p.2).length = cnt (g k)
  rw [List.filter_map, List.length_map]
  unfold cnt
  congr 1
  refine List.filter_congr fun i hi => hb k hk i (List.mem_range.mp hi)
end Bs
/-! The plain law: what the mirror reckons is what the specification answers. -/
namespace Bs
open Sy69 (St Sight)

/-- what a call answers, flat -/
def ans (s : St) (c : Sy69.Call) : List Int := Sy69Neutral.out (Sy69.step s c).2
/-- a list as it is answered -/
def told (l : List Int) : List Int := (l.length : Int) :: l
theorem ints_len (l : List Nat) : (Sy69.ints l).length = l.length := List.length_map _
theorem out1 (v : Int) (w : List Int) : Sy69Neutral.out ⟨v, [w]⟩ = [v] ++ told w := by
  show v :: (((w.length : Int) :: w) ++ []) = v :: ((w.length : Int) :: w)
  rw [List.append_nil]
theorem out2 (v : Int) (w u : List Int) : Sy69Neutral.out ⟨v, [w, u]⟩ = [v] ++ told w ++ told u := by
  show v :: (((w.length : Int) :: w) ++ (((u.length : Int) :: u) ++ [])) = (v :: ((w.length : Int) :: w)) ++ ((u.length : Int) :: u)
  rw [List.append_nil]
  rfl

/-! ### begins, sees, undo, may -/
theorem size_eq (s : St) : Sy69.size s = 10 ^ s.digits := rfl
theorem all_lt {s : St} {x : Nat} (h : x ∈ Sy69.all_ s) : x < 10 ^ s.digits := List.mem_range.mp (List.mem_filter.mp h).1
theorem all_may {s : St} {x : Nat} (h : x ∈ Sy69.all_ s) : Sy69.may s x = true := (List.mem_filter.mp h).2
theorem mem_all {s : St} {x : Nat} : x ∈ Sy69.all_ s ↔ x < 10 ^ s.digits ∧ Sy69.may s x = true := by
  show x ∈ List.filter _ (List.range _) ↔ _
  rw [List.mem_filter, List.mem_range]
  exact Iff.rfl
theorem all_len (s : St) : (Sy69.all_ s).length ≤ 10 ^ s.digits := by
  have h := List.length_filter_le (Sy69.may s) (List.range (Sy69.size s))
  rw [List.length_range] at h
  exact h
theorem pow_le {d : Nat} (h : d ≤ 3) : 10 ^ d ≤ 1000 := Nat.pow_le_pow_right (n := 10) (by decide) h
theorem pow_pos' (d : Nat) : 0 < 10 ^ d := Nat.pow_pos (by decide)
theorem ans_may (s : St) (k : Nat) : ans s (.may k) = [((Sy69.all_ s).length : Int)] ++ told (Sy69.pick (Sy69.all_ s) k) := out1 _ _
theorem pick_some {l : List Nat} {k x : Nat} (h : l[k]? = some x) : Sy69.pick l k = [(x : Int)] := by
  unfold Sy69.pick
  rw [h]
theorem pick_none {l : List Nat} {k : Nat} (h : l.length ≤ k) : Sy69.pick l k = [] := by
  unfold Sy69.pick
  rw [List.getElem?_eq_none h]
theorem pick_len (l : List Nat) (k : Nat) : (Sy69.pick l k).length ≤ 1 := by
  unfold Sy69.pick
  cases l[k]? with
  | none => exact Nat.zero_le _
  | some x => exact Nat.le_refl _
theorem step_bad {s : St} {d : Nat} {l : List Nat} (h : 10000 < d ∨ l.length ≠ s.digits ∨ ∃ m ∈ l, 127 < m) : Sy69.step s (.sees d l) = (s, Sy69.ok (-1)) := by
  show (if Sy69.DAYS < d ∨ l.length ≠ s.digits ∨ l.any (fun (m : Nat) => decide (127 < m)) = true then _ else _) = _
  rw [if_pos]
  rcases h with h | h | ⟨m, h1, h2⟩
  · exact .inl h
  · exact .inr (.inl h)
  · exact .inr (.inr (List.any_eq_true.mpr ⟨m, h1, decide_eq_true h2⟩))
theorem step_full {s : St} {d : Nat} {l : List Nat} (h1 : d ≤ 10000) (h2 : l.length = s.digits) (h3 : ∀ m ∈ l, m ≤ 127) (h : 8 ≤ s.sights.length) : Sy69.step s (.sees d l) = (s, Sy69.ok (-5)) := by
  show (if Sy69.DAYS < d ∨ l.length ≠ s.digits ∨ l.any (fun (m : Nat) => decide (127 < m)) = true then _ else if 8 ≤ s.sights.length then _ else _) = _
  rw [if_neg, if_pos h]
  rintro (q | q | q)
  · exact absurd (show 10000 < d from q) (by omega)
  · exact q h2
  · obtain ⟨m, m1, m2⟩ := List.any_eq_true.mp q
    have := of_decide_eq_true m2
    have := h3 m m1
    omega
def seen (s : St) (d : Nat) (l : List Nat) : St := { s with sights := s.sights ++ [⟨Sy69.now s + d, l⟩] }
theorem step_seen {s : St} {d : Nat} {l : List Nat} (h1 : d ≤ 10000) (h2 : l.length = s.digits) (h3 : ∀ m ∈ l, m ≤ 127) (h : s.sights.length < 8) : Sy69.step s (.sees d l) = (seen s d l, Sy69.ok ((Sy69.all_ (seen s d l)).length : Nat)) := by
  show (if Sy69.DAYS < d ∨ l.length ≠ s.digits ∨ l.any (fun (m : Nat) => decide (127 < m)) = true then _ else if 8 ≤ s.sights.length then _ else _) = _
  rw [if_neg, if_neg (by omega)]
  · rfl
  rintro (q | q | q)
  · exact absurd (show 10000 < d from q) (by omega)
  · exact q h2
  · obtain ⟨m, m1, m2⟩ := List.any_eq_true.mp q
    have := of_decide_eq_true m2
    have := h3 m m1
    omega
theorem wf_seen {s : St} {d : Nat} {l : List Nat} (w : Wf s) (h2 : l.length = s.digits) (h3 : ∀ m ∈ l, m ≤ 127) (h : s.sights.length < 8) : Wf (seen s d l) := by
  refine ⟨w.lo, w.hi, fun z hz => ?_, fun z hz => ?_, ?_⟩
  · rcases List.mem_append.mp hz with q | q
    · exact w.lit z q
    · obtain rfl := List.mem_singleton.mp q
      exact h2
  · rcases List.mem_append.mp hz with q | q
    · exact w.top z q
    · obtain rfl := List.mem_singleton.mp q
      exact h3
  · show (s.sights ++ [_]).length ≤ 8
    rw [List.length_append, List.length_singleton]
    omega
def undone (s : St) : St := { s with sights := s.sights.dropLast }
theorem step_undo0 {s : St} (h : s.sights = []) : Sy69.step s .undo = (s, Sy69.ok (-4)) := by
  show (if s.sights.isEmpty = true then _ else _) = _
  rw [h]
  rfl
theorem step_undo {s : St} (h : s.sights ≠ []) : Sy69.step s .undo = (undone s, Sy69.ok ((undone s).sights.length : Nat)) := by
  show (if s.sights.isEmpty = true then _ else _) = _
  rw [if_neg (fun z => h (List.isEmpty_iff.mp z))]
  rfl
theorem wf_undone {s : St} (w : Wf s) : Wf (undone s) := by
  refine ⟨w.lo, w.hi, fun z hz => w.lit z (List.dropLast_subset _ hz), fun z hz => w.top z (List.dropLast_subset _ hz), ?_⟩
  show s.sights.dropLast.length ≤ 8
  rw [List.length_dropLast]
  have := w.many
  omega
theorem wf_new {n : Nat} (h1 : 1 ≤ n) (h2 : n ≤ 3) : Wf ⟨n, []⟩ := ⟨h1, h2, fun z hz => (nomatch hz), fun z hz => (nomatch hz), Nat.zero_le _⟩
theorem step_begins {s : St} {n : Nat} (h1 : 1 ≤ n) (h2 : n ≤ 3) : Sy69.step s (.begins n) = (⟨n, []⟩, Sy69.ok ((10 ^ n : Nat) : Int)) := by
  show (if n < 1 ∨ 3 < n then _ else _) = _
  rw [if_neg (by omega)]
  rfl
theorem step_begins0 {s : St} {n : Nat} (h : ¬ (1 ≤ n ∧ n ≤ 3)) : Sy69.step s (.begins n) = (s, Sy69.ok (-1)) := by
  show (if n < 1 ∨ 3 < n then _ else _) = _
  rw [if_pos (by omega)]

/-! ### the fewest broken -/
def brokF (s : St) (x k : Nat) : Nat := 127 - worksF s x k
def brk (s : St) (x : Nat) : Nat := cntAll (tab s.digits (brokF s x))
theorem brok_bit (s : St) (x k : Nat) {i : Nat} (hi : i < 7) : (brokF s x k).testBit i = !Sy69.fits s x k i 0 := by
  unfold brokF
  rw [sub_xor (worksF_le s x k), not_bit hi, works_bit s x k hi]
theorem brok_lt (s : St) (x k : Nat) : brokF s x k < 128 := by
  unfold brokF
  omega
theorem broken_eq (s : St) (x : Nat) : Sy69.broken s x = brk s x := count_eq (s := s) (f := fun k i => !Sy69.fits s x k i 0) (g := brokF s x) fun k _ i hi => (brok_bit s x k hi).symm
theorem least_fold (f : Nat → Nat) : ∀ (l : List Nat) (n : Nat), ∃ m, l.foldl (fun (m : Option Nat) (x : Nat) => match m with
    | none => some (f x)
    | some n => some (min n (f x))) (some n) = some m ∧ m ≤ n ∧ (m = n ∨ ∃ x ∈ l, f x = m) ∧ ∀ x ∈ l, m ≤ f x
  | [], n => ⟨n, rfl, Nat.le_refl _, .inl rfl, fun x hx => (nomatch hx)⟩
  | y :: l, n => by
    obtain ⟨m, h1, h2, h3, h4⟩ := least_fold f l (min n (f y))
    refine ⟨m, h1, by omega, ?_, fun x hx => ?_⟩
    · rcases h3 with h3 | ⟨x, h5, h6⟩
      · by_cases c : n ≤ f y
        · left
          omega
        · right
          exact ⟨y, List.mem_cons_self, by omega⟩
      · exact .inr ⟨x, List.mem_cons_of_mem _ h5, h6⟩
    · rcases List.mem_cons.mp hx with e | hx
      · rw [e]
        omega
      · exact h4 x hx
/-- the least number, as a loop over the numbers finds it -/
structure Least (s : St) (m : Nat) : Prop where
  mem : ∃ x ∈ Sy69.all_ s, brk s x = m
  le : ∀ x ∈ Sy69.all_ s, m ≤ brk s x
theorem least_some {s : St} {m : Nat} (h : Least s m) : Sy69.least s = some m := by
  unfold Sy69.least
  obtain ⟨⟨x, hx, e⟩, hle⟩ := h
  cases hl : Sy69.all_ s with
  | nil =>
    rw [hl] at hx
    cases hx
  | cons y l =>
    rw [hl] at hx hle
    obtain ⟨m', h1, h2, h3, h4⟩ := least_fold (Sy69.broken s) l (Sy69.broken s y)
    rw [List.foldl_cons]
    refine h1.trans (congrArg some ?_)
    have a1 : m' ≤ m := by
      rw [← e, ← broken_eq]
      rcases List.mem_cons.mp hx with q | q
      · rw [q]
        exact h2
      · exact h4 x q
    have a2 : m ≤ m' := by
      rcases h3 with q | ⟨z, hz, q⟩
      · rw [q, broken_eq]
        exact hle y List.mem_cons_self
      · rw [← q, broken_eq]
        exact hle z (List.mem_cons_of_mem _ hz)
    omega
def likelyM (s : St) (m : Nat) : List Nat := (Sy69.all_ s).filter fun x => brk s x == m
theorem likely_eq {s : St} {m : Nat} (h : Least s m) : Sy69.likely s = likelyM s m := by
  unfold Sy69.likely likelyM
  rw [least_some h]
  refine List.filter_congr fun x _ => ?_
  rw [broken_eq, Bool.eq_iff_iff]
  show (some m == some (brk s x)) = true ↔ _
  rw [beq_iff_eq, beq_iff_eq]
  exact ⟨fun e => (Option.some.inj e).symm, fun e => congrArg some e.symm⟩
theorem ans_likely0 {s : St} (h : Sy69.all_ s = []) (k : Nat) : ans s (.likely k) = [-6] := by
  have e : Sy69.least s = none := by
    unfold Sy69.least
    rw [h]
    rfl
  show Sy69Neutral.out (match Sy69.least s with
    | none => Sy69.ok (-6)
    | some n => ⟨(n : Nat), [[((Sy69.likely s).length : Int)], Sy69.pick (Sy69.likely s) k]⟩) = _
  rw [e]
  rfl
theorem ans_likely {s : St} {m : Nat} (h : Least s m) (k : Nat) : ans s (.likely k) = [(m : Int)] ++ told [((likelyM s m).length : Int)] ++ told (Sy69.pick (likelyM s m) k) := by
  show Sy69Neutral.out (match Sy69.least s with
    | none => Sy69.ok (-6)
    | some n => ⟨(n : Nat), [[((Sy69.likely s).length : Int)], Sy69.pick (Sy69.likely s) k]⟩) = _
  rw [least_some h, likely_eq h]
  exact out2 _ _ _

/-! ### guess -/
theorem ans_guess0 {s : St} {x : Nat} (h : 10 ^ s.digits ≤ x) : ans s (.guess x) = [-2] := by
  show Sy69Neutral.out (if Sy69.size s ≤ x then _ else _) = _
  rw [if_pos (show Sy69.size s ≤ x from h)]
  rfl
theorem ans_guess1 {s : St} {x : Nat} (h : x < 10 ^ s.digits) (h2 : x ∉ Sy69.all_ s) : ans s (.guess x) = [-6] := by
  have e : Sy69.may s x = false := by
    cases q : Sy69.may s x with
    | false => rfl
    | true => exact absurd (mem_all.mpr ⟨h, q⟩) h2
  show Sy69Neutral.out (if Sy69.size s ≤ x then _ else if Sy69.may s x = false then _ else _) = _
  rw [if_neg (by rw [size_eq]; omega), if_pos e]
  rfl
theorem ans_guess {s : St} {x : Nat} (h : x ∈ Sy69.all_ s) : ans s (.guess x) = [(brk s x : Int)] ++ told (Sy69.ints (tab s.digits (brokF s x))) := by
  have e := all_may h
  have l := all_lt h
  show Sy69Neutral.out (if Sy69.size s ≤ x then _ else if Sy69.may s x = false then _ else _) = _
  rw [if_neg (by rw [size_eq]; omega), if_neg (by rw [e]; decide), out1, broken_eq, masks_eq (g := brokF s x) (fun k _ i hi => (brok_bit s x k hi).symm) fun k _ => brok_lt s x k]

/-! ### stroke -/
def unionM (s : St) (k i : Nat) : List Nat := (if ((Sy69.all_ s).any fun x => (worksF s x k).testBit i) = true then [0] else []) ++ ((if (darkF s k).testBit i = true then [1] else []) ++ (if (litF s k).testBit i = true then [2] else []))
theorem any_const {l : List Nat} (h : l ≠ []) (b : Bool) : (l.any fun _ => b) = b := by
  cases l with
  | nil => exact absurd rfl h
  | cons x r =>
    cases b with
    | true => rw [List.any_cons, Bool.true_or]
    | false =>
      rw [List.any_eq_false]
      intro x _
      decide
theorem union_eq {s : St} (h : Sy69.all_ s ≠ []) (k : Nat) {i : Nat} (hi : i < 7) : Sy69.union s (Sy69.all_ s) k i = unionM s k i := by
  unfold Sy69.union unionM
  have e0 : ((Sy69.all_ s).any fun x => Sy69.fits s x k i 0) = ((Sy69.all_ s).any fun x => (worksF s x k).testBit i) := by
    congr 1
    funext x
    exact (works_bit s x k hi).symm
  have e1 : ((Sy69.all_ s).any fun x => Sy69.fits s x k i 1) = (darkF s k).testBit i := by
    rw [← any_const h ((darkF s k).testBit i)]
    congr 1
    funext x
    exact (dark_bit s x k hi).symm
  have e2 : ((Sy69.all_ s).any fun x => Sy69.fits s x k i 2) = (litF s k).testBit i := by
    rw [← any_const h ((litF s k).testBit i)]
    congr 1
    funext x
    exact (lit_bit s x k hi).symm
  rw [show List.range 3 = [0, 1, 2] from rfl]
  simp only [List.filter_cons, List.filter_nil]
  rw [e0, e1, e2]
  cases ((Sy69.all_ s).any fun x => (worksF s x k).testBit i) <;> cases (darkF s k).testBit i <;> cases (litF s k).testBit i <;> rfl
theorem ans_stroke0 {s : St} {k i : Nat} (h : s.digits ≤ k ∨ 7 ≤ i) : ans s (.stroke k i) = [-2] := by
  show Sy69Neutral.out (if s.digits ≤ k ∨ 6 < i then _ else _) = _
  rw [if_pos (by omega)]
  rfl
theorem ans_stroke1 {s : St} {k i : Nat} (h : ¬ (s.digits ≤ k ∨ 7 ≤ i)) (h0 : Sy69.all_ s = []) : ans s (.stroke k i) = [-6] := by
  show Sy69Neutral.out (if s.digits ≤ k ∨ 6 < i then _ else if (Sy69.all_ s).isEmpty = true then _ else _) = _
  rw [if_neg (by omega), h0]
  rfl
theorem ans_stroke {s : St} {k i : Nat} (h : ¬ (s.digits ≤ k ∨ 7 ≤ i)) (h0 : Sy69.all_ s ≠ []) : ans s (.stroke k i) = [((unionM s k i).length : Int)] ++ told (Sy69.ints (unionM s k i)) := by
  show Sy69Neutral.out (if s.digits ≤ k ∨ 6 < i then _ else if (Sy69.all_ s).isEmpty = true then _ else _) = _
  rw [if_neg (by omega), if_neg (fun z => h0 (List.isEmpty_iff.mp z)), out1, union_eq h0 k (by omega)]

/-! ### sure -/
def sbF (s : St) (k : Nat) : Nat := (Sy69.all_ s).foldl (fun w x => w &&& (127 ^^^ worksF s x k)) 127
def swF (s : St) (k : Nat) : Nat := (Sy69.all_ s).foldl (fun w x => w &&& worksF s x k) (127 ^^^ (darkF s k ||| litF s k))
theorem sb_le (s : St) (k : Nat) : sbF s k ≤ 127 := fold_le (fun x => 127 ^^^ worksF s x k) (Sy69.all_ s) 127
theorem dl_lt (s : St) (k : Nat) : darkF s k ||| litF s k < 128 := or_lt (Nat.lt_succ_of_le (darkF_le s k)) (Nat.lt_succ_of_le (litF_le s k))
theorem sw_lt (s : St) (k : Nat) : swF s k < 128 := Nat.lt_of_le_of_lt (fold_le (fun x => worksF s x k) (Sy69.all_ s) _) (xor_lt (by decide) (dl_lt s k))
theorem contains0 (s : St) (k i : Nat) : (unionM s k i).contains 0 = (Sy69.all_ s).any fun x => (worksF s x k).testBit i := by
  unfold unionM
  cases ((Sy69.all_ s).any fun x => (worksF s x k).testBit i) <;> cases (darkF s k).testBit i <;> cases (litF s k).testBit i <;> rfl
theorem only0 (s : St) (k i : Nat) : (unionM s k i == [0]) = (((Sy69.all_ s).any fun x => (worksF s x k).testBit i) && (!(darkF s k).testBit i && !(litF s k).testBit i)) := by
  unfold unionM
  cases ((Sy69.all_ s).any fun x => (worksF s x k).testBit i) <;> cases (darkF s k).testBit i <;> cases (litF s k).testBit i <;> rfl
theorem sb_bit {s : St} (h : Sy69.all_ s ≠ []) (k : Nat) {i : Nat} (hi : i < 7) : (sbF s k).testBit i = !(Sy69.union s (Sy69.all_ s) k i).contains 0 := by
  rw [union_eq h k hi, contains0]
  unfold sbF
  rw [fold_bit, bit127 hi, Bool.true_and, ← Bool.not_not (List.all _ _), List.not_all_eq_any_not]
  congr 2
  funext x
  rw [not_bit hi, Bool.not_not]
/-- a stroke of a number that may be works, or was dark, or was lit -/
theorem may_bit {s : St} {x : Nat} (h : Sy69.may s x = true) {k i : Nat} (hk : k < s.digits) (hi : i < 7) : ((worksF s x k).testBit i || (darkF s k).testBit i || (litF s k).testBit i) = true := by
  rw [← may_eq] at h
  have q := List.all_eq_true.mp h k (List.mem_range.mpr hk)
  rw [← Nat.testBit_or, ← Nat.testBit_or, eq_of_beq q]
  exact bit127 hi
theorem sw_bit {s : St} (h : Sy69.all_ s ≠ []) {k : Nat} (hk : k < s.digits) {i : Nat} (hi : i < 7) : (swF s k).testBit i = (Sy69.union s (Sy69.all_ s) k i == [0]) := by
  rw [union_eq h k hi, only0]
  unfold swF
  rw [fold_bit, not_bit hi, Nat.testBit_or, Bool.not_or]
  cases hd : (darkF s k).testBit i with
  | true =>
    rw [Bool.not_true, Bool.false_and, Bool.false_and, Bool.and_false]
  | false =>
    cases hl : (litF s k).testBit i with
    | true =>
      rw [Bool.not_true, Bool.and_false, Bool.false_and, Bool.and_false]
    | false =>
      have q : ∀ x ∈ Sy69.all_ s, (worksF s x k).testBit i = true := fun x hx => by
        have z := may_bit (all_may hx) hk hi
        rw [hd, hl, Bool.or_false, Bool.or_false] at z
        exact z
      have q1 : ((Sy69.all_ s).all fun x => (worksF s x k).testBit i) = true := List.all_eq_true.mpr q
      have q2 : ((Sy69.all_ s).any fun x => (worksF s x k).testBit i) = true := by
        cases e : Sy69.all_ s with
        | nil => exact absurd e h
        | cons y r => exact List.any_eq_true.mpr ⟨y, List.mem_cons_self, q y (by rw [e]; exact List.mem_cons_self)⟩
      rw [q1, q2]
      rfl
theorem ans_sure0 {s : St} (h : Sy69.all_ s = []) : ans s .sure = [-6] := by
  show Sy69Neutral.out (if (Sy69.all_ s).isEmpty = true then _ else _) = _
  rw [h]
  rfl
theorem ans_sure {s : St} (h : Sy69.all_ s ≠ []) : ans s .sure = [(cntAll (tab s.digits (sbF s)) : Int)] ++ told (Sy69.ints (tab s.digits (sbF s))) ++ told (Sy69.ints (tab s.digits (swF s))) := by
  show Sy69Neutral.out (if (Sy69.all_ s).isEmpty = true then _ else _) = _
  rw [if_neg (fun z => h (List.isEmpty_iff.mp z)), out2, count_eq (f := fun k i => !(Sy69.union s (Sy69.all_ s) k i).contains 0) (g := sbF s) (fun k _ i hi => (sb_bit h k hi).symm),
    masks_eq (g := sbF s) (fun k _ i hi => (sb_bit h k hi).symm) (fun k _ => Nat.lt_succ_of_le (sb_le s k)), masks_eq (g := swF s) (fun k hk i hi => (sw_bit h hk hi).symm) fun k _ => sw_lt s k]

/-! ### next, apart -/
def mlF (s : St) (x t k : Nat) : Nat := litF s k ||| (worksF s x k &&& shouldF s.digits ((x + t) % 10 ^ s.digits) k)
def mdF (s : St) (x t k : Nat) : Nat := darkF s k ||| (worksF s x k &&& (127 ^^^ shouldF s.digits ((x + t) % 10 ^ s.digits) k))
theorem ml_lt (s : St) (x t k : Nat) : mlF s x t k < 128 := or_lt (Nat.lt_succ_of_le (litF_le s k)) (and_lt (Nat.lt_succ_of_le (worksF_le s x k)))
theorem md_lt (s : St) (x t k : Nat) : mdF s x t k < 128 := or_lt (Nat.lt_succ_of_le (darkF_le s k)) (and_lt (Nat.lt_succ_of_le (worksF_le s x k)))
theorem ml_bit (s : St) (x t k : Nat) {i : Nat} (hi : i < 7) : (mlF s x t k).testBit i = (Sy69.states s x k i).any fun q => Sy69.shows q (Sy69.should s x t k i) == true := by
  rw [states_any s x k hi]
  unfold mlF
  rw [Nat.testBit_or, Nat.testBit_and, should_bit]
  show _ = (((worksF s x k).testBit i && (Sy69.should s x t k i == true)) || ((darkF s k).testBit i && (false == true)) || ((litF s k).testBit i && (true == true)))
  cases (litF s k).testBit i <;> cases (worksF s x k).testBit i <;> cases (darkF s k).testBit i <;> cases Sy69.should s x t k i <;> rfl
theorem md_bit (s : St) (x t k : Nat) {i : Nat} (hi : i < 7) : (mdF s x t k).testBit i = (Sy69.states s x k i).any fun q => Sy69.shows q (Sy69.should s x t k i) == false := by
  rw [states_any s x k hi]
  unfold mdF
  rw [Nat.testBit_or, Nat.testBit_and, not_bit hi, should_bit]
  show _ = (((worksF s x k).testBit i && (Sy69.should s x t k i == false)) || ((darkF s k).testBit i && (false == false)) || ((litF s k).testBit i && (true == false)))
  cases (litF s k).testBit i <;> cases (worksF s x k).testBit i <;> cases (darkF s k).testBit i <;> cases Sy69.should s x t k i <;> rfl
def mlA (s : St) (t k : Nat) : Nat := (Sy69.all_ s).foldl (fun w x => w ||| mlF s x t k) 0
def mdA (s : St) (t k : Nat) : Nat := (Sy69.all_ s).foldl (fun w x => w ||| mdF s x t k) 0
theorem for_bit (g : Nat → Nat) (i : Nat) : ∀ (l : List Nat) (w : Nat), (l.foldl (fun w x => w ||| g x) w).testBit i = (w.testBit i || l.any fun x => (g x).testBit i)
  | [], w => by rw [List.foldl_nil, List.any_nil, Bool.or_false]
  | z :: zs, w => by rw [List.foldl_cons, for_bit g i zs, List.any_cons, Nat.testBit_or, Bool.or_assoc]
theorem for_lt (g : Nat → Nat) (h : ∀ x, g x < 128) : ∀ (l : List Nat) (w : Nat), w < 128 → l.foldl (fun w x => w ||| g x) w < 128
  | [], _, hw => hw
  | z :: zs, w, hw => for_lt g h zs (w ||| g z) (or_lt hw (h z))
theorem mlA_lt (s : St) (t k : Nat) : mlA s t k < 128 := for_lt (fun x => mlF s x t k) (fun x => ml_lt s x t k) _ 0 (by decide)
theorem mdA_lt (s : St) (t k : Nat) : mdA s t k < 128 := for_lt (fun x => mdF s x t k) (fun x => md_lt s x t k) _ 0 (by decide)
theorem mlA_bit (s : St) (t k : Nat) {i : Nat} (hi : i < 7) : (mlA s t k).testBit i = Sy69.mayShow s (Sy69.all_ s) t k i true := by
  unfold mlA Sy69.mayShow
  rw [for_bit, Nat.zero_testBit, Bool.false_or]
  congr 1
  funext x
  exact ml_bit s x t k hi
theorem mdA_bit (s : St) (t k : Nat) {i : Nat} (hi : i < 7) : (mdA s t k).testBit i = Sy69.mayShow s (Sy69.all_ s) t k i false := by
  unfold mdA Sy69.mayShow
  rw [for_bit, Nat.zero_testBit, Bool.false_or]
  congr 1
  funext x
  exact md_bit s x t k hi
theorem ans_next0 {s : St} {d : Nat} (h : 10000 < d) : ans s (.next d) = [-1] := by
  show Sy69Neutral.out (if Sy69.DAYS < d then _ else _) = _
  rw [if_pos (show Sy69.DAYS < d from h)]
  rfl
theorem ans_next1 {s : St} {d : Nat} (h : d ≤ 10000) (h0 : Sy69.all_ s = []) : ans s (.next d) = [-6] := by
  show Sy69Neutral.out (if Sy69.DAYS < d then _ else if (Sy69.all_ s).isEmpty = true then _ else _) = _
  rw [if_neg (show ¬ Sy69.DAYS < d from Nat.not_lt.mpr h), h0]
  rfl
theorem ans_next {s : St} {d : Nat} (h : d ≤ 10000) (h0 : Sy69.all_ s ≠ []) : ans s (.next d) = [(cntAll (tab s.digits fun k => mlA s (Sy69.now s + d) k &&& mdA s (Sy69.now s + d) k) : Int)] ++ told (Sy69.ints (tab s.digits fun k => 127 ^^^ mdA s (Sy69.now s + d) k)) ++ told (Sy69.ints (tab s.digits fun k => 127 ^^^ mlA s (Sy69.now s + d) k)) := by
  show Sy69Neutral.out (if Sy69.DAYS < d then _ else if (Sy69.all_ s).isEmpty = true then _ else _) = _
  rw [if_neg (show ¬ Sy69.DAYS < d from Nat.not_lt.mpr h), if_neg (fun z => h0 (List.isEmpty_iff.mp z)), out2,
    count_eq (f := fun k i => Sy69.mayShow s (Sy69.all_ s) (Sy69.now s + d) k i true && Sy69.mayShow s (Sy69.all_ s) (Sy69.now s + d) k i false) (g := fun k => mlA s (Sy69.now s + d) k &&& mdA s (Sy69.now s + d) k) (fun k _ i hi => by rw [Nat.testBit_and, mlA_bit s _ k hi, mdA_bit s _ k hi]),
    masks_eq (g := fun k => 127 ^^^ mdA s (Sy69.now s + d) k) (fun k _ i hi => by rw [not_bit hi, mdA_bit s _ k hi]) (fun k _ => xor_lt (by decide) (mdA_lt s _ k)),
    masks_eq (g := fun k => 127 ^^^ mlA s (Sy69.now s + d) k) (fun k _ i hi => by rw [not_bit hi, mlA_bit s _ k hi]) (fun k _ => xor_lt (by decide) (mlA_lt s _ k))]
/-- no sight of both, at this place -/
def clash (s : St) (x y t k : Nat) : Bool := (mlF s x t k &&& mlF s y t k) ||| (mdF s x t k &&& mdF s y t k) != 127
theorem any_shows (s : St) (x y t k : Nat) {i : Nat} (hi : i < 7) : ((Sy69.states s x k i).any fun (q : Nat) => (Sy69.states s y k i).any fun (r : Nat) => Sy69.shows q (Sy69.should s x t k i) == Sy69.shows r (Sy69.should s y t k i)) = ((mlF s x t k &&& mlF s y t k) ||| (mdF s x t k &&& mdF s y t k)).testBit i := by
  rw [Nat.testBit_or, Nat.testBit_and, Nat.testBit_and]
  rw [ml_bit s x t k hi, ml_bit s y t k hi, md_bit s x t k hi, md_bit s y t k hi]
  rw [Bool.eq_iff_iff]
  simp only [List.any_eq_true, Bool.or_eq_true, Bool.and_eq_true, beq_iff_eq]
  constructor
  · rintro ⟨q, hq, r, hr, e⟩
    cases c : Sy69.shows q (Sy69.should s x t k i) with
    | true => exact .inl ⟨⟨q, hq, c⟩, r, hr, by rw [← e, c]⟩
    | false => exact .inr ⟨⟨q, hq, c⟩, r, hr, by rw [← e, c]⟩
  · rintro (⟨⟨q, hq, c⟩, r, hr, e⟩ | ⟨⟨q, hq, c⟩, r, hr, e⟩)
    · exact ⟨q, hq, r, hr, by rw [c, e]⟩
    · exact ⟨q, hq, r, hr, by rw [c, e]⟩
theorem alike_eq (s : St) (x y t : Nat) : Sy69.alike s x y t = !((List.range s.digits).any (clash s x y t)) := by
  unfold Sy69.alike
  rw [strokes_all s fun k i => (Sy69.states s x k i).any fun (q : Nat) => (Sy69.states s y k i).any fun (r : Nat) => Sy69.shows q (Sy69.should s x t k i) == Sy69.shows r (Sy69.should s y t k i),
    List.not_any_eq_all_not]
  refine all_congr fun k _ => ?_
  show _ = !(!(((mlF s x t k &&& mlF s y t k) ||| (mdF s x t k &&& mdF s y t k)) == 127))
  rw [Bool.not_not, all127 (or_lt (and_lt (ml_lt s x t k)) (and_lt (md_lt s x t k)))]
  exact all_congr fun i hi => any_shows s x y t k hi
theorem ans_apart0 {s : St} {x y d : Nat} (h : 10 ^ s.digits ≤ x ∨ 10 ^ s.digits ≤ y) : ans s (.apart x y d) = [-2] := by
  show Sy69Neutral.out (if Sy69.size s ≤ x ∨ Sy69.size s ≤ y then _ else _) = _
  rw [if_pos (show Sy69.size s ≤ x ∨ Sy69.size s ≤ y from h)]
  rfl
theorem ans_apart1 {s : St} {x y d : Nat} (h : ¬ (10 ^ s.digits ≤ x ∨ 10 ^ s.digits ≤ y)) (h1 : 10000 < d ∨ x = y) : ans s (.apart x y d) = [-1] := by
  show Sy69Neutral.out (if Sy69.size s ≤ x ∨ Sy69.size s ≤ y then _ else if Sy69.DAYS < d ∨ x = y then _ else _) = _
  rw [if_neg (show ¬ (Sy69.size s ≤ x ∨ Sy69.size s ≤ y) from h), if_pos (show Sy69.DAYS < d ∨ x = y from h1)]
  rfl
theorem not_may {s : St} {x : Nat} (h : x < 10 ^ s.digits) (h2 : x ∉ Sy69.all_ s) : Sy69.may s x = false := by
  cases q : Sy69.may s x with
  | false => rfl
  | true => exact absurd (mem_all.mpr ⟨h, q⟩) h2
theorem ans_apart2 {s : St} {x y d : Nat} (h : ¬ (10 ^ s.digits ≤ x ∨ 10 ^ s.digits ≤ y)) (h1 : ¬ (10000 < d ∨ x = y)) (h2 : x ∉ Sy69.all_ s ∨ y ∉ Sy69.all_ s) : ans s (.apart x y d) = [-6] := by
  show Sy69Neutral.out (if Sy69.size s ≤ x ∨ Sy69.size s ≤ y then _ else if Sy69.DAYS < d ∨ x = y then _ else if Sy69.may s x = false ∨ Sy69.may s y = false then _ else _) = _
  rw [if_neg (show ¬ (Sy69.size s ≤ x ∨ Sy69.size s ≤ y) from h), if_neg (show ¬ (Sy69.DAYS < d ∨ x = y) from h1), if_pos]
  · rfl
  · rcases h2 with q | q
    · exact .inl (not_may (by omega) q)
    · exact .inr (not_may (by omega) q)
theorem ans_apart {s : St} {x y d : Nat} (h1 : ¬ (10000 < d ∨ x = y)) (hx : x ∈ Sy69.all_ s) (hy : y ∈ Sy69.all_ s) : ans s (.apart x y d) = [if (List.range s.digits).any (clash s x y (Sy69.now s + d)) = true then 1 else 0] := by
  have lx := all_lt hx
  have ly := all_lt hy
  show Sy69Neutral.out (if Sy69.size s ≤ x ∨ Sy69.size s ≤ y then _ else if Sy69.DAYS < d ∨ x = y then _ else if Sy69.may s x = false ∨ Sy69.may s y = false then _ else _) = _
  rw [if_neg (by rw [size_eq]; omega), if_neg (show ¬ (Sy69.DAYS < d ∨ x = y) from h1), if_neg (by rw [all_may hx, all_may hy]; decide), alike_eq]
  cases (List.range s.digits).any (clash s x y (Sy69.now s + d)) <;> rfl

/-! ### shown, state -/
theorem ans_shown0 {s : St} {x d : Nat} (h : 10 ^ s.digits ≤ x) : ans s (.shown x d) = [-2] := by
  show Sy69Neutral.out (if Sy69.size s ≤ x then _ else _) = _
  rw [if_pos (show Sy69.size s ≤ x from h)]
  rfl
theorem ans_shown1 {s : St} {x d : Nat} (h : x < 10 ^ s.digits) (h1 : 10000 < d) : ans s (.shown x d) = [-1] := by
  show Sy69Neutral.out (if Sy69.size s ≤ x then _ else if Sy69.DAYS < d then _ else _) = _
  rw [if_neg (by rw [size_eq]; omega), if_pos (show Sy69.DAYS < d from h1)]
  rfl
theorem ans_shown {s : St} {x d : Nat} (h : x < 10 ^ s.digits) (h1 : d ≤ 10000) : ans s (.shown x d) = [(((x + (Sy69.now s + d)) % 10 ^ s.digits : Nat) : Int)] ++ told (Sy69.ints (tab s.digits (shouldF s.digits ((x + (Sy69.now s + d)) % 10 ^ s.digits)))) := by
  show Sy69Neutral.out (if Sy69.size s ≤ x then _ else if Sy69.DAYS < d then _ else _) = _
  rw [if_neg (by rw [size_eq]; omega), if_neg (show ¬ Sy69.DAYS < d from Nat.not_lt.mpr h1), out1, masks_eq (g := shouldF s.digits ((x + (Sy69.now s + d)) % 10 ^ s.digits)) (fun k _ i hi => (should_bit s x _ k i).symm) fun k _ => should_lt _ _ _]
  rfl
def rowsOf (zs : List Sight) : List Int := Sy69.ints (zs.flatMap fun z => z.time :: z.lit)
theorem ans_state (s : St) : ans s .state = [(Sy69.now s : Int)] ++ told [(s.digits : Int)] ++ told (rowsOf s.sights) := out2 _ _ _

/-! ### a line of calls -/
def nats (l : List Nat) : List Int := l.map fun (n : Nat) => (n : Int)
/-- a call as it is handed in -/
def flat : Sy69.Call → List Int
  | .begins n => [0, (n : Int)]
  | .sees d l => [1, (d : Int), (l.length : Int)] ++ nats l
  | .undo => [2]
  | .may k => [3, (k : Int)]
  | .likely k => [4, (k : Int)]
  | .guess x => [5, (x : Int)]
  | .stroke k i => [6, (k : Int), (i : Int)]
  | .sure => [7]
  | .next d => [8, (d : Int)]
  | .apart x y d => [9, (x : Int), (y : Int), (d : Int)]
  | .shown x d => [10, (x : Int), (d : Int)]
  | .state => [11]
/-- no list of more than sixty -/
def fine : Sy69.Call → Prop
  | .sees _ l => l.length ≤ 60
  | _ => True
theorem natIn_inv {l : List Int} {n : Nat} {r : List Int} (h : Sy69Neutral.natIn l = some (n, r)) : l = (n : Int) :: r := by
  cases l with
  | nil => cases h
  | cons a l =>
    have h : (if 0 ≤ a ∧ a < 2 ^ 32 then some (a.toNat, l) else none) = some (n, r) := h
    by_cases c : 0 ≤ a ∧ a < 2 ^ 32
    · rw [if_pos c] at h
      obtain ⟨e1, e2⟩ := Prod.mk.inj (Option.some.inj h)
      rw [← e1, ← e2, Int.toNat_of_nonneg c.1]
    · rw [if_neg c] at h
      cases h
theorem many_inv : ∀ (k : Nat) (l : List Int) (xs : List Nat) (r : List Int), Sy69Neutral.many_ Sy69Neutral.natIn k l = some (xs, r) → l = nats xs ++ r ∧ xs.length = k
  | 0, l, xs, r, h => by
    obtain ⟨e1, e2⟩ := Prod.mk.inj (Option.some.inj (show some (([] : List Nat), l) = some (xs, r) from h))
    rw [← e1, ← e2]
    exact ⟨rfl, rfl⟩
  | k + 1, l, xs, r, h => by
    have h : (Sy69Neutral.natIn l).bind (fun x => (Sy69Neutral.many_ Sy69Neutral.natIn k x.2).map fun y => (x.1 :: y.1, y.2)) = some (xs, r) := h
    cases e : Sy69Neutral.natIn l with
    | none =>
      rw [e] at h
      cases h
    | some p =>
      obtain ⟨n, l1⟩ := p
      rw [e] at h
      have h : (Sy69Neutral.many_ Sy69Neutral.natIn k l1).map (fun y => (n :: y.1, y.2)) = some (xs, r) := h
      cases e2 : Sy69Neutral.many_ Sy69Neutral.natIn k l1 with
      | none =>
        rw [e2] at h
        cases h
      | some p =>
        obtain ⟨ys, l2⟩ := p
        rw [e2] at h
        obtain ⟨e3, e4⟩ := Prod.mk.inj (Option.some.inj h)
        obtain ⟨a1, a2⟩ := many_inv k l1 ys l2 e2
        have e3 : n :: ys = xs := e3
        have e4 : l2 = r := e4
        rw [← e3, ← e4, natIn_inv e, a1]
        exact ⟨rfl, by rw [List.length_cons, a2]⟩
theorem all_inv {A : Type} {x : Option (A × List Int)} {y : A} (h : Sy69Neutral.all_ x = some y) : x = some (y, []) := by
  cases x with
  | none => cases h
  | some p =>
    obtain ⟨a, l⟩ := p
    have h : (if l.isEmpty = true then some a else none) = some y := h
    cases l with
    | nil =>
      rw [if_pos (show ([] : List Int).isEmpty = true from rfl)] at h
      rw [Option.some.inj h]
    | cons b l =>
      rw [if_neg (by intro z; cases z)] at h
      cases h
theorem some_inv {k : Nat} {l : List Int} {xs : List Nat} (h : Sy69Neutral.all_ (Sy69Neutral.some_ k l) = some xs) : l = nats xs ∧ xs.length = k := by
  obtain ⟨a, b⟩ := many_inv k l xs [] (all_inv h)
  rw [List.append_nil] at a
  exact ⟨a, b⟩
theorem len1 {xs : List Nat} (h : xs.length = 1) : ∃ a, xs = [a] := by
  match xs, h with
  | [a], _ => exact ⟨a, rfl⟩
theorem len2 {xs : List Nat} (h : xs.length = 2) : ∃ a b, xs = [a, b] := by
  match xs, h with
  | [a, b], _ => exact ⟨a, b, rfl⟩
theorem len3 {xs : List Nat} (h : xs.length = 3) : ∃ a b c, xs = [a, b, c] := by
  match xs, h with
  | [a, b, c], _ => exact ⟨a, b, c, rfl⟩
theorem map_inv {α β : Type} {f : α → β} {x : Option α} {y : β} (h : x.map f = some y) : ∃ a, x = some a ∧ y = f a := by
  cases x with
  | none => cases h
  | some a => exact ⟨a, rfl, (Option.some.inj h).symm⟩
theorem call0 {l : List Int} {c x : Sy69.Call} (h : (Sy69Neutral.all_ (Sy69Neutral.some_ 0 l)).map (fun _ => c) = some x) : l = [] ∧ x = c := by
  obtain ⟨xs, h1, h2⟩ := map_inv h
  obtain ⟨a, b⟩ := some_inv h1
  have e : xs = [] := List.eq_nil_of_length_eq_zero b
  rw [a, e]
  exact ⟨rfl, h2⟩
theorem call1 {l : List Int} {f : Nat → Sy69.Call} {x : Sy69.Call} (h : (Sy69Neutral.all_ (Sy69Neutral.some_ 1 l)).map (fun y => f (Sy69Neutral.g y 0)) = some x) : ∃ n : Nat, l = [(n : Int)] ∧ x = f n := by
  obtain ⟨xs, h1, h2⟩ := map_inv h
  obtain ⟨a, b⟩ := some_inv h1
  obtain ⟨n, e⟩ := len1 b
  subst e
  exact ⟨n, a, h2⟩
theorem call2 {l : List Int} {f : Nat → Nat → Sy69.Call} {x : Sy69.Call} (h : (Sy69Neutral.all_ (Sy69Neutral.some_ 2 l)).map (fun y => f (Sy69Neutral.g y 0) (Sy69Neutral.g y 1)) = some x) : ∃ n m : Nat, l = [(n : Int), (m : Int)] ∧ x = f n m := by
  obtain ⟨xs, h1, h2⟩ := map_inv h
  obtain ⟨a, b⟩ := some_inv h1
  obtain ⟨n, m, e⟩ := len2 b
  subst e
  exact ⟨n, m, a, h2⟩
theorem callOf_inv {c : List Int} {x : Sy69.Call} (h : Sy69Neutral.callOf c = some x) : c = flat x ∧ fine x := by
  unfold Sy69Neutral.callOf at h
  split at h
  · obtain ⟨n, e1, rfl⟩ := call1 h
    rw [e1]
    exact ⟨rfl, trivial⟩
  · rename_i l
    cases e : Sy69Neutral.some_ 1 l with
    | none =>
      rw [e] at h
      cases h
    | some p =>
      obtain ⟨xs, r⟩ := p
      rw [e] at h
      obtain ⟨a, b⟩ := many_inv 1 l xs r e
      obtain ⟨n, rfl⟩ := len1 b
      have h : (Sy69Neutral.all_ (Sy69Neutral.rowIn r)).map (fun y => Sy69.Call.sees n y) = some x := h
      obtain ⟨ys, h1, rfl⟩ := map_inv h
      have h1 := all_inv h1
      cases r with
      | nil => cases h1
      | cons m r =>
        have h1 : (if 0 ≤ m ∧ m ≤ 60 then Sy69Neutral.many_ Sy69Neutral.natIn m.toNat r else none) = some (ys, []) := h1
        by_cases q : 0 ≤ m ∧ m ≤ 60
        · rw [if_pos q] at h1
          obtain ⟨a1, a2⟩ := many_inv _ r ys [] h1
          rw [a, a1, List.append_nil]
          refine ⟨?_, show ys.length ≤ 60 by omega⟩
          show (1 : Int) :: (n : Int) :: m :: nats ys = 1 :: (n : Int) :: (ys.length : Int) :: nats ys
          rw [a2, Int.toNat_of_nonneg q.1]
        · rw [if_neg q] at h1
          cases h1
  · obtain ⟨e1, rfl⟩ := call0 h
    rw [e1]
    exact ⟨rfl, trivial⟩
  · obtain ⟨n, e1, rfl⟩ := call1 h
    rw [e1]
    exact ⟨rfl, trivial⟩
  · obtain ⟨n, e1, rfl⟩ := call1 h
    rw [e1]
    exact ⟨rfl, trivial⟩
  · obtain ⟨n, e1, rfl⟩ := call1 h
    rw [e1]
    exact ⟨rfl, trivial⟩
  · obtain ⟨n, m, e1, rfl⟩ := call2 h
    rw [e1]
    exact ⟨rfl, trivial⟩
  · obtain ⟨e1, rfl⟩ := call0 h
    rw [e1]
    exact ⟨rfl, trivial⟩
  · obtain ⟨n, e1, rfl⟩ := call1 h
    rw [e1]
    exact ⟨rfl, trivial⟩
  · obtain ⟨xs, h1, rfl⟩ := map_inv h
    obtain ⟨a, b⟩ := some_inv h1
    obtain ⟨n, m, o, rfl⟩ := len3 b
    rw [a]
    exact ⟨rfl, trivial⟩
  · obtain ⟨n, m, e1, rfl⟩ := call2 h
    rw [e1]
    exact ⟨rfl, trivial⟩
  · obtain ⟨e1, rfl⟩ := call0 h
    rw [e1]
    exact ⟨rfl, trivial⟩
  · cases h
/-- what a line answers, from a state -/
def tell : St → List Sy69.Call → List Int
  | _, [] => []
  | s, x :: r => told (ans s x) ++ tell (Sy69.step s x).1 r
theorem whole_put {c : List (List Int)} (h : PyFlat.okCall PySy69.shape c) : PySy69.whole c = [PyFlat.put1 c] := by
  obtain ⟨p, a, xs, rfl, hs⟩ := h
  have q0 : ∀ {n k : Nat}, some (n, k) = some (a.length, xs.length) → a.length = n ∧ xs.length = k := fun h => by
    obtain ⟨e1, e2⟩ := Prod.mk.inj (Option.some.inj h)
    exact ⟨e1.symm, e2.symm⟩
  have nil2 : xs.length = 0 → xs = [] := List.eq_nil_of_length_eq_zero
  have nil1 : a.length = 0 → a = [] := List.eq_nil_of_length_eq_zero
  have l1 : a.length = 1 → ∃ u, a = [u] := fun h => by
    match a, h with
    | [u], _ => exact ⟨u, rfl⟩
  have l2 : a.length = 2 → ∃ u v, a = [u, v] := fun h => by
    match a, h with
    | [u, v], _ => exact ⟨u, v, rfl⟩
  have l3 : a.length = 3 → ∃ u v t, a = [u, v, t] := fun h => by
    match a, h with
    | [u, v, t], _ => exact ⟨u, v, t, rfl⟩
  have r1 : xs.length = 1 → ∃ u, xs = [u] := fun h => by
    match xs, h with
    | [u], _ => exact ⟨u, rfl⟩
  unfold PySy69.shape at hs
  split at hs
  · subst p
    obtain ⟨e1, e2⟩ := q0 hs
    obtain ⟨u, rfl⟩ := l1 e1
    rw [nil2 e2] <;> rfl
  split at hs
  · subst p
    obtain ⟨e1, e2⟩ := q0 hs
    obtain ⟨u, rfl⟩ := l1 e1
    obtain ⟨r, rfl⟩ := r1 e2
    show [(1 : Int) :: u :: (r.length : Int) :: r] = [1 :: u :: (((r.length : Int) :: r) ++ [])]
    rw [List.append_nil]
  split at hs
  · subst p
    obtain ⟨e1, e2⟩ := q0 hs
    rw [nil1 e1, nil2 e2] <;> rfl
  split at hs
  · subst p
    obtain ⟨e1, e2⟩ := q0 hs
    obtain ⟨u, rfl⟩ := l1 e1
    rw [nil2 e2] <;> rfl
  split at hs
  · subst p
    obtain ⟨e1, e2⟩ := q0 hs
    obtain ⟨u, rfl⟩ := l1 e1
    rw [nil2 e2] <;> rfl
  split at hs
  · subst p
    obtain ⟨e1, e2⟩ := q0 hs
    obtain ⟨u, rfl⟩ := l1 e1
    rw [nil2 e2] <;> rfl
  split at hs
  · subst p
    obtain ⟨e1, e2⟩ := q0 hs
    obtain ⟨u, v, rfl⟩ := l2 e1
    rw [nil2 e2] <;> rfl
  split at hs
  · subst p
    obtain ⟨e1, e2⟩ := q0 hs
    rw [nil1 e1, nil2 e2] <;> rfl
  split at hs
  · subst p
    obtain ⟨e1, e2⟩ := q0 hs
    obtain ⟨u, rfl⟩ := l1 e1
    rw [nil2 e2] <;> rfl
  split at hs
  · subst p
    obtain ⟨e1, e2⟩ := q0 hs
    obtain ⟨u, v, t, rfl⟩ := l3 e1
    rw [nil2 e2] <;> rfl
  split at hs
  · subst p
    obtain ⟨e1, e2⟩ := q0 hs
    obtain ⟨u, v, rfl⟩ := l2 e1
    rw [nil2 e2] <;> rfl
  split at hs
  · subst p
    obtain ⟨e1, e2⟩ := q0 hs
    rw [nil1 e1, nil2 e2] <;> rfl
  · cases hs
theorem line_of : ∀ (raw : List (List (List Int))) (s : St), (∀ c ∈ raw, PyFlat.okCall PySy69.shape c) → (((raw.map PySy69.whole).map fun c => c.headD []).all Sy69Neutral.asked1 = true) →
    ∃ xs : List Sy69.Call, PyFlat.put raw = (xs.map flat).flatten ∧ (∀ x ∈ xs, fine x) ∧ PyFlat.told (PyFlat.played (fun s c => Sy69Neutral.step s (c.headD [])) s (raw.map PySy69.whole)) = tell s xs
  | [], s, _, _ => ⟨[], rfl, fun x hx => (nomatch hx), rfl⟩
  | c :: raw, s, h1, h2 => by
    have w := whole_put (h1 c List.mem_cons_self)
    rw [List.map_cons, List.map_cons, List.all_cons, Bool.and_eq_true, w] at h2
    obtain ⟨a1, a2⟩ := h2
    have a1 : (Sy69Neutral.callOf (PyFlat.put1 c)).isSome = true := a1
    obtain ⟨x, hx⟩ := Option.isSome_iff_exists.mp a1
    obtain ⟨f1, f2⟩ := callOf_inv hx
    obtain ⟨xs, b1, b2, b3⟩ := line_of raw (Sy69.step s x).1 (fun d hd => h1 d (List.mem_cons_of_mem _ hd)) a2
    refine ⟨x :: xs, ?_, fun y hy => ?_, ?_⟩
    · show PyFlat.put1 c ++ PyFlat.put raw = flat x ++ (xs.map flat).flatten
      rw [b1, f1]
    · rcases List.mem_cons.mp hy with e | e
      · rw [e]
        exact f2
      · exact b2 y e
    · have e : Sy69Neutral.step s ((PySy69.whole c).headD []) = ((Sy69.step s x).1, ans s x) := by
        rw [w]
        show (match Sy69Neutral.callOf (PyFlat.put1 c) with
          | none => (s, [])
          | some x => ((Sy69.step s x).1, Sy69Neutral.out (Sy69.step s x).2)) = _
        rw [hx]
        rfl
      show PyFlat.told ((Sy69Neutral.step s ((PySy69.whole c).headD [])).2 :: PyFlat.played (fun s c => Sy69Neutral.step s (c.headD [])) (Sy69Neutral.step s ((PySy69.whole c).headD [])).1 (raw.map PySy69.whole)) = _
      rw [e]
      show told (ans s x) ++ PyFlat.told (PyFlat.played (fun s c => Sy69Neutral.step s (c.headD [])) (Sy69.step s x).1 (raw.map PySy69.whole)) = told (ans s x) ++ tell (Sy69.step s x).1 xs
      rw [b3]
/-- what is asked, and what is due, by calls -/
theorem line {l : List Int} (h : PySy69.answers_asked l = true) : ∃ xs : List Sy69.Call, l = (xs.map flat).flatten ∧ (∀ x ∈ xs, fine x) ∧ PySy69.answers l = tell Sy69.init xs ∧ (tell Sy69.init xs).length ≤ 10000000 := by
  unfold PySy69.answers_asked at h
  cases e : PyFlat.calls PySy69.shape l.length l with
  | none =>
    rw [e] at h
    cases h
  | some raw =>
    rw [e] at h
    simp only [Bool.and_eq_true] at h
    obtain ⟨⟨⟨⟨_, _⟩, _⟩, h3⟩, h4⟩ := h
    obtain ⟨p1, p2⟩ := PyFlat.put_calls _ _ _ e
    unfold Sy69Neutral.asked at h3
    rw [Bool.and_eq_true] at h3
    obtain ⟨xs, b1, b2, b3⟩ := line_of raw Sy69.init p2 h3.1
    have ea : PySy69.answers l = tell Sy69.init xs := by
      unfold PySy69.answers PySy69.calls
      rw [e]
      exact b3
    refine ⟨xs, p1.trans b1, b2, ea, ?_⟩
    rw [← ea]
    exact of_decide_eq_true h4
end Bs
/-! Words for the walk: callees in one piece, what evaluates to what. -/
namespace Bs
open PySem PySem.Spec PyProof.Rows L2 Evl

/-! ### callees -/
structure Callee (P : Program) (w : World) (K : PySem.W.Frag) (mg : Str → Option Value) (base : Heap) (x : Str) (k : Nat) (ps : List Str) (sp : Sp) : Prop where
  ex : ∃ (f : Addr) (fd : FuncData), FnOk P w K mg base CX0 k f fd ps sp ∧ mg x = some (.ref f) ∧ PySem.W.keepIn K (.ref f) = true ∧ Binds K fd ps []
structure MethC (P : Program) (w : World) (K : PySem.W.Frag) (mg : Str → Option Value) (base : Heap) (C : Addr) (m : Str) (k : Nat) (ps : List Str) (sp : Sp) : Prop where
  ex : ∃ (f : Addr) (fd : FuncData), FnOk P w K mg base CX0 k f fd ps sp ∧ Meth K C m f ∧ Binds K fd ps []
structure MakeC (P : Program) (w : World) (K : PySem.W.Frag) (mg : Str → Option Value) (base : Heap) (x : Str) (C : Addr) (k : Nat) (ps : List Str) (sp : Sp) : Prop where
  ex : ∃ (f : Addr) (fd : FuncData), Mk K C f ∧ FnOk P w K mg base CX0 k f fd ps sp ∧ mg x = some (.ref C) ∧ Binds K fd ps []
section
variable {X : Cx} {k : Nat} {C : Addr} {ps : List Str} {sp : Sp} {x m : Str} {p pos apos : Pos} {e o : Expr} {es : List Expr} {ta : TE} {t : TA}
theorem pe_cal (c : Callee X.prog X.w X.K X.mg X.base x k ps sp) (hr : Room k X.A) (hg : Gl X x) (ha : PA X (e :: es) t) (hdb : (x == ("__debug__" : Str)) = false := by decide)
    (he : starEach (e :: es) X.env = (false, eval e X.env) :: starEach es X.env := by rfl) (hpl : (backTo pos (starEach es X.env)).any (·.1) = false := by rfl) : PE X (.Call (.Name x p) (e :: es) [] pos) (tCall sp [] E0 t) := by
  obtain ⟨f, fd, F, hm, hk, hb⟩ := c.ex
  exact pe_call F hr hg hm hk hb .nil pass0 ha hdb he hpl
theorem pe_mtc {pl : Sem Bool} (he : PE X o ta) (cl : Cls X.K C) (c : MethC X.prog X.w X.K X.mg X.base C m k ps sp) (hr : Room k X.A) (ha : PA X (e :: es) t)
    (hst : starEach (e :: es) X.env = (false, eval e X.env) :: starEach es X.env := by rfl) (hpl : (backTo pos (starEach es X.env)).any (·.1) = false := by rfl)
    (ht : eval (.Call (.Attribute o m apos) (e :: es) [] pos) X.env = (do
      let ov ← eval o X.env
      standAt apos.atName
      let (f, first) ← holding [ov] (getMethod ov m pl)
      callWith pos f first (backTo pos (starEach (e :: es) X.env)) (backToKw pos (keywordEach [] X.env))) := by rfl) : PE X (.Call (.Attribute o m apos) (e :: es) [] pos) (tMeth C m sp [] E0 ta t) := by
  obtain ⟨f, fd, F, hm, hb⟩ := c.ex
  exact pe_meth he cl hm F hr hb .nil pass0 ha hst hpl ht
theorem pe_mtc0 {pl : Sem Bool} (he : PE X o ta) (cl : Cls X.K C) (c : MethC X.prog X.w X.K X.mg X.base C m k ps sp) (hr : Room k X.A)
    (ht : eval (.Call (.Attribute o m apos) [] [] pos) X.env = (do
      let ov ← eval o X.env
      standAt apos.atName
      let (f, first) ← holding [ov] (getMethod ov m pl)
      callWith pos f first (backTo pos (starEach [] X.env)) (backToKw pos (keywordEach [] X.env))) := by rfl) : PE X (.Call (.Attribute o m apos) [] [] pos) (tMeth C m sp [] E0 ta tNil) := by
  obtain ⟨f, fd, F, hm, hb⟩ := c.ex
  exact pe_meth0 he cl hm F hr hb .nil pass0 ht
theorem pe_mkc (c : MakeC X.prog X.w X.K X.mg X.base x C k ps sp) (hr : Room (k + 1) X.A) (hg : Gl X x) (ha : PA X (e :: es) t) (hdb : (x == ("__debug__" : Str)) = false := by decide)
    (he : starEach (e :: es) X.env = (false, eval e X.env) :: starEach es X.env := by rfl) (hpl : (backTo pos (starEach es X.env)).any (·.1) = false := by rfl) : PE X (.Call (.Name x p) (e :: es) [] pos) (tMake C sp [] E0 t) := by
  obtain ⟨f, fd, M, F, hm, hb⟩ := c.ex
  exact pe_make M F hr hg hm hb .nil pass0 ha hdb he hpl
/-- a whole number of the module -/
theorem pe_gi {i : Int} (hg : Gl X x) (h : ∃ t, X.mg x = some (.int i t)) (hd : (x == ("__debug__" : Str)) = false := by decide) : PE X (.Name x pos) (tC (.int i)) := by
  obtain ⟨t, h⟩ := h
  exact pe_glob hg h ⟨t, rfl⟩ hd
/-- the written part told apart from the context (within a comprehension's block) -/
theorem pe_fldK (K : PySem.W.Frag) (hK : X.K = K) {f : Str} (he : PE X e ta) (hb : attributeBase e f X.env (eval e X.env) = eval e X.env) : PE X (.Attribute e f pos) (tFld K ta f) := by
  subst hK
  exact pe_fld he hb
theorem ix_listK (K : PySem.W.Frag) (hK : X.K = K) : IxR X (rIxL K) := by
  subst hK
  exact ix_list
theorem ix_tupK (K : PySem.W.Frag) (hK : X.K = K) : IxR X (rIxT K) := by
  subst hK
  exact ix_tup
end

/-! ### values -/
def vN (l : List Nat) : List V := l.map fun (n : Nat) => V.int (n : Int)
def vI (l : List Int) : List V := l.map V.int
def vR (l : List Addr) : List V := l.map V.ref
theorem vN_ints (l : List Nat) : vI (Sy69.ints l) = vN l := by
  unfold vI Sy69.ints vN
  rw [List.map_map]
  rfl
theorem vN_len (l : List Nat) : (vN l).length = l.length := List.length_map _
theorem vI_len (l : List Int) : (vI l).length = l.length := List.length_map _
theorem vR_len (l : List Addr) : (vR l).length = l.length := List.length_map _
theorem vN_get {l : List Nat} {k n : Nat} (h : l[k]? = some n) : (vN l)[k]? = some (.int (n : Int)) := by
  unfold vN
  rw [List.getElem?_map, h]
  rfl
theorem vN_tab {d : Nat} {f : Nat → Nat} {k : Nat} (h : k < d) : (vN (tab d f))[k]? = some (.int (f k : Int)) := vN_get (tab_get h)
theorem at_tab {d : Nat} {f : Nat → Nat} {k : Nat} (h : k < d) : atI (vN (tab d f)) ((k : Nat) : Int) = some (.int (f k : Int)) := atI_nat (vN_tab h)
theorem at_lit {l : List Nat} {k : Nat} (h : k < l.length) : atI (vN l) ((k : Nat) : Int) = some (.int (l.getD k 0 : Int)) := by
  refine atI_nat (vN_get ?_)
  rw [List.getD_eq_getElem?_getD, List.getElem?_eq_getElem h]
  rfl
theorem given_all (n : Nat) (v : Nat → V) : given n (fun _ => true) v = (List.range n).map v := by
  unfold given
  rw [List.filter_eq_self.mpr (fun _ _ => rfl)]
theorem given_tab (n : Nat) (f : Nat → Nat) : given n (fun _ => true) (fun i => V.int (f i : Int)) = vN (tab n f) := by
  rw [given_all]
  unfold vN tab
  rw [List.map_map]
  rfl
theorem lk_hit {k : Str} {v : V} {r : List (Str × V)} : List.lookup k ((k, v) :: r) = some v := by
  have e : (k == k) = true := beq_self_eq_true k
  simp only [List.lookup, e]
theorem lk_skip {k g : Str} {v : V} {r : List (Str × V)} (h : (k == g) = false) : List.lookup k ((g, v) :: r) = List.lookup k r := by
  simp only [List.lookup, h]
theorem put_hit {f : Str} {v x : V} {r : List (Str × V)} : putF f v ((f, x) :: r) = (f, v) :: r := if_pos rfl
theorem put_skip {f g : Str} {v x : V} {r : List (Str × V)} (h : ¬ g = f) : putF f v ((g, x) :: r) = (g, x) :: putF f v r := if_neg h

/-! ### bits of whole numbers -/
theorem i_and (a b : Nat) : Builtin.bitAnd (a : Int) (b : Int) = ((a &&& b : Nat) : Int) := PySem.W.os_band a b
theorem i_xor (a b : Nat) : Builtin.bitXor (a : Int) (b : Int) = ((a ^^^ b : Nat) : Int) := by
  rw [Bits.bitXor_pp (Int.natCast_nonneg a) (Int.natCast_nonneg b), Int.toNat_natCast, Int.toNat_natCast]
theorem i_or (a b : Nat) : Builtin.bitOr (a : Int) (b : Int) = ((a ||| b : Nat) : Int) := by
  rw [Bits.bitOr_pp (Int.natCast_nonneg a) (Int.natCast_nonneg b), Int.toNat_natCast, Int.toNat_natCast]
theorem i_shr (a b : Nat) : ((a : Int) / 2 ^ ((b : Int)).toNat) = ((a / 2 ^ b : Nat) : Int) := by
  rw [Int.toNat_natCast]
  simp
theorem i_bit (m i : Nat) : decide (V.int (((m / 2 ^ i) &&& 1 : Nat) : Int) = V.int 1) = m.testBit i := by
  rw [dec_int, Nat.and_one_is_mod, Nat.testBit_eq_decide_div_mod_eq]
  by_cases h : m / 2 ^ i % 2 = 1
  · rw [h, decide_eq_true rfl]
    rfl
  · rw [decide_eq_false h]
    exact beq_eq_false_iff_ne.mpr fun e => h (by omega)

/-! ### what evaluates to what, further -/
/-- to some value with a fact of the heap behind it -/
def EvP (te : TE) (σ : L2.St) (H : Hp) (P : V → Hp → Prop) : Prop := ∀ H1, Ex H H1 → ∀ Q : VK, (∀ v H2, Ex H1 H2 → P v H2 → Q v H2) → te σ H1 Q
def SpP (sp : Sp) (vs : List V) (H : Hp) (P : V → Hp → Prop) : Prop := ∀ H1, Ex H H1 → ∀ Q : VK, (∀ v H2, Ex H1 H2 → P v H2 → Q v H2) → ∀ E : XK, sp vs H1 Q E
def RetP (P : V → Hp → Prop) (H : Hp) (Q : VK) : Prop := ∀ v H2, Ex H H2 → P v H2 → Q v H2
section
variable {K : PySem.W.Frag} {σ : L2.St} {H H' : Hp} {ta tb te tx : TE} {t u : TT} {x y z v : V} {r : R2} {D : Ends} {tz tu tw : TS}
theorem ev_fld {a C dx : Addr} {fs : List (Str × V)} {f : Str} (h : Ev ta σ H (.ref a)) (ho : H a = some (.ins C dx fs)) (hc : Cls K C) (hn : NoAttr K C f) (hl : fs.lookup f = some v) : Ev (tFld K ta f) σ H v := fun H1 e Q q =>
  h H1 e _ fun H2 e2 => ⟨a, C, dx, fs, v, rfl, e2 a _ (e a _ ho), hc, hn, hl, q H2 e2⟩
theorem ev_meth {a C dx : Addr} {fs : List (Str × V)} {m : Str} {sp : Sp} {dvs vs : List V} {E : XK} {tr : TA} (h : Ev ta σ H (.ref a)) (ho : H a = some (.ins C dx fs)) (hl : fs.lookup m = none) (hA : EvA tr σ H vs) (hs : SpV sp (.ref a :: (vs ++ dvs)) H z) : Ev (tMeth C m sp dvs E ta tr) σ H z := fun H1 e Q q =>
  h H1 e _ fun H2 e2 => ⟨a, dx, fs, rfl, e2 a _ (e a _ ho), hl, hA H2 (e.trans e2) _ fun H3 e3 => hs H3 ((e.trans e2).trans e3) Q (fun H4 e4 => q H4 ((e2.trans e3).trans e4)) E⟩
theorem el_meth {a C dx : Addr} {fs : List (Str × V)} {m : Str} {sp : Sp} {dvs vs xs : List V} {E : XK} {tr : TA} (h : Ev ta σ H (.ref a)) (ho : H a = some (.ins C dx fs)) (hl : fs.lookup m = none) (hA : EvA tr σ H vs) (hs : SpL sp (.ref a :: (vs ++ dvs)) H xs) : EvL (tMeth C m sp dvs E ta tr) σ H xs := fun H1 e Q q =>
  h H1 e _ fun H2 e2 => ⟨a, dx, fs, rfl, e2 a _ (e a _ ho), hl, hA H2 (e.trans e2) _ fun H3 e3 => hs H3 ((e.trans e2).trans e3) Q (fun p H4 hp e4 h4 => q p H4 (fresh_back (e2.trans e3) hp) ((e2.trans e3).trans e4) h4) E⟩
theorem ep_meth {a C dx : Addr} {fs : List (Str × V)} {m : Str} {sp : Sp} {dvs vs : List V} {P : V → Hp → Prop} {E : XK} {tr : TA} (h : Ev ta σ H (.ref a)) (ho : H a = some (.ins C dx fs)) (hl : fs.lookup m = none) (hA : EvA tr σ H vs) (hs : SpP sp (.ref a :: (vs ++ dvs)) H P) : EvP (tMeth C m sp dvs E ta tr) σ H P := fun H1 e Q q =>
  h H1 e _ fun H2 e2 => ⟨a, dx, fs, rfl, e2 a _ (e a _ ho), hl, hA H2 (e.trans e2) _ fun H3 e3 => hs H3 ((e.trans e2).trans e3) Q (fun v H4 e4 h4 => q v H4 ((e2.trans e3).trans e4) h4) E⟩
/-- list + list: two new ones; a new one and one that stands; one that stands and a new one -/
theorem el_cat {xs ys : List V} (ha : EvL ta σ H xs) (hb : EvL tb σ H ys) (hz : xs.length + ys.length ≤ 100000) : EvL (tOp rCat ta tb) σ H (xs ++ ys) := fun H1 e Q k =>
  ha H1 e _ fun p H2 hp e2 h2 => hb H2 (e.trans e2) _ fun q H3 hq e3 h3 => ⟨p, q, xs, ys, rfl, rfl, e3 p _ h2, h3, sz_of hz, fun l hl => k l _ (fresh_back (e2.trans e3) hl) ((e2.trans e3).trans (Ex.new hl)) upd_same⟩
theorem el_catV {xs ys : List V} {b : Addr} (ha : EvL ta σ H xs) (hb : Ev tb σ H (.ref b)) (hB : H b = some (.lst ys)) (hz : xs.length + ys.length ≤ 100000) : EvL (tOp rCat ta tb) σ H (xs ++ ys) := fun H1 e Q k =>
  ha H1 e _ fun p H2 hp e2 h2 => hb H2 (e.trans e2) _ fun H3 e3 => ⟨p, b, xs, ys, rfl, rfl, e3 p _ h2, e3 b _ (e2 b _ (e b _ hB)), sz_of hz, fun l hl => k l _ (fresh_back (e2.trans e3) hl) ((e2.trans e3).trans (Ex.new hl)) upd_same⟩
/-- [e] * n -/
theorem el_rep {xs : List V} {n : Int} (ha : EvL ta σ H xs) (hb : Ev tb σ H (.int n)) (h0 : 0 ≤ n) (h1 : n ≤ 100000) (hz : xs.length * n.toNat ≤ 100000) : EvL (tOp rRep ta tb) σ H (List.replicate n.toNat xs).flatten := fun H1 e Q k =>
  ha H1 e _ fun p H2 hp e2 h2 => hb H2 (e.trans e2) _ fun H3 e3 => ⟨p, n, xs, rfl, rfl, e3 p _ h2, by omega, by omega, sz_of hz, fun l hl => k l _ (fresh_back (e2.trans e3) hl) ((e2.trans e3).trans (Ex.new hl)) upd_same⟩
/-- a call whose one argument is a new list -/
theorem ev_callL {sp : Sp} {xs : List V} {E : XK} (h : EvL te σ H xs) (hs : ∀ p H1, Ex H H1 → H1 p = some (.lst xs) → SpV sp [.ref p] H1 z) : Ev (tCall sp [] E (tCons te tNil)) σ H z := fun H1 e Q q =>
  h H1 e _ fun p H2 hp e2 h2 => hs p H2 (e.trans e2) h2 H2 (Ex.refl H2) Q (fun H3 e3 => q H3 (e2.trans e3)) E
theorem el_callL {sp : Sp} {xs ys : List V} {E : XK} (h : EvL te σ H xs) (hs : ∀ p H1, Ex H H1 → H1 p = some (.lst xs) → SpL sp [.ref p] H1 ys) : EvL (tCall sp [] E (tCons te tNil)) σ H ys := fun H1 e Q q =>
  h H1 e _ fun p H2 hp e2 h2 => hs p H2 (e.trans e2) h2 H2 (Ex.refl H2) Q (fun l H3 hl e3 h3 => q l H3 (fresh_back e2 hl) (e2.trans e3) h3) E
theorem ev_cbL {r : List V → Hp → VK → Prop} {xs : List V} (h : EvL te σ H xs) (hr : ∀ p H1, Ex H H1 → H1 p = some (.lst xs) → RC r [.ref p] H1 z) : Ev (tCB r (tCons te tNil)) σ H z := fun H1 e Q q =>
  h H1 e _ fun p H2 hp e2 h2 => hr p H2 (e.trans e2) h2 H2 (Ex.refl H2) Q fun H3 e3 => q H3 (e2.trans e3)
theorem et_yes : EvT tYes σ H true := fun H1 _ _ q => q H1 (Ex.refl H1)
theorem et_tru {b : Bool} (h : Ev ta σ H x) (ht : ∀ H1, Ex H H1 → TruV K x H1 b) : EvT (fun σ H Q => ta σ H fun x H' => ∃ k, TruV K x H' k ∧ Q k H') σ H b := fun H1 e _ q =>
  h H1 e _ fun H2 e2 => ⟨b, ht H2 (e.trans e2), q H2 e2⟩
theorem tru_list {p : Addr} {xs : List V} {b : Bool} (h : SqL K H p xs) (e : b = !xs.isEmpty) : TruV K (.ref p) H b := .inl ⟨xs, h, e⟩
theorem EvP.l {xs : List V} (h : EvL te σ H xs) : EvP te σ H (fun v H' => ∃ p, v = .ref p ∧ H' p = some (.lst xs)) := fun H1 e Q q => h H1 e Q fun p H2 _ e2 h2 => q _ H2 e2 ⟨p, rfl, h2⟩
/-- from a promise that does not hang on more than what stands -/
theorem spv_of {sp : Sp} {vs : List V} (h : ∀ H1, Ex H H1 → ∀ (Q : VK) (E : XK), RetV z H1 Q → sp vs H1 Q E) : SpV sp vs H z := fun H1 e Q q E => h H1 e Q E q
theorem spl_of {sp : Sp} {vs xs : List V} (h : ∀ H1, Ex H H1 → ∀ (Q : VK) (E : XK), RetL xs H1 Q → sp vs H1 Q E) : SpL sp vs H xs := fun H1 e Q q E => h H1 e Q E q
theorem spp_of {sp : Sp} {vs : List V} {P : V → Hp → Prop} (h : ∀ H1, Ex H H1 → ∀ (Q : VK) (E : XK), RetP P H1 Q → sp vs H1 Q E) : SpP sp vs H P := fun H1 e Q q E => h H1 e Q E q
/-- statements -/
theorem q_asgP {i : Nat} {P : V → Hp → Prop} (h : EvP te σ H P) (k : ∀ v H1, Ex H H1 → P v H1 → tz D (σ.set i (some v)) H1) : tSeq (tAsg te (gName i)) tz D σ H := h H (Ex.refl H) _ k
theorem s_retP {P : V → Hp → Prop} (h : EvP te σ H P) (k : ∀ v H1, Ex H H1 → P v H1 → D.rt v H1) : tRet te D σ H := h H (Ex.refl H) _ k
end
end Bs
/-! The text by places: each def's statement, its names by slot. -/
namespace Bs
open PySem PySem.Spec PyProof.Rows L2 Evl
def topS (i : Nat) : Stmt := PySem.Challenge.pw_brokenstrokes_s01_answers.main.body.getD i (.Pass ⟨0, 0, 0, 0⟩)
abbrev st_count_of : Stmt := topS 4
abbrev nn_count_of : List Str := ["strokes", "i"]
theorem sc_count_of : FnScope nn_count_of ["strokes"] (defScope st_count_of) := ⟨rfl, rfl, rfl, by decide +kernel, rfl, by decide +kernel, by decide +kernel⟩
abbrev st_count_of_all : Stmt := topS 5
abbrev nn_count_of_all : List Str := ["places", "strokes"]
theorem sc_count_of_all : FnScope nn_count_of_all ["places"] (defScope st_count_of_all) := ⟨rfl, rfl, rfl, by decide +kernel, rfl, by decide +kernel, by decide +kernel⟩
abbrev st_numbers_of : Stmt := topS 6
abbrev nn_numbers_of : List Str := ["digits", "total", "i"]
theorem sc_numbers_of : FnScope nn_numbers_of ["digits"] (defScope st_numbers_of) := ⟨rfl, rfl, rfl, by decide +kernel, rfl, by decide +kernel, by decide +kernel⟩
abbrev st_should_light : Stmt := topS 7
abbrev nn_should_light : List Str := ["number", "digits", "places", "i"]
theorem sc_should_light : FnScope nn_should_light ["number", "digits"] (defScope st_should_light) := ⟨rfl, rfl, rfl, by decide +kernel, rfl, by decide +kernel, by decide +kernel⟩
abbrev st_Sight_init : Stmt := inClass (topS 9) 0
abbrev nn_Sight_init : List Str := ["self", "time", "lit"]
theorem sc_Sight_init : FnScope nn_Sight_init ["self", "time", "lit"] (defScope st_Sight_init) := ⟨rfl, rfl, rfl, by decide +kernel, rfl, by decide +kernel, by decide +kernel⟩
abbrev st_Beginning_init : Stmt := inClass (topS 10) 0
abbrev nn_Beginning_init : List Str := ["self", "number", "works"]
theorem sc_Beginning_init : FnScope nn_Beginning_init ["self", "number", "works"] (defScope st_Beginning_init) := ⟨rfl, rfl, rfl, by decide +kernel, rfl, by decide +kernel, by decide +kernel⟩
abbrev st_Beginning_broken : Stmt := inClass (topS 10) 1
abbrev nn_Beginning_broken : List Str := ["self", "strokes"]
theorem sc_Beginning_broken : FnScope nn_Beginning_broken ["self"] (defScope st_Beginning_broken) := ⟨rfl, rfl, rfl, by decide +kernel, rfl, by decide +kernel, by decide +kernel⟩
abbrev st_working : Stmt := topS 11
abbrev nn_working : List Str := ["number", "digits", "sights", "works", "sight", "should", "i"]
theorem sc_working : FnScope nn_working ["number", "digits", "sights"] (defScope st_working) := ⟨rfl, rfl, rfl, by decide +kernel, rfl, by decide +kernel, by decide +kernel⟩
abbrev st_Evidence_init : Stmt := inClass (topS 12) 0
abbrev nn_Evidence_init : List Str := ["self", "digits", "sights", "sight", "number", "works", "i"]
theorem sc_Evidence_init : FnScope nn_Evidence_init ["self", "digits", "sights"] (defScope st_Evidence_init) := ⟨rfl, rfl, rfl, by decide +kernel, rfl, by decide +kernel, by decide +kernel⟩
abbrev st_Evidence_explains : Stmt := inClass (topS 12) 1
abbrev nn_Evidence_explains : List Str := ["self", "works", "i"]
theorem sc_Evidence_explains : FnScope nn_Evidence_explains ["self", "works"] (defScope st_Evidence_explains) := ⟨rfl, rfl, rfl, by decide +kernel, rfl, by decide +kernel, by decide +kernel⟩
abbrev st_Evidence_beginning : Stmt := inClass (topS 12) 2
abbrev nn_Evidence_beginning : List Str := ["self", "number", "found"]
theorem sc_Evidence_beginning : FnScope nn_Evidence_beginning ["self", "number"] (defScope st_Evidence_beginning) := ⟨rfl, rfl, rfl, by decide +kernel, rfl, by decide +kernel, by decide +kernel⟩
abbrev st_Evidence_least_broken : Stmt := inClass (topS 12) 3
abbrev nn_Evidence_least_broken : List Str := ["self", "found"]
theorem sc_Evidence_least_broken : FnScope nn_Evidence_least_broken ["self"] (defScope st_Evidence_least_broken) := ⟨rfl, rfl, rfl, by decide +kernel, rfl, by decide +kernel, by decide +kernel⟩
abbrev st_Evidence_likely : Stmt := inClass (topS 12) 4
abbrev nn_Evidence_likely : List Str := ["self", "least", "found"]
theorem sc_Evidence_likely : FnScope nn_Evidence_likely ["self"] (defScope st_Evidence_likely) := ⟨rfl, rfl, rfl, by decide +kernel, rfl, by decide +kernel, by decide +kernel⟩
abbrev st_Evidence_states_of : Stmt := inClass (topS 12) 5
abbrev nn_Evidence_states_of : List Str := ["self", "place", "stroke", "states", "found"]
theorem sc_Evidence_states_of : FnScope nn_Evidence_states_of ["self", "place", "stroke"] (defScope st_Evidence_states_of) := ⟨rfl, rfl, rfl, by decide +kernel, rfl, by decide +kernel, by decide +kernel⟩
abbrev st_Evidence_surely_broken : Stmt := inClass (topS 12) 6
abbrev nn_Evidence_surely_broken : List Str := ["self", "found", "beginning", "i"]
theorem sc_Evidence_surely_broken : FnScope nn_Evidence_surely_broken ["self"] (defScope st_Evidence_surely_broken) := ⟨rfl, rfl, rfl, by decide +kernel, rfl, by decide +kernel, by decide +kernel⟩
abbrev st_Evidence_surely_working : Stmt := inClass (topS 12) 7
abbrev nn_Evidence_surely_working : List Str := ["self", "found", "beginning", "i"]
theorem sc_Evidence_surely_working : FnScope nn_Evidence_surely_working ["self"] (defScope st_Evidence_surely_working) := ⟨rfl, rfl, rfl, by decide +kernel, rfl, by decide +kernel, by decide +kernel⟩
abbrev st_Evidence_may_light : Stmt := inClass (topS 12) 8
abbrev nn_Evidence_may_light : List Str := ["self", "beginning", "time", "should", "i"]
theorem sc_Evidence_may_light : FnScope nn_Evidence_may_light ["self", "beginning", "time"] (defScope st_Evidence_may_light) := ⟨rfl, rfl, rfl, by decide +kernel, rfl, by decide +kernel, by decide +kernel⟩
abbrev st_Evidence_may_be_dark : Stmt := inClass (topS 12) 9
abbrev nn_Evidence_may_be_dark : List Str := ["self", "beginning", "time", "should", "i"]
theorem sc_Evidence_may_be_dark : FnScope nn_Evidence_may_be_dark ["self", "beginning", "time"] (defScope st_Evidence_may_be_dark) := ⟨rfl, rfl, rfl, by decide +kernel, rfl, by decide +kernel, by decide +kernel⟩
abbrev st_Evidence_told_apart : Stmt := inClass (topS 12) 10
abbrev nn_Evidence_told_apart : List Str := ["self", "first", "second", "time", "lit", "dark", "other_lit", "other_dark", "i"]
theorem sc_Evidence_told_apart : FnScope nn_Evidence_told_apart ["self", "first", "second", "time"] (defScope st_Evidence_told_apart) := ⟨rfl, rfl, rfl, by decide +kernel, rfl, by decide +kernel, by decide +kernel⟩
abbrev st_told_row : Stmt := topS 22
abbrev nn_told_row : List Str := ["row"]
theorem sc_told_row : FnScope nn_told_row ["row"] (defScope st_told_row) := ⟨rfl, rfl, rfl, by decide +kernel, rfl, by decide +kernel, by decide +kernel⟩
abbrev st_Bench_init : Stmt := inClass (topS 23) 0
abbrev nn_Bench_init : List Str := ["self", "digits"]
theorem sc_Bench_init : FnScope nn_Bench_init ["self", "digits"] (defScope st_Bench_init) := ⟨rfl, rfl, rfl, by decide +kernel, rfl, by decide +kernel, by decide +kernel⟩
abbrev st_Bench_now : Stmt := inClass (topS 23) 1
abbrev nn_Bench_now : List Str := ["self"]
theorem sc_Bench_now : FnScope nn_Bench_now ["self"] (defScope st_Bench_now) := ⟨rfl, rfl, rfl, by decide +kernel, rfl, by decide +kernel, by decide +kernel⟩
abbrev st_Bench_set_sights : Stmt := inClass (topS 23) 2
abbrev nn_Bench_set_sights : List Str := ["self", "sights"]
theorem sc_Bench_set_sights : FnScope nn_Bench_set_sights ["self", "sights"] (defScope st_Bench_set_sights) := ⟨rfl, rfl, rfl, by decide +kernel, rfl, by decide +kernel, by decide +kernel⟩
abbrev st_Bench_sees : Stmt := inClass (topS 23) 3
abbrev nn_Bench_sees : List Str := ["self", "seconds", "lit"]
theorem sc_Bench_sees : FnScope nn_Bench_sees ["self", "seconds", "lit"] (defScope st_Bench_sees) := ⟨rfl, rfl, rfl, by decide +kernel, rfl, by decide +kernel, by decide +kernel⟩
abbrev st_Bench_undo : Stmt := inClass (topS 23) 4
abbrev nn_Bench_undo : List Str := ["self"]
theorem sc_Bench_undo : FnScope nn_Bench_undo ["self"] (defScope st_Bench_undo) := ⟨rfl, rfl, rfl, by decide +kernel, rfl, by decide +kernel, by decide +kernel⟩
abbrev st_Bench_kth : Stmt := inClass (topS 23) 5
abbrev nn_Bench_kth : List Str := ["self", "beginnings", "k"]
theorem sc_Bench_kth : FnScope nn_Bench_kth ["self", "beginnings", "k"] (defScope st_Bench_kth) := ⟨rfl, rfl, rfl, by decide +kernel, rfl, by decide +kernel, by decide +kernel⟩
abbrev st_Bench_may : Stmt := inClass (topS 23) 6
abbrev nn_Bench_may : List Str := ["self", "k", "found"]
theorem sc_Bench_may : FnScope nn_Bench_may ["self", "k"] (defScope st_Bench_may) := ⟨rfl, rfl, rfl, by decide +kernel, rfl, by decide +kernel, by decide +kernel⟩
abbrev st_Bench_likely : Stmt := inClass (topS 23) 7
abbrev nn_Bench_likely : List Str := ["self", "k", "found"]
theorem sc_Bench_likely : FnScope nn_Bench_likely ["self", "k"] (defScope st_Bench_likely) := ⟨rfl, rfl, rfl, by decide +kernel, rfl, by decide +kernel, by decide +kernel⟩
abbrev st_Bench_guess : Stmt := inClass (topS 23) 8
abbrev nn_Bench_guess : List Str := ["self", "number", "found"]
theorem sc_Bench_guess : FnScope nn_Bench_guess ["self", "number"] (defScope st_Bench_guess) := ⟨rfl, rfl, rfl, by decide +kernel, rfl, by decide +kernel, by decide +kernel⟩
abbrev st_Bench_stroke : Stmt := inClass (topS 23) 9
abbrev nn_Bench_stroke : List Str := ["self", "place", "stroke", "states"]
theorem sc_Bench_stroke : FnScope nn_Bench_stroke ["self", "place", "stroke"] (defScope st_Bench_stroke) := ⟨rfl, rfl, rfl, by decide +kernel, rfl, by decide +kernel, by decide +kernel⟩
abbrev st_Bench_sure : Stmt := inClass (topS 23) 10
abbrev nn_Bench_sure : List Str := ["self", "broken"]
theorem sc_Bench_sure : FnScope nn_Bench_sure ["self"] (defScope st_Bench_sure) := ⟨rfl, rfl, rfl, by decide +kernel, rfl, by decide +kernel, by decide +kernel⟩
abbrev st_Bench_show_next : Stmt := inClass (topS 23) 11
abbrev nn_Bench_show_next : List Str := ["self", "seconds", "time", "lit", "dark", "beginning", "may_light", "may_be_dark", "open_strokes", "surely_lit", "surely_dark", "i", "strokes"]
theorem sc_Bench_show_next : FnScope nn_Bench_show_next ["self", "seconds"] (defScope st_Bench_show_next) := ⟨rfl, rfl, rfl, by decide +kernel, rfl, by decide +kernel, by decide +kernel⟩
abbrev st_Bench_apart : Stmt := inClass (topS 23) 12
abbrev nn_Bench_apart : List Str := ["self", "number", "other", "seconds", "first", "second"]
theorem sc_Bench_apart : FnScope nn_Bench_apart ["self", "number", "other", "seconds"] (defScope st_Bench_apart) := ⟨rfl, rfl, rfl, by decide +kernel, rfl, by decide +kernel, by decide +kernel⟩
abbrev st_Bench_shown : Stmt := inClass (topS 23) 13
abbrev nn_Bench_shown : List Str := ["self", "number", "seconds", "counted"]
theorem sc_Bench_shown : FnScope nn_Bench_shown ["self", "number", "seconds"] (defScope st_Bench_shown) := ⟨rfl, rfl, rfl, by decide +kernel, rfl, by decide +kernel, by decide +kernel⟩
abbrev st_Bench_state : Stmt := inClass (topS 23) 14
abbrev nn_Bench_state : List Str := ["self", "rows", "sight"]
theorem sc_Bench_state : FnScope nn_Bench_state ["self"] (defScope st_Bench_state) := ⟨rfl, rfl, rfl, by decide +kernel, rfl, by decide +kernel, by decide +kernel⟩
abbrev st_call_size : Stmt := topS 37
abbrev nn_call_size : List Str := ["calls", "at", "size"]
theorem sc_call_size : FnScope nn_call_size ["calls", "at"] (defScope st_call_size) := ⟨rfl, rfl, rfl, by decide +kernel, rfl, by decide +kernel, by decide +kernel⟩
abbrev st_ask : Stmt := topS 38
abbrev nn_ask : List Str := ["bench", "call", "which"]
theorem sc_ask : FnScope nn_ask ["bench", "call"] (defScope st_ask) := ⟨rfl, rfl, rfl, by decide +kernel, rfl, by decide +kernel, by decide +kernel⟩
abbrev st_answers : Stmt := topS 39
abbrev nn_answers : List Str := ["calls", "bench", "told", "at", "call", "numbers"]
theorem sc_answers : FnScope nn_answers ["calls"] (defScope st_answers) := ⟨rfl, rfl, rfl, by decide +kernel, rfl, by decide +kernel, by decide +kernel⟩
end Bs
/-! What the top has written; the walks of the module strokes. -/
namespace Bs
open PySem PySem.Spec PyProof.Rows L2 Evl
/-- the classes' addresses; the two written tuples' -/
structure Adr where
  S : Addr
  B : Addr
  E : Addr
  N : Addr
  Sh : Addr
  Cz : Addr
def sizes : List Nat := [2, 3, 1, 2, 2, 2, 3, 1, 2, 4, 3, 1]
structure Txt (K : PySem.W.Frag) (mg : Str → Option Value) (a : Adr) : Prop where
  clS : Cls K a.S
  clB : Cls K a.B
  clE : Cls K a.E
  clN : Cls K a.N
  naS_time : NoAttr K a.S "time"
  naS_lit : NoAttr K a.S "lit"
  naB_number : NoAttr K a.B "number"
  naB_works : NoAttr K a.B "works"
  naE_digits : NoAttr K a.E "digits"
  naE_dark : NoAttr K a.E "dark"
  naE_lit : NoAttr K a.E "lit"
  naE_beginnings : NoAttr K a.E "beginnings"
  naN_digits : NoAttr K a.N "digits"
  naN_sights : NoAttr K a.N "sights"
  naN_evidence : NoAttr K a.N "evidence"
  g_STROKES : ∃ t, mg "STROKES" = some (.int 7 t)
  g_ALL : ∃ t, mg "ALL" = some (.int 127 t)
  g_BAD_NUMBER : ∃ t, mg "BAD_NUMBER" = some (.int (-1) t)
  g_NOT_THERE : ∃ t, mg "NOT_THERE" = some (.int (-2) t)
  g_NO_SIGHT : ∃ t, mg "NO_SIGHT" = some (.int (-4) t)
  g_NO_ROOM : ∃ t, mg "NO_ROOM" = some (.int (-5) t)
  g_NO_EXPLANATION : ∃ t, mg "NO_EXPLANATION" = some (.int (-6) t)
  g_DIGITS_AT_MOST : ∃ t, mg "DIGITS_AT_MOST" = some (.int 3 t)
  g_SECONDS_AT_MOST : ∃ t, mg "SECONDS_AT_MOST" = some (.int 10000 t)
  g_SIGHTS_AT_MOST : ∃ t, mg "SIGHTS_AT_MOST" = some (.int 8 t)
  g_BEGINS : ∃ t, mg "BEGINS" = some (.int 0 t)
  g_SEES : ∃ t, mg "SEES" = some (.int 1 t)
  g_UNDO : ∃ t, mg "UNDO" = some (.int 2 t)
  g_MAY : ∃ t, mg "MAY" = some (.int 3 t)
  g_LIKELY : ∃ t, mg "LIKELY" = some (.int 4 t)
  g_GUESS : ∃ t, mg "GUESS" = some (.int 5 t)
  g_STROKE : ∃ t, mg "STROKE" = some (.int 6 t)
  g_SURE : ∃ t, mg "SURE" = some (.int 7 t)
  g_NEXT : ∃ t, mg "NEXT" = some (.int 8 t)
  g_APART : ∃ t, mg "APART" = some (.int 9 t)
  g_SHOWN : ∃ t, mg "SHOWN" = some (.int 10 t)
  g_SHOULD : mg "SHOULD" = some (.ref a.Sh)
  g_CALL_SIZES : mg "CALL_SIZES" = some (.ref a.Cz)
  q_SHOULD : ∀ H, SqT K H a.Sh (vN Sy69.DIGITS)
  q_CALL_SIZES : ∀ H, SqT K H a.Cz (vN sizes)
  n_len : mg "len" = none
  n_range : mg "range" = none
  n_sum : mg "sum" = none
  n_min : mg "min" = none
  n_max : mg "max" = none
  n_all : mg "all" = none
  n_any : mg "any" = none
section
variable {P : Program} {w : World} {K : PySem.W.Frag} {mg : Str → Option Value} {base : Heap} {a : Adr}
theorem callee_of {x qual : Str} {st : Stmt} {f : Addr} {fd : FuncData} {k : Nat} {ps : List Str} {sp : Sp} (h : FnOk P w K mg base CX0 k f fd ps sp) (F : Fun K x qual st f fd) (hm : mg x = some (.ref f)) (b : Binds K fd ps []) : Callee P w K mg base x k ps sp := ⟨f, fd, h, hm, F.kp, b⟩

/-! ### count_of, count_of_all -/
def spCount : Sp := fun vs H Q _ => ∃ m : Nat, vs = [.int (m : Int)] ∧ RetV (.int (cnt m : Int)) H Q
theorem bit_test (m i : Nat) : decide (V.int (Builtin.bitAnd ((m : Int) / 2 ^ ((i : Int)).toNat) 1) = V.int 1) = m.testBit i := by
  rw [i_shr, show (1 : Int) = ((1 : Nat) : Int) from rfl, i_and]
  exact i_bit m i
theorem given_cnt (m : Nat) (v : Nat → V) : (given 7 (fun i => m.testBit i) v).length = cnt m := by
  unfold given cnt
  rw [List.length_map]
theorem ok_count_of {f : Addr} {fd : FuncData} (F : Fun K "count_of" "count_of" st_count_of f fd) (T : Txt K mg a) : FnOk P w K mg base CX0 1 f fd ["strokes"] spCount := by
  refine F.ok sc_count_of (fun vs H Q E h => ?_) (fun cdv A outer s H vs Q E hr h => ?_)
  · obtain ⟨m, rfl, _⟩ := h
    rfl
  · obtain ⟨m, rfl, k⟩ := h
    refine ⟨_, (pss_one (ps_ret (pe_callB (call_len_seq) (by rfl) T.n_len PySem.boot_len (pa_cons (pe_lc (own := [("i", 1)]) (g := gName 1) rfl sc_count_of.nd (pi_range1 (by rfl) T.n_range (pa_cons (pe_gi (by rfl) T.g_STROKES) pa_nil)) (blkOk_by (own := [("i", 1)]) (N := nn_count_of) (sc := defScope st_count_of) (by decide +kernel)) (fun _ _ _ _ _ => pg_name (i := 1) sc_count_of.nd rfl (Or.inl rfl)) (fun _ _ _ _ _ => (pts_one (pt_cmpR op_eq (pe_op op_and (pe_op op_shr (pv 0) (pv 1)) (pe_int)) (pe_int) (nomark _)))) (fun _ _ _ _ _ => (pv 1))) pa_nil)))), ?_⟩
    refine s_ret (ev_lenN (el_lcR1 (n := 7) (fun i => m.testBit i) (fun i => .int (i : Int)) (ea_cons ev_c ea_nil) (by omega) (fun _ => rfl)
      (fun i H1 _ hi => et_is (et_test (ev_op (ev_op (ev_op (ev_var rfl) (ev_var rfl) (rv_I (Int.natCast_nonneg i))) ev_c rv_I0) ev_c (rv_eq rfl))) (bit_test m i)) (fun i H1 _ hi _ => ev_var rfl))) fun H1 e => ?_
    rw [show ((7 : Int)).toNat = 7 from rfl, given_cnt]
    exact k H1 e
def spCountAll (K : PySem.W.Frag) : Sp := fun vs H Q _ => ∃ (p : Addr) (l : List Nat), vs = [.ref p] ∧ SqL K H p (vN l) ∧ l.length ≤ 1000 ∧ RetV (.int (cntAll l : Int)) H Q
theorem sum_cnt : ∀ l : List Nat, (l.map fun n => (cnt n : Int)).sum = (cntAll l : Int)
  | [] => rfl
  | x :: l => by
    rw [List.map_cons, List.sum_cons, sum_cnt l]
    unfold cntAll
    rw [List.map_cons, List.sum_cons]
    omega
theorem given_map {n : Nat} {l : List Nat} (h : l.length = n) (g : Nat → V) : given n (fun _ => true) (fun i => g (l.getD i 0)) = l.map g := by
  rw [given_all]
  apply List.ext_getElem?
  intro i
  by_cases hi : i < n
  · rw [List.getElem?_map, List.getElem?_map, List.getElem?_range hi, List.getElem?_eq_getElem (by omega)]
    show some (g (l.getD i 0)) = some (g l[i])
    rw [List.getD_eq_getElem?_getD, List.getElem?_eq_getElem (by omega)]
    rfl
  · rw [List.getElem?_eq_none (by rw [List.length_map, List.length_range]; omega), List.getElem?_eq_none (by rw [List.length_map]; omega)]
theorem ok_count_of_all {f : Addr} {fd : FuncData} (F : Fun K "count_of_all" "count_of_all" st_count_of_all f fd) (T : Txt K mg a) (c_count_of : Callee P w K mg base "count_of" 1 ["strokes"] spCount) : FnOk P w K mg base CX0 2 f fd ["places"] (spCountAll K) := by
  refine F.ok sc_count_of_all (fun vs H Q E h => ?_) (fun cdv A outer s H vs Q E hr h => ?_)
  · obtain ⟨p, l, rfl, _⟩ := h
    rfl
  · obtain ⟨p, l, rfl, hl, hz, k⟩ := h
    refine ⟨_, (pss_one (ps_ret (pe_callB (cr_sum rfl) (by rfl) T.n_sum (by decide +kernel) (pa_cons (pe_lc (own := [("strokes", 1)]) (g := gName 1) (tt := tYes) rfl sc_count_of_all.nd (pi_list (pv 0)) (blkOk_by (own := [("strokes", 1)]) (N := nn_count_of_all) (sc := defScope st_count_of_all) (by decide +kernel)) (fun _ _ _ _ _ => pg_name (i := 1) sc_count_of_all.nd rfl (Or.inl rfl)) (fun _ _ _ _ _ => pts_nil) (fun _ _ _ _ _ => (pe_cal c_count_of hr (by rfl) (pa_cons (pv 1) pa_nil)))) pa_nil)))), ?_⟩
    refine s_ret (v := .int (cntAll l : Int)) (ev_cbL (el_lcL (fun _ => true) (fun i => .int (cnt (l.getD i 0) : Int)) (ev_var rfl) hl (by rw [vN_len]; omega) (fun _ => rfl) (fun _ _ _ _ _ => et_yes) (fun i x H1 _ hx _ => ?_)) fun q H1 e1 hq => ?_) k
    · have hi : i < l.length := by
        have := (List.getElem?_eq_some_iff.mp hx).1
        rw [vN_len] at this
        exact this
      have ex : x = .int (l.getD i 0 : Int) := by
        rw [vN_get (n := l.getD i 0) (by rw [List.getD_eq_getElem?_getD, List.getElem?_eq_getElem hi] <;> rfl)] at hx
        exact (Option.some.inj hx).symm
      subst ex
      exact ev_call (ea_cons (ev_var rfl) ea_nil) (spv_of fun H2 _ Q2 E2 k2 => ⟨_, rfl, k2⟩)
    · rw [vN_len, given_map rfl (fun n => V.int (cnt n : Int))] at hq
      refine fun H2 e2 Q2 k2 => ⟨q, l.map fun n => (cnt n : Int), rfl, ?_, ?_⟩
      · rw [List.map_map]
        exact sq_of (e2 q _ hq)
      · rw [sum_cnt]
        exact k2 H2 (Ex.refl H2)

/-! ### numbers_of, should_light -/
def spNumbers : Sp := fun vs H Q _ => ∃ d : Nat, vs = [.int (d : Int)] ∧ d ≤ 3 ∧ RetV (.int ((10 ^ d : Nat) : Int)) H Q
theorem ok_numbers_of {f : Addr} {fd : FuncData} (F : Fun K "numbers_of" "numbers_of" st_numbers_of f fd) (T : Txt K mg a) : FnOk P w K mg base CX0 1 f fd ["digits"] spNumbers := by
  refine F.ok sc_numbers_of (fun vs H Q E h => ?_) (fun cdv A outer s H vs Q E hr h => ?_)
  · obtain ⟨d, rfl, _⟩ := h
    rfl
  · obtain ⟨d, rfl, hd, k⟩ := h
    refine ⟨_, (pss_cons (ps_set (i := 1) sc_numbers_of.nd rfl (Or.inl rfl) (pe_int))
      (pss_cons (ps_for PassesOwn.never rfl (pi_range1 (by rfl) T.n_range (pa_cons (pv 0) pa_nil)) (pg_name (i := 2) sc_numbers_of.nd rfl (Or.inl rfl)) (pss_one (ps_set (i := 1) sc_numbers_of.nd rfl (Or.inl rfl) (pe_op op_mul (pv 1) (pe_int)))))
      (pss_one (ps_ret (pv 1))))), ?_⟩
    refine q_asg ev_c fun H1 e1 => ?_
    refine q_forR1 (n := (d : Int)) (ea_cons (ev_var rfl) ea_nil) (by omega) (fun i σ H' => Ex H H' ∧ ∃ y, σ = [some (.int (d : Int)), some (.int ((10 ^ i : Nat) : Int)), y]) (fun H2 e2 => ⟨e1.trans e2, none, rfl⟩) ?_ ?_
    · rintro i σ' H' hi ⟨e2, y, rfl⟩
      refine s_asg (ev_op (ev_var rfl) ev_c (rv_I (.inr ⟨by omega, by omega⟩))) fun H3 e3 => ⟨e2.trans e3, some (.int (i : Int)), ?_⟩
      show [_, some (V.int (((10 ^ i : Nat) : Int) * 10)), _] = _
      rw [Nat.pow_succ, Int.natCast_mul]
      rfl
    · rintro σ' H' ⟨e2, y, rfl⟩
      refine s_ret (ev_var rfl) fun H3 e3 => ?_
      rw [Int.toNat_natCast]
      exact k H3 (e2.trans e3)
def spShould : Sp := fun vs H Q _ => ∃ n d : Nat, vs = [.int (n : Int), .int (d : Int)] ∧ d ≤ 3 ∧ RetL (vN (tab d (shouldF d n))) H Q
theorem vN_append (l m : List Nat) : vN (l ++ m) = vN l ++ vN m := List.map_append
theorem vN_reverse (l : List Nat) : (vN l).reverse = vN l.reverse := List.map_reverse.symm
theorem digit_at {n : Nat} (h : n < 10) : atI (vN Sy69.DIGITS) (n : Int) = some (.int (Sy69.DIGITS.getD n 0 : Int)) := at_lit (show n < Sy69.DIGITS.length from h)
theorem i_mod (n m : Nat) : (n : Int) % (m : Int) = ((n % m : Nat) : Int) := rfl
theorem i_div (n m : Nat) : (n : Int) / (m : Int) = ((n / m : Nat) : Int) := rfl
/-- xs.reverse() -/
theorem q_rev {σ : L2.St} {H : Hp} {ta : TE} {D : Ends} {tz : TS} {l : Addr} {xs : List V} (hl : H l = some (.lst xs)) (ha : Ev ta σ H (.ref l)) (k : ∀ H1, Ex H H1 → tz D σ (upd H1 l (.lst xs.reverse))) : tSeq (tDrop (tBM0 K "list" rReverse ta)) tz D σ H :=
  ha H (Ex.refl H) _ fun H1 e1 => ⟨Or.inl ⟨rfl, xs, sq_of (e1 l _ hl)⟩, l, xs, rfl, rfl, e1 l _ hl, k H1 e1⟩
theorem ok_should_light {f : Addr} {fd : FuncData} (F : Fun K "should_light" "should_light" st_should_light f fd) (T : Txt K mg a) : FnOk P w K mg base CX0 1 f fd ["number", "digits"] spShould := by
  refine F.ok sc_should_light (fun vs H Q E h => ?_) (fun cdv A outer s H vs Q E hr h => ?_)
  · obtain ⟨n, d, rfl, _⟩ := h
    rfl
  · obtain ⟨n, d, rfl, hd, k⟩ := h
    refine ⟨_, (pss_cons (ps_set (i := 2) sc_should_light.nd rfl (Or.inl rfl) (pe_lst pa_nil))
      (pss_cons (ps_for PassesOwn.never rfl (pi_range1 (by rfl) T.n_range (pa_cons (pv 1) pa_nil)) (pg_name (i := 3) sc_should_light.nd rfl (Or.inl rfl)) (pss_cons (ps_expr (pe_bm PySem.F.plainAttrs_list PySem.F.slot_list_append PySem.F.type_list_append mt_append (pv 2) (pa_cons (pe_ix (ix_tupK K rfl) (pe_glob (v := .ref a.Sh) (by rfl) T.g_SHOULD rfl) (pe_op op_mod (pv 0) (pe_int)) (fun _ _ => rfl)) pa_nil)))
      (pss_one (ps_set (i := 0) sc_should_light.nd rfl (Or.inl rfl) (pe_op op_fdiv (pv 0) (pe_int))))))
      (pss_cons (ps_expr (pe_bm0 PySem.F.plainAttrs_list PySem.F.slot_list_reverse PySem.F.type_list_reverse mt_reverse (pv 2)))
      (pss_one (ps_ret (pv 2)))))), ?_⟩
    refine q_asgL (el_lst ea_nil (Nat.zero_le _)) fun p H1 hp e1 h1 => ?_
    refine q_forR1 (n := (d : Int)) (ea_cons (ev_var rfl) ea_nil) (by omega) (fun i σ H' => Ex H H' ∧ H' p = some (.lst (vN (tab i (shouldR n)))) ∧ ∃ y, σ = [some (.int ((n / 10 ^ i : Nat) : Int)), some (.int (d : Int)), some (.ref p), y]) (fun H2 e2 => ⟨e1.trans e2, e2 p _ h1, none, ?_⟩) ?_ ?_
    · rw [Nat.pow_zero, Nat.div_one]
      rfl
    · rintro i σ' H' hi ⟨e2, h2, y, rfl⟩
      have hl : (vN (tab i (shouldR n))).length < 100000 := by rw [vN_len, tab_len]; omega
      refine q_app h2 (ev_var rfl) (ev_op ev_c (ev_op (ev_var rfl) ev_c (rv_I (show (0 : Int) < 10 by decide))) (rv_ixT (T.q_SHOULD _) (digit_at (Nat.mod_lt (n / 10 ^ i) (show 0 < 10 by decide))))) hl fun H3 e3 => ?_
      refine s_asg (ev_op (ev_var rfl) ev_c (rv_I ⟨by decide, by decide⟩)) fun H4 e4 => ⟨((e2.trans e3).mut hp).trans e4, ?_, some (.int (i : Int)), ?_⟩
      · refine e4 p _ ?_
        rw [upd_same, tab_succ, vN_append]
        rfl
      · show [some (V.int (((n / 10 ^ i : Nat) : Int) / 10)), _, _, _] = _
        rw [Nat.pow_succ, ← Nat.div_div_eq_div_mul]
        rfl
    · rintro σ' H' ⟨e2, h2, y, rfl⟩
      rw [Int.toNat_natCast] at h2
      refine q_rev h2 (ev_var rfl) fun H3 e3 => ?_
      refine s_ret (ev_var rfl) fun H4 e4 => ?_
      refine k p H4 hp (((e2.trans e3).mut hp).trans e4) (e4 p _ ?_)
      rw [upd_same, vN_reverse, tab_rev]
      rfl
end
end Bs
/-! Objects in the heap; further words. -/
namespace Bs
open PySem PySem.Spec PyProof.Rows L2 Evl
/-! ### pairs of lists -/
theorem p_get {α β : Type} {F : α → β → Prop} : ∀ {l : List α} {m : List β} {i : Nat} {x : α}, Paired F l m → l[i]? = some x → ∃ y, m[i]? = some y ∧ F x y
  | _, _, _, _, .nil, h => by simp at h
  | _, _, 0, x, .cons r _, h => by
    have e := Option.some.inj h
    subst e
    exact ⟨_, rfl, r⟩
  | _, _, i + 1, x, .cons _ t, h => p_get (i := i) t h
theorem p_len {α β : Type} {F : α → β → Prop} {l : List α} {m : List β} (h : Paired F l m) : l.length = m.length := Paired.length h
theorem p_mono {α β : Type} {F G : α → β → Prop} {l : List α} {m : List β} (h : Paired F l m) (k : ∀ x y, F x y → G x y) : Paired G l m := Paired.mono k h
theorem p_snoc {α β : Type} {F : α → β → Prop} {x : α} {y : β} {l : List α} {m : List β} (h : Paired F l m) (r : F x y) : Paired F (l ++ [x]) (m ++ [y]) := Paired.snoc h r
theorem p_init {α β : Type} {F : α → β → Prop} : ∀ {l : List α} {m : List β}, Paired F l m → Paired F l.dropLast m.dropLast
  | _, _, .nil => .nil
  | _, _, .cons r .nil => .nil
  | _, _, .cons r (.cons r2 t) => .cons r (p_init (.cons r2 t))
/-- those of the right list that a test keeps, by their places -/
theorem p_keep {α β : Type} {F : α → β → Prop} (p : β → Bool) (d : β) (a0 : α) (g : α → V) : ∀ {l : List α} {m : List β}, Paired F l m → ∃ l', Paired F l' (m.filter p) ∧ given m.length (fun i => p (m.getD i d)) (fun i => g (l.getD i a0)) = l'.map g
  | _, _, .nil => ⟨[], .nil, rfl⟩
  | a :: l, b :: m, .cons r t => by
    obtain ⟨l', h1, h2⟩ := p_keep p d a0 g t
    have e : given (m.length + 1) (fun i => p ((b :: m).getD i d)) (fun i => g ((a :: l).getD i a0)) = (if p b = true then [g a] else []) ++ given m.length (fun i => p (m.getD i d)) (fun i => g (l.getD i a0)) := by
      unfold given
      rw [List.range_succ_eq_map, List.filter_cons, List.filter_map, apply_ite (List.map _), List.map_cons, List.map_map]
      show (if p b = true then g a :: _ else _) = _
      by_cases c : p b = true
      · rw [if_pos c, if_pos c]
        rfl
      · rw [if_neg c, if_neg c]
        rfl
    rw [List.length_cons, e, h2, List.filter_cons]
    by_cases c : p b = true
    · rw [if_pos c, if_pos c]
      exact ⟨a :: l', .cons r h1, rfl⟩
    · rw [if_neg c, if_neg c]
      exact ⟨l', h1, rfl⟩
theorem fold_take {α β : Type} {g : β → α → β} {w : β} {zs : List α} {i : Nat} {z : α} (h : zs[i]? = some z) : (zs.take (i + 1)).foldl g w = g ((zs.take i).foldl g w) z := by
  rw [List.take_succ, h, List.foldl_append]
  rfl
theorem take_all {α : Type} (l : List α) : l.take l.length = l := List.take_length
theorem vR_get {l : List Addr} {i : Nat} {x : V} (h : (vR l)[i]? = some x) : ∃ p, l[i]? = some p ∧ x = .ref p := by
  unfold vR at h
  rw [List.getElem?_map] at h
  cases e : l[i]? with
  | none =>
    rw [e] at h
    cases h
  | some p =>
    rw [e] at h
    exact ⟨p, rfl, (Option.some.inj h).symm⟩
theorem vN_ne {l : List Nat} {m : List Addr} (h : l ≠ []) : HO.lst (vN l) ≠ HO.lst (vR m) := by
  intro e
  have e := HO.lst.inj e
  cases l with
  | nil => exact h rfl
  | cons x l =>
    cases m with
    | nil => cases e
    | cons y m => cases e
theorem tab_ne {d : Nat} {f : Nat → Nat} (h : 1 ≤ d) : tab d f ≠ [] := by
  intro e
  have := tab_len d f
  rw [e] at this
  rw [List.length_nil] at this
  omega

/-! ### fields -/
def fS (t : Nat) (l : Addr) : List (Str × V) := [("time", .int (t : Int)), ("lit", .ref l)]
theorem lkS_time {t : Nat} {l : Addr} : (fS t l).lookup ("time" : Str) = some (.int (t : Int)) := lk_hit
theorem lkS_lit {t : Nat} {l : Addr} : (fS t l).lookup ("lit" : Str) = some (.ref l) := (lk_skip (by decide +kernel)).trans (lk_hit)
def fB (x : Nat) (l : Addr) : List (Str × V) := [("number", .int (x : Int)), ("works", .ref l)]
theorem lkB_number {x : Nat} {l : Addr} : (fB x l).lookup ("number" : Str) = some (.int (x : Int)) := lk_hit
theorem lkB_works {x : Nat} {l : Addr} : (fB x l).lookup ("works" : Str) = some (.ref l) := (lk_skip (by decide +kernel)).trans (lk_hit)
theorem noB_broken {x : Nat} {l : Addr} : (fB x l).lookup ("broken" : Str) = none := (lk_skip (by decide +kernel)).trans ((lk_skip (by decide +kernel)).trans (rfl))
def fE (d : Nat) (ld : Addr) (ll : Addr) (lb : Addr) : List (Str × V) := [("digits", .int (d : Int)), ("dark", .ref ld), ("lit", .ref ll), ("beginnings", .ref lb)]
theorem lkE_digits {d : Nat} {ld : Addr} {ll : Addr} {lb : Addr} : (fE d ld ll lb).lookup ("digits" : Str) = some (.int (d : Int)) := lk_hit
theorem lkE_dark {d : Nat} {ld : Addr} {ll : Addr} {lb : Addr} : (fE d ld ll lb).lookup ("dark" : Str) = some (.ref ld) := (lk_skip (by decide +kernel)).trans (lk_hit)
theorem lkE_lit {d : Nat} {ld : Addr} {ll : Addr} {lb : Addr} : (fE d ld ll lb).lookup ("lit" : Str) = some (.ref ll) := (lk_skip (by decide +kernel)).trans ((lk_skip (by decide +kernel)).trans (lk_hit))
theorem lkE_beginnings {d : Nat} {ld : Addr} {ll : Addr} {lb : Addr} : (fE d ld ll lb).lookup ("beginnings" : Str) = some (.ref lb) := (lk_skip (by decide +kernel)).trans ((lk_skip (by decide +kernel)).trans ((lk_skip (by decide +kernel)).trans (lk_hit)))
theorem noE_explains {d : Nat} {ld : Addr} {ll : Addr} {lb : Addr} : (fE d ld ll lb).lookup ("explains" : Str) = none := (lk_skip (by decide +kernel)).trans ((lk_skip (by decide +kernel)).trans ((lk_skip (by decide +kernel)).trans ((lk_skip (by decide +kernel)).trans (rfl))))
theorem noE_beginning {d : Nat} {ld : Addr} {ll : Addr} {lb : Addr} : (fE d ld ll lb).lookup ("beginning" : Str) = none := (lk_skip (by decide +kernel)).trans ((lk_skip (by decide +kernel)).trans ((lk_skip (by decide +kernel)).trans ((lk_skip (by decide +kernel)).trans (rfl))))
theorem noE_least_broken {d : Nat} {ld : Addr} {ll : Addr} {lb : Addr} : (fE d ld ll lb).lookup ("least_broken" : Str) = none := (lk_skip (by decide +kernel)).trans ((lk_skip (by decide +kernel)).trans ((lk_skip (by decide +kernel)).trans ((lk_skip (by decide +kernel)).trans (rfl))))
theorem noE_likely {d : Nat} {ld : Addr} {ll : Addr} {lb : Addr} : (fE d ld ll lb).lookup ("likely" : Str) = none := (lk_skip (by decide +kernel)).trans ((lk_skip (by decide +kernel)).trans ((lk_skip (by decide +kernel)).trans ((lk_skip (by decide +kernel)).trans (rfl))))
theorem noE_states_of {d : Nat} {ld : Addr} {ll : Addr} {lb : Addr} : (fE d ld ll lb).lookup ("states_of" : Str) = none := (lk_skip (by decide +kernel)).trans ((lk_skip (by decide +kernel)).trans ((lk_skip (by decide +kernel)).trans ((lk_skip (by decide +kernel)).trans (rfl))))
theorem noE_surely_broken {d : Nat} {ld : Addr} {ll : Addr} {lb : Addr} : (fE d ld ll lb).lookup ("surely_broken" : Str) = none := (lk_skip (by decide +kernel)).trans ((lk_skip (by decide +kernel)).trans ((lk_skip (by decide +kernel)).trans ((lk_skip (by decide +kernel)).trans (rfl))))
theorem noE_surely_working {d : Nat} {ld : Addr} {ll : Addr} {lb : Addr} : (fE d ld ll lb).lookup ("surely_working" : Str) = none := (lk_skip (by decide +kernel)).trans ((lk_skip (by decide +kernel)).trans ((lk_skip (by decide +kernel)).trans ((lk_skip (by decide +kernel)).trans (rfl))))
theorem noE_may_light {d : Nat} {ld : Addr} {ll : Addr} {lb : Addr} : (fE d ld ll lb).lookup ("may_light" : Str) = none := (lk_skip (by decide +kernel)).trans ((lk_skip (by decide +kernel)).trans ((lk_skip (by decide +kernel)).trans ((lk_skip (by decide +kernel)).trans (rfl))))
theorem noE_may_be_dark {d : Nat} {ld : Addr} {ll : Addr} {lb : Addr} : (fE d ld ll lb).lookup ("may_be_dark" : Str) = none := (lk_skip (by decide +kernel)).trans ((lk_skip (by decide +kernel)).trans ((lk_skip (by decide +kernel)).trans ((lk_skip (by decide +kernel)).trans (rfl))))
theorem noE_told_apart {d : Nat} {ld : Addr} {ll : Addr} {lb : Addr} : (fE d ld ll lb).lookup ("told_apart" : Str) = none := (lk_skip (by decide +kernel)).trans ((lk_skip (by decide +kernel)).trans ((lk_skip (by decide +kernel)).trans ((lk_skip (by decide +kernel)).trans (rfl))))
def fN (d : Nat) (ls : Addr) (le : Addr) : List (Str × V) := [("digits", .int (d : Int)), ("sights", .ref ls), ("evidence", .ref le)]
theorem lkN_digits {d : Nat} {ls : Addr} {le : Addr} : (fN d ls le).lookup ("digits" : Str) = some (.int (d : Int)) := lk_hit
theorem lkN_sights {d : Nat} {ls : Addr} {le : Addr} : (fN d ls le).lookup ("sights" : Str) = some (.ref ls) := (lk_skip (by decide +kernel)).trans (lk_hit)
theorem lkN_evidence {d : Nat} {ls : Addr} {le : Addr} : (fN d ls le).lookup ("evidence" : Str) = some (.ref le) := (lk_skip (by decide +kernel)).trans ((lk_skip (by decide +kernel)).trans (lk_hit))
theorem noN_now {d : Nat} {ls : Addr} {le : Addr} : (fN d ls le).lookup ("now" : Str) = none := (lk_skip (by decide +kernel)).trans ((lk_skip (by decide +kernel)).trans ((lk_skip (by decide +kernel)).trans (rfl)))
theorem noN_set_sights {d : Nat} {ls : Addr} {le : Addr} : (fN d ls le).lookup ("set_sights" : Str) = none := (lk_skip (by decide +kernel)).trans ((lk_skip (by decide +kernel)).trans ((lk_skip (by decide +kernel)).trans (rfl)))
theorem noN_sees {d : Nat} {ls : Addr} {le : Addr} : (fN d ls le).lookup ("sees" : Str) = none := (lk_skip (by decide +kernel)).trans ((lk_skip (by decide +kernel)).trans ((lk_skip (by decide +kernel)).trans (rfl)))
theorem noN_undo {d : Nat} {ls : Addr} {le : Addr} : (fN d ls le).lookup ("undo" : Str) = none := (lk_skip (by decide +kernel)).trans ((lk_skip (by decide +kernel)).trans ((lk_skip (by decide +kernel)).trans (rfl)))
theorem noN_kth {d : Nat} {ls : Addr} {le : Addr} : (fN d ls le).lookup ("kth" : Str) = none := (lk_skip (by decide +kernel)).trans ((lk_skip (by decide +kernel)).trans ((lk_skip (by decide +kernel)).trans (rfl)))
theorem noN_may {d : Nat} {ls : Addr} {le : Addr} : (fN d ls le).lookup ("may" : Str) = none := (lk_skip (by decide +kernel)).trans ((lk_skip (by decide +kernel)).trans ((lk_skip (by decide +kernel)).trans (rfl)))
theorem noN_likely {d : Nat} {ls : Addr} {le : Addr} : (fN d ls le).lookup ("likely" : Str) = none := (lk_skip (by decide +kernel)).trans ((lk_skip (by decide +kernel)).trans ((lk_skip (by decide +kernel)).trans (rfl)))
theorem noN_guess {d : Nat} {ls : Addr} {le : Addr} : (fN d ls le).lookup ("guess" : Str) = none := (lk_skip (by decide +kernel)).trans ((lk_skip (by decide +kernel)).trans ((lk_skip (by decide +kernel)).trans (rfl)))
theorem noN_stroke {d : Nat} {ls : Addr} {le : Addr} : (fN d ls le).lookup ("stroke" : Str) = none := (lk_skip (by decide +kernel)).trans ((lk_skip (by decide +kernel)).trans ((lk_skip (by decide +kernel)).trans (rfl)))
theorem noN_sure {d : Nat} {ls : Addr} {le : Addr} : (fN d ls le).lookup ("sure" : Str) = none := (lk_skip (by decide +kernel)).trans ((lk_skip (by decide +kernel)).trans ((lk_skip (by decide +kernel)).trans (rfl)))
theorem noN_show_next {d : Nat} {ls : Addr} {le : Addr} : (fN d ls le).lookup ("show_next" : Str) = none := (lk_skip (by decide +kernel)).trans ((lk_skip (by decide +kernel)).trans ((lk_skip (by decide +kernel)).trans (rfl)))
theorem noN_apart {d : Nat} {ls : Addr} {le : Addr} : (fN d ls le).lookup ("apart" : Str) = none := (lk_skip (by decide +kernel)).trans ((lk_skip (by decide +kernel)).trans ((lk_skip (by decide +kernel)).trans (rfl)))
theorem noN_shown {d : Nat} {ls : Addr} {le : Addr} : (fN d ls le).lookup ("shown" : Str) = none := (lk_skip (by decide +kernel)).trans ((lk_skip (by decide +kernel)).trans ((lk_skip (by decide +kernel)).trans (rfl)))
theorem noN_state {d : Nat} {ls : Addr} {le : Addr} : (fN d ls le).lookup ("state" : Str) = none := (lk_skip (by decide +kernel)).trans ((lk_skip (by decide +kernel)).trans ((lk_skip (by decide +kernel)).trans (rfl)))
theorem pS_new (t : Nat) (l : Addr) : putF "lit" (.ref l) (putF "time" (.int (t : Int)) []) = fS t l := (put_skip (by decide +kernel)).trans rfl
theorem pB_new (x : Nat) (l : Addr) : putF "works" (.ref l) (putF "number" (.int (x : Int)) []) = fB x l := (put_skip (by decide +kernel)).trans rfl
/-- of Evidence: its first three -/
def fE3 (d : Nat) (ld ll : Addr) : List (Str × V) := [("digits", .int (d : Int)), ("dark", .ref ld), ("lit", .ref ll)]
theorem lkE3_dark {d : Nat} {ld ll : Addr} : (fE3 d ld ll).lookup ("dark" : Str) = some (.ref ld) := (lk_skip (by decide +kernel)).trans lk_hit
theorem lkE3_lit {d : Nat} {ld ll : Addr} : (fE3 d ld ll).lookup ("lit" : Str) = some (.ref ll) := (lk_skip (by decide +kernel)).trans ((lk_skip (by decide +kernel)).trans lk_hit)
theorem pE_new (d : Nat) (ld ll : Addr) : putF "lit" (.ref ll) (putF "dark" (.ref ld) (putF "digits" (.int (d : Int)) [])) = fE3 d ld ll := by
  rw [show putF "dark" (.ref ld) (putF "digits" (.int (d : Int)) []) = ([("digits", .int (d : Int)), ("dark", .ref ld)] : List (Str × V)) from (put_skip (by decide +kernel)).trans rfl]
  exact (put_skip (by decide +kernel)).trans (congrArg _ ((put_skip (by decide +kernel)).trans rfl))
theorem pE_dark (d : Nat) (ld ll l : Addr) : putF "dark" (.ref l) (fE3 d ld ll) = fE3 d l ll := (put_skip (by decide +kernel)).trans (congrArg _ put_hit)
theorem pE_lit (d : Nat) (ld ll l : Addr) : putF "lit" (.ref l) (fE3 d ld ll) = fE3 d ld l := (put_skip (by decide +kernel)).trans (congrArg _ ((put_skip (by decide +kernel)).trans (congrArg _ put_hit)))
theorem pE_all (d : Nat) (ld ll lb : Addr) : putF "beginnings" (.ref lb) (fE3 d ld ll) = fE d ld ll lb := (put_skip (by decide +kernel)).trans (congrArg _ ((put_skip (by decide +kernel)).trans (congrArg _ ((put_skip (by decide +kernel)).trans rfl))))
theorem pN_new (d : Nat) (ls le : Addr) : putF "evidence" (.ref le) (putF "sights" (.ref ls) (putF "digits" (.int (d : Int)) [])) = fN d ls le := by
  rw [show putF "sights" (.ref ls) (putF "digits" (.int (d : Int)) []) = ([("digits", .int (d : Int)), ("sights", .ref ls)] : List (Str × V)) from (put_skip (by decide +kernel)).trans rfl]
  exact (put_skip (by decide +kernel)).trans (congrArg _ ((put_skip (by decide +kernel)).trans rfl))
theorem pN_sights (d : Nat) (ls le l : Addr) : putF "sights" (.ref l) (fN d ls le) = fN d l le := (put_skip (by decide +kernel)).trans (congrArg _ put_hit)
theorem pN_evidence (d : Nat) (ls le l : Addr) : putF "evidence" (.ref l) (fN d ls le) = fN d ls l := (put_skip (by decide +kernel)).trans (congrArg _ ((put_skip (by decide +kernel)).trans (congrArg _ put_hit)))

/-! ### objects -/
def SightAt (a : Adr) (H : Hp) (p : Addr) (z : Sy69.Sight) : Prop := ∃ dx l, H p = some (.ins a.S dx (fS z.time l)) ∧ H l = some (.lst (vN z.lit))
def SightsAt (a : Adr) (H : Hp) (l : Addr) (zs : List Sy69.Sight) : Prop := ∃ ps, H l = some (.lst (vR ps)) ∧ Paired (SightAt a H) ps zs
def BegAt (a : Adr) (s : Sy69.St) (H : Hp) (b : Addr) (x : Nat) : Prop := ∃ dx l, H b = some (.ins a.B dx (fB x l)) ∧ H l = some (.lst (vN (tab s.digits (worksF s x))))
/-- Evidence but for its beginnings -/
def EvCore (a : Adr) (s : Sy69.St) (H : Hp) (e lb : Addr) : Prop := ∃ dx ld ll, H e = some (.ins a.E dx (fE s.digits ld ll lb)) ∧ H ld = some (.lst (vN (tab s.digits (darkF s)))) ∧ H ll = some (.lst (vN (tab s.digits (litF s))))
def BegsAt (a : Adr) (s : Sy69.St) (H : Hp) (l : Addr) (xs : List Nat) : Prop := ∃ bs, H l = some (.lst (vR bs)) ∧ Paired (BegAt a s H) bs xs
def EvAt (a : Adr) (s : Sy69.St) (H : Hp) (e : Addr) : Prop := ∃ lb, EvCore a s H e lb ∧ BegsAt a s H lb (Sy69.all_ s)
def BnAt (a : Adr) (s : Sy69.St) (H : Hp) (n : Addr) : Prop := ∃ dx ls le, H n = some (.ins a.N dx (fN s.digits ls le)) ∧ SightsAt a H ls s.sights ∧ EvAt a s H le
section
variable {a : Adr} {s : Sy69.St} {H H' : Hp} {p l e lb : Addr} {x : Nat} {z : Sy69.Sight}
theorem SightAt.mono (g : Ex H H') (h : SightAt a H p z) : SightAt a H' p z := let ⟨dx, l, h1, h2⟩ := h; ⟨dx, l, g _ _ h1, g _ _ h2⟩
theorem SightsAt.mono {zs : List Sy69.Sight} (g : Ex H H') (h : SightsAt a H l zs) : SightsAt a H' l zs := let ⟨ps, h1, h2⟩ := h; ⟨ps, g _ _ h1, p_mono h2 fun _ _ => SightAt.mono g⟩
theorem BegAt.mono (g : Ex H H') (h : BegAt a s H p x) : BegAt a s H' p x := let ⟨dx, l, h1, h2⟩ := h; ⟨dx, l, g _ _ h1, g _ _ h2⟩
theorem EvCore.mono (g : Ex H H') (h : EvCore a s H e lb) : EvCore a s H' e lb := let ⟨dx, ld, ll, h1, h2, h3⟩ := h; ⟨dx, ld, ll, g _ _ h1, g _ _ h2, g _ _ h3⟩
theorem BegsAt.mono {xs : List Nat} (g : Ex H H') (h : BegsAt a s H l xs) : BegsAt a s H' l xs := let ⟨bs, h1, h2⟩ := h; ⟨bs, g _ _ h1, p_mono h2 fun _ _ => BegAt.mono g⟩
theorem EvAt.mono (g : Ex H H') (h : EvAt a s H e) : EvAt a s H' e := let ⟨lb, h1, h2⟩ := h; ⟨lb, h1.mono g, h2.mono g⟩
/-- a list of references changes: a beginning stands -/
theorem BegAt.upd {m : List Addr} {o : HO} (hd : 1 ≤ s.digits) (hl : H l = some (.lst (vR m))) (h : BegAt a s H p x) : BegAt a s (upd H l o) p x := by
  obtain ⟨dx, q, h1, h2⟩ := h
  refine ⟨dx, q, ?_, ?_⟩
  · rw [upd_ne (ne_of h1 hl (by intro z; cases z))]
    exact h1
  · rw [upd_ne (ne_of h2 hl (vN_ne (tab_ne hd)))]
    exact h2
end

/-! ### words -/
section
variable {K : PySem.W.Frag} {σ : L2.St} {H H' : Hp} {ta tb te tv : TE} {y : V} {D : Ends} {tz : TS}
theorem ev_all : Ev (tC (.int 127)) σ H (.int ((127 : Nat) : Int)) := ev_c
theorem ev_and {m n : Nat} (h1 : Ev ta σ H (.int (m : Int))) (h2 : Ev tb σ H (.int (n : Int))) : Ev (tOp (rI0 fun i j => .int (Builtin.bitAnd i j)) ta tb) σ H (.int ((m &&& n : Nat) : Int)) := ev_is (ev_op h1 h2 rv_I0) (congrArg V.int (i_and m n))
theorem ev_or {m n : Nat} (h1 : Ev ta σ H (.int (m : Int))) (h2 : Ev tb σ H (.int (n : Int))) : Ev (tOp (rI0 fun i j => .int (Builtin.bitOr i j)) ta tb) σ H (.int ((m ||| n : Nat) : Int)) := ev_is (ev_op h1 h2 rv_I0) (congrArg V.int (i_or m n))
theorem ev_xor {m n : Nat} (h1 : Ev ta σ H (.int (m : Int))) (h2 : Ev tb σ H (.int (n : Int))) : Ev (tOp (rI0 fun i j => .int (Builtin.bitXor i j)) ta tb) σ H (.int ((m ^^^ n : Nat) : Int)) := ev_is (ev_op h1 h2 rv_I0) (congrArg V.int (i_xor m n))
theorem ev_add {m n : Nat} (h1 : Ev ta σ H (.int (m : Int))) (h2 : Ev tb σ H (.int (n : Int))) : Ev (tOp (rI0 fun i j => .int (i + j)) ta tb) σ H (.int ((m + n : Nat) : Int)) := ev_is (ev_op h1 h2 rv_I0) (congrArg V.int (Int.natCast_add m n).symm)
theorem ev_mod {m n : Nat} (hn : 0 < n) (h1 : Ev ta σ H (.int (m : Int))) (h2 : Ev tb σ H (.int (n : Int))) : Ev (tOp (rI (fun _ j => 0 < j) fun i j => .int (i % j)) ta tb) σ H (.int ((m % n : Nat) : Int)) := ev_op h1 h2 (rv_I (show (0 : Int) < (n : Int) by omega))
/-- xs[i], a row by place -/
theorem ev_ix {p : Addr} {n i : Nat} {f : Nat → Nat} (h1 : Ev ta σ H (.ref p)) (h2 : Ev tb σ H (.int (i : Int))) (hp : H p = some (.lst (vN (tab n f)))) (hi : i < n) : Ev (tOp (rIxL K) ta tb) σ H (.int (f i : Int)) := ev_op h1 h2 (rv_ixL (sq_of hp) (at_tab hi))
theorem ev_ixl {p : Addr} {l : List Nat} {i : Nat} (h1 : Ev ta σ H (.ref p)) (h2 : Ev tb σ H (.int (i : Int))) (hp : H p = some (.lst (vN l))) (hi : i < l.length) : Ev (tOp (rIxL K) ta tb) σ H (.int (l.getD i 0 : Int)) := ev_op h1 h2 (rv_ixL (sq_of hp) (at_lit hi))
/-- [e for i in range(n)], a row -/
theorem el_row {ta : TA} {n j : Nat} {vs : List Nat} (f : Nat → Nat) (h : EvA ta σ H [.int (n : Int)]) (hn : n ≤ 1000) (hw : ∀ x, wipe ((wipe σ vs).set j (some x)) vs = wipe σ vs)
    (he : ∀ i, i < n → Ev te ((wipe σ vs).set j (some (.int (i : Int)))) H (.int (f i : Int))) : EvL (tLc (iRng1 ta) (gName j) tYes te vs) σ H (vN (tab n f)) := by
  have q := el_lcR1 (n := (n : Int)) (te := te) (j := j) (vs := vs) (fun _ => true) (fun i => .int (f i : Int)) h (by omega) hw (fun _ _ _ _ => et_yes) fun i H1 e hi _ => (he i (by omega)).mono e
  rw [Int.toNat_natCast, given_tab] at q
  exact q
theorem el_is {xs ys : List V} (h : EvL te σ H xs) (e : xs = ys) : EvL te σ H ys := by
  rw [← e]
  exact h
/-- [e for x in a row], a row -/
theorem el_rowL {tl : TE} {p : Addr} {n j : Nat} {vs : List Nat} {f : Nat → Nat} (g : Nat → Nat) (h : Ev tl σ H (.ref p)) (hp : H p = some (.lst (vN (tab n f)))) (hn : n ≤ 1000) (hw : ∀ x, wipe ((wipe σ vs).set j (some x)) vs = wipe σ vs)
    (he : ∀ i, i < n → Ev te ((wipe σ vs).set j (some (.int (f i : Int)))) H (.int (g i : Int))) : EvL (tLc (iList K tl) (gName j) tYes te vs) σ H (vN (tab n g)) := by
  have q := el_lcL (K := K) (te := te) (j := j) (vs := vs) (fun _ => true) (fun i => .int (g i : Int)) h (sq_of hp) (by rw [vN_len, tab_len]; omega) hw (fun _ _ _ _ _ => et_yes) fun i y H1 e1 hy _ => by
    have hi : i < n := by
      have := (List.getElem?_eq_some_iff.mp hy).1
      rw [vN_len, tab_len] at this
      exact this
    rw [vN_tab hi] at hy
    have ey := Option.some.inj hy
    subst ey
    exact (he i hi).mono e1
  rw [vN_len, tab_len, given_tab] at q
  exact q
theorem el_rep127 {ta : TA} {n : Nat} (h : EvA ta σ H [.int 127]) (hb : Ev tb σ H (.int (n : Int))) (hn : n ≤ 3) : EvL (tOp rRep (tLst ta) tb) σ H (vN (tab n fun _ => 127)) := by
  have q := el_rep (el_lst h (by show 1 ≤ 100000; decide)) hb (by omega) (by omega) (by show 1 * _ ≤ 100000; omega)
  have e : (List.replicate ((n : Int)).toNat [V.int 127]).flatten = vN (tab n fun _ => 127) := by
    rw [Int.toNat_natCast]
    rcases (by omega : n = 0 ∨ n = 1 ∨ n = 2 ∨ n = 3) with e | e | e | e <;> subst e <;> rfl
  rw [e] at q
  exact q
theorem el_rep0 {ta : TA} {n : Nat} (h : EvA ta σ H [.int 0]) (hb : Ev tb σ H (.int (n : Int))) (hn : n ≤ 3) : EvL (tOp rRep (tLst ta) tb) σ H (vN (tab n fun _ => 0)) := by
  have q := el_rep (el_lst h (by show 1 ≤ 100000; decide)) hb (by omega) (by omega) (by show 1 * _ ≤ 100000; omega)
  have e : (List.replicate ((n : Int)).toNat [V.int 0]).flatten = vN (tab n fun _ => 0) := by
    rw [Int.toNat_natCast]
    rcases (by omega : n = 0 ∨ n = 1 ∨ n = 2 ∨ n = 3) with e | e | e | e <;> subst e <;> rfl
  rw [e] at q
  exact q
/-- o.f = e -/
theorem s_fld {p C dx : Addr} {fs : List (Str × V)} {f : Str} (hv : Ev tv σ H y) (ha : Ev ta σ H (.ref p)) (ho : H p = some (.ins C dx fs)) (hc : Cls K C) (hn : NoAttr K C f) (hl : fs.length < 1000) (k : ∀ H1, Ex H H1 → D.nx σ (upd H1 p (.ins C dx (putF f y fs)))) : sFld K ta tv f D σ H :=
  hv H (Ex.refl H) _ fun H1 e1 => ha H1 e1 _ fun H2 e2 => ⟨p, C, dx, fs, rfl, e2 p _ (e1 p _ ho), hc, hn, hl, k H2 (e1.trans e2)⟩
theorem s_fldL {p C dx : Addr} {fs : List (Str × V)} {f : Str} {xs : List V} (hv : EvL tv σ H xs) (ha : Ev ta σ H (.ref p)) (ho : H p = some (.ins C dx fs)) (hc : Cls K C) (hn : NoAttr K C f) (hl : fs.length < 1000)
    (k : ∀ l H1, H l = none → Ex H H1 → H1 l = some (.lst xs) → D.nx σ (upd H1 p (.ins C dx (putF f (.ref l) fs)))) : sFld K ta tv f D σ H :=
  hv H (Ex.refl H) _ fun l H1 hl' e1 h1 => ha H1 e1 _ fun H2 e2 => ⟨p, C, dx, fs, rfl, e2 p _ (e1 p _ ho), hc, hn, hl, k l H2 hl' (e1.trans e2) (e2 l _ h1)⟩
theorem s_fldP {p C dx : Addr} {fs : List (Str × V)} {f : Str} {P : V → Hp → Prop} (hm : ∀ v H1 H2, Ex H1 H2 → P v H1 → P v H2) (hv : EvP tv σ H P) (ha : Ev ta σ H (.ref p)) (ho : H p = some (.ins C dx fs)) (hc : Cls K C) (hn : NoAttr K C f) (hl : fs.length < 1000)
    (k : ∀ v H1, Ex H H1 → P v H1 → D.nx σ (upd H1 p (.ins C dx (putF f v fs)))) : sFld K ta tv f D σ H :=
  hv H (Ex.refl H) _ fun v H1 e1 h1 => ha H1 e1 _ fun H2 e2 => ⟨p, C, dx, fs, rfl, e2 p _ (e1 p _ ho), hc, hn, hl, k v H2 (e1.trans e2) (hm v H1 H2 e2 h1)⟩
theorem q_fld {p C dx : Addr} {fs : List (Str × V)} {f : Str} (hv : Ev tv σ H y) (ha : Ev ta σ H (.ref p)) (ho : H p = some (.ins C dx fs)) (hc : Cls K C) (hn : NoAttr K C f) (hl : fs.length < 1000) (k : ∀ H1, Ex H H1 → tz D σ (upd H1 p (.ins C dx (putF f y fs)))) : tSeq (sFld K ta tv f) tz D σ H :=
  s_fld (D := { D with nx := tz D }) hv ha ho hc hn hl k
theorem q_fldL {p C dx : Addr} {fs : List (Str × V)} {f : Str} {xs : List V} (hv : EvL tv σ H xs) (ha : Ev ta σ H (.ref p)) (ho : H p = some (.ins C dx fs)) (hc : Cls K C) (hn : NoAttr K C f) (hl : fs.length < 1000)
    (k : ∀ l H1, H l = none → Ex H H1 → H1 l = some (.lst xs) → tz D σ (upd H1 p (.ins C dx (putF f (.ref l) fs)))) : tSeq (sFld K ta tv f) tz D σ H :=
  s_fldL (D := { D with nx := tz D }) hv ha ho hc hn hl k
/-- C(..) -/
theorem ep_make {C : Addr} {sp : Sp} {E : XK} {tr : TA} {vs : List V} {P : Addr → Hp → Prop} (hA : EvA tr σ H vs)
    (hs : ∀ x dx H1, Ex H H1 → H1 x = none → ∀ H2, Ex H1 H2 → H2 x = some (.ins C dx []) → ∀ (Q : VK) (E : XK), (∀ H3, Ex H1 H3 → P x H3 → Q .non H3) → sp (.ref x :: (vs ++ [])) H2 Q E) : EvP (tMake C sp [] E tr) σ H (fun v H' => ∃ x, v = .ref x ∧ P x H') := fun H1 e Q q =>
  hA H1 e _ fun H2 e2 x dx nx nd ne => hs x dx H2 (e.trans e2) nx _ (fun b o hb => by
    rw [upd_ne (ne_of_none hb nx), upd_ne (ne_of_none hb nd)]
    exact hb) upd_same _ E fun H3 e3 h3 => ⟨rfl, q _ H3 (e2.trans e3) ⟨x, rfl, h3⟩⟩
/-- xs.append(e) -/
theorem s_appP {l : Addr} {xs : List V} {P : V → Hp → Prop} (hl : H l = some (.lst xs)) (ha : Ev ta σ H (.ref l)) (h : EvP te σ H P) (hz : xs.length < 100000) (k : ∀ v H1, Ex H H1 → P v H1 → D.nx σ (upd H1 l (.lst (xs ++ [v])))) :
    tDrop (tBM K "list" rAppend ta (tCons te tNil)) D σ H := ha H (Ex.refl H) _ fun H1 e1 =>
  ⟨Or.inl ⟨rfl, xs, sq_of (e1 l _ hl)⟩, h H1 e1 _ fun v H2 e2 hv => ⟨l, xs, v, rfl, rfl, e2 l _ (e1 l _ hl), sz_lt hz, k v H2 (e1.trans e2) hv⟩⟩
/-- xs.extend(ys) -/
theorem s_ext {l b : Addr} {xs ys : List V} (hl : H l = some (.lst xs)) (hb : H b = some (.lst ys)) (ha : Ev ta σ H (.ref l)) (h : Ev te σ H (.ref b)) (hz : xs.length + ys.length ≤ sizeLine) (k : ∀ H1, Ex H H1 → D.nx σ (upd H1 l (.lst (xs ++ ys)))) :
    tDrop (tBM K "list" rExtend ta (tCons te tNil)) D σ H := ha H (Ex.refl H) _ fun H1 e1 =>
  ⟨Or.inl ⟨rfl, xs, sq_of (e1 l _ hl)⟩, h H1 e1 _ fun H2 e2 => ⟨l, b, xs, ys, rfl, rfl, e2 l _ (e1 l _ hl), e2 b _ (e1 b _ hb), hz, k H2 (e1.trans e2)⟩⟩
theorem ep_cbL {r : List V → Hp → VK → Prop} {xs : List V} {P : V → Hp → Prop} (h : EvL te σ H xs) (hr : ∀ p H1, Ex H H1 → H1 p = some (.lst xs) → ∀ Q : VK, (∀ v, P v H1 → Q v H1) → r [.ref p] H1 Q) : EvP (tCB r (tCons te tNil)) σ H P := fun H1 e Q q =>
  h H1 e _ fun p H2 hp e2 h2 => hr p H2 (e.trans e2) h2 Q fun v hv => q v H2 e2 hv
end
end Bs
/-! The walks of the module seeing, first part: what is made. -/
namespace Bs
open PySem PySem.Spec PyProof.Rows L2 Evl
section
variable {P : Program} {w : World} {K : PySem.W.Frag} {mg : Str → Option Value} {base : Heap} {a : Adr}
theorem sv_numbers {H : Hp} {d : Nat} (hd : d ≤ 3) : SpV spNumbers [.int (d : Int)] H (.int ((10 ^ d : Nat) : Int)) := spv_of fun _ _ _ _ k => ⟨d, rfl, hd, k⟩
theorem sl_should {H : Hp} {n d : Nat} (hd : d ≤ 3) : SpL spShould [.int (n : Int), .int (d : Int)] H (vN (tab d (shouldF d n))) := spl_of fun _ _ _ _ k => ⟨n, d, rfl, hd, k⟩
theorem sv_countAll {H : Hp} {p : Addr} {l : List Nat} (h : H p = some (.lst (vN l))) (hl : l.length ≤ 1000) : SpV (spCountAll K) [.ref p] H (.int (cntAll l : Int)) := spv_of fun H1 e _ _ k => ⟨p, l, rfl, sq_of (e p _ h), hl, k⟩

/-! ### Sight, Beginning -/
def spSightInit (a : Adr) : Sp := fun vs H Q _ => ∃ (p l dx : Addr) (t : Nat) (H0 : Hp), vs = [.ref p, .int (t : Int), .ref l] ∧ H0 p = none ∧ Ex H0 H ∧ H p = some (.ins a.S dx []) ∧ ∀ H', Ex H0 H' → H' p = some (.ins a.S dx (fS t l)) → Q .non H'
theorem ok_Sight_init {f : Addr} {fd : FuncData} (F : Fun K "__init__" "Sight.__init__" st_Sight_init f fd) (T : Txt K mg a) : FnOk P w K mg base CX0 1 f fd ["self", "time", "lit"] (spSightInit a) := by
  refine F.ok sc_Sight_init (fun vs H Q E h => ?_) (fun cdv A outer s H vs Q E hr h => ?_)
  · obtain ⟨p, l, dx, t, H0, rfl, _⟩ := h
    rfl
  · obtain ⟨p, l, dx, t, H0, rfl, np, g, hp, k⟩ := h
    refine ⟨_, (pss_cons (ps_fld (pv 0) (pv 1) rfl)
      (pss_one (ps_fld (pv 0) (pv 2) rfl))), ?_⟩
    refine q_fld (ev_var rfl) (ev_var rfl) hp T.clS T.naS_time (by show 0 < 1000; decide) fun H1 e1 => ?_
    refine s_fld (ev_var rfl) (ev_var rfl) upd_same T.clS T.naS_lit (by show 1 < 1000; decide) fun H2 e2 => k _ ((((g.trans e1).mut np).trans e2).mut np) ?_
    rw [upd_same, pS_new]
def spBegInit (a : Adr) : Sp := fun vs H Q _ => ∃ (p l dx : Addr) (x : Nat) (H0 : Hp), vs = [.ref p, .int (x : Int), .ref l] ∧ H0 p = none ∧ Ex H0 H ∧ H p = some (.ins a.B dx []) ∧ ∀ H', Ex H0 H' → H' p = some (.ins a.B dx (fB x l)) → Q .non H'
theorem ok_Beginning_init {f : Addr} {fd : FuncData} (F : Fun K "__init__" "Beginning.__init__" st_Beginning_init f fd) (T : Txt K mg a) : FnOk P w K mg base CX0 1 f fd ["self", "number", "works"] (spBegInit a) := by
  refine F.ok sc_Beginning_init (fun vs H Q E h => ?_) (fun cdv A outer s H vs Q E hr h => ?_)
  · obtain ⟨p, l, dx, t, H0, rfl, _⟩ := h
    rfl
  · obtain ⟨p, l, dx, t, H0, rfl, np, g, hp, k⟩ := h
    refine ⟨_, (pss_cons (ps_fld (pv 0) (pv 1) rfl)
      (pss_one (ps_fld (pv 0) (pv 2) rfl))), ?_⟩
    refine q_fld (ev_var rfl) (ev_var rfl) hp T.clB T.naB_number (by show 0 < 1000; decide) fun H1 e1 => ?_
    refine s_fld (ev_var rfl) (ev_var rfl) upd_same T.clB T.naB_works (by show 1 < 1000; decide) fun H2 e2 => k _ ((((g.trans e1).mut np).trans e2).mut np) ?_
    rw [upd_same, pB_new]
def spBroken (a : Adr) : Sp := fun vs H Q _ => ∃ (b : Addr) (s : Sy69.St) (x : Nat), vs = [.ref b] ∧ Wf s ∧ BegAt a s H b x ∧ RetL (vN (tab s.digits (brokF s x))) H Q
theorem ok_Beginning_broken {f : Addr} {fd : FuncData} (F : Fun K "broken" "Beginning.broken" st_Beginning_broken f fd) (T : Txt K mg a) : FnOk P w K mg base CX0 1 f fd ["self"] (spBroken a) := by
  refine F.ok sc_Beginning_broken (fun vs H Q E h => ?_) (fun cdv A outer s H vs Q E hr h => ?_)
  · obtain ⟨b, s, x, rfl, _⟩ := h
    rfl
  · obtain ⟨b, st, x, rfl, W, ⟨dx, l, h1, h2⟩, k⟩ := h
    refine ⟨_, (pss_one (ps_ret (pe_lc (own := [("strokes", 1)]) (g := gName 1) (tt := tYes) rfl sc_Beginning_broken.nd (pi_list (pe_fldK K rfl (pv 0) rfl)) (blkOk_by (own := [("strokes", 1)]) (N := nn_Beginning_broken) (sc := defScope st_Beginning_broken) (by decide +kernel)) (fun _ _ _ _ _ => pg_name (i := 1) sc_Beginning_broken.nd rfl (Or.inl rfl)) (fun _ _ _ _ _ => pts_nil) (fun _ _ _ _ _ => (pe_op op_sub (pe_gi (by rfl) T.g_ALL) (pv 1)))))), ?_⟩
    have hd := W.hi
    refine s_retL (el_rowL (brokF st x) (ev_fld (ev_var rfl) h1 T.clB T.naB_works lkB_works) h2 (by omega) (fun _ => rfl) fun i hi => ev_is (ev_op ev_c (ev_var rfl) rv_I0) (congrArg V.int ?_)) k
    have := worksF_le st x i
    unfold brokF
    omega

/-! ### working -/
def spWorking (a : Adr) : Sp := fun vs H Q _ => ∃ (x : Nat) (l : Addr) (s : Sy69.St), vs = [.int (x : Int), .int (s.digits : Int), .ref l] ∧ Wf s ∧ SightsAt a H l s.sights ∧ RetL (vN (tab s.digits (worksF s x))) H Q
theorem ok_working {f : Addr} {fd : FuncData} (F : Fun K "working" "working" st_working f fd) (T : Txt K mg a) (c_numbers_of : Callee P w K mg base "numbers_of" 1 ["digits"] spNumbers) (c_should_light : Callee P w K mg base "should_light" 1 ["number", "digits"] spShould) :
    FnOk P w K mg base CX0 2 f fd ["number", "digits", "sights"] (spWorking a) := by
  refine F.ok sc_working (fun vs H Q E h => ?_) (fun cdv A outer s H vs Q E hr h => ?_)
  · obtain ⟨x, l, s, rfl, _⟩ := h
    rfl
  · obtain ⟨x, l, st, rfl, W, ⟨ps, hl, hz⟩, k⟩ := h
    have hd := W.hi
    refine ⟨_, (pss_cons (ps_set (i := 3) sc_working.nd rfl (Or.inr rfl) (pe_op op_rep (pe_lst (pa_cons (pe_gi (by rfl) T.g_ALL) pa_nil)) (pv 1)))
      (pss_cons (ps_for PassesOwn.never rfl (pi_list (pv 2)) (pg_name (i := 4) sc_working.nd rfl (Or.inr rfl)) (pss_cons (ps_set (i := 5) sc_working.nd rfl (Or.inr rfl) (pe_cal c_should_light hr (by rfl) (pa_cons (pe_op op_mod (pe_op op_add (pv 0) (pe_fldK K rfl (pv 4) rfl)) (pe_cal c_numbers_of hr (by rfl) (pa_cons (pv 1) pa_nil))) (pa_cons (pv 1) pa_nil))))
      (pss_one (ps_set (i := 3) sc_working.nd rfl (Or.inr rfl) (pe_lc (own := [("i", 6)]) (g := gName 6) (tt := tYes) rfl sc_working.nd (pi_range1 (by rfl) T.n_range (pa_cons (pv 1) pa_nil)) (blkOk_by (own := [("i", 6)]) (N := nn_working) (sc := defScope st_working) (by decide +kernel)) (fun _ _ _ _ _ => pg_name (i := 6) sc_working.nd rfl (Or.inl rfl)) (fun _ _ _ _ _ => pts_nil) (fun _ _ _ _ _ => (pe_op op_and (pe_ix (ix_listK K rfl) (pv 3) (pv 6) (fun _ _ => rfl)) (pe_op op_xor (pe_op op_xor (pe_gi (by rfl) T.g_ALL) (pe_ix (ix_listK K rfl) (pv 5) (pv 6) (fun _ _ => rfl))) (pe_ix (ix_listK K rfl) (pe_fldK K rfl (pv 4) rfl) (pv 6) (fun _ _ => rfl))))))))))
      (pss_one (ps_ret (pv 3))))), ?_⟩
    refine q_asgL (el_rep127 (ea_cons ev_c ea_nil) (ev_var rfl) hd) fun p H1 np e1 h1 => ?_
    refine q_forLn (ev_var rfl) (sq_of (e1 l _ hl)) (fun i σ H' => Ex H H' ∧ ∃ (p : Addr) (y1 y2 : Option V), H p = none ∧ H' p = some (.lst (vN (tab st.digits (worksL st.digits (st.sights.take i) x)))) ∧ σ = [some (.int (x : Int)), some (.int (st.digits : Int)), some (.ref l), some (.ref p), y1, y2, none])
      (fun H2 e2 => ⟨e1.trans e2, p, none, none, np, e2 p _ h1, rfl⟩) (fun i σ' H' _ ⟨g, _⟩ => sq_of (g l _ hl)) ?_ ?_
    · rintro i y σ' H' hy ⟨g, p, y1, y2, np, h2, rfl⟩
      obtain ⟨q, hq, rfl⟩ := vR_get hy
      obtain ⟨z, hzi, sz⟩ := p_get hz hq
      obtain ⟨dz, lz, z1, z2⟩ := sz.mono g
      have zlen := W.lit z (List.mem_of_getElem? hzi)
      refine q_asgL (el_call (ea_cons (ev_mod (pow_pos' _) (ev_add (ev_var rfl) (ev_fld (ev_var rfl) z1 T.clS T.naS_time lkS_time)) (ev_call (ea_cons (ev_var rfl) ea_nil) (sv_numbers hd))) (ea_cons (ev_var rfl) ea_nil)) (sl_should hd)) fun u H3 nu e3 h3 => ?_
      refine s_asgL (el_row (fun k => worksL st.digits (st.sights.take (i + 1)) x k) (ea_cons (ev_var rfl) ea_nil) (by omega) (fun _ => rfl) fun k hk => ?_) fun v H4 nv e4 h4 => ⟨(g.trans e3).trans e4, v, _, _, fresh_back (g.trans e3) nv, h4, rfl⟩
      rw [show worksL st.digits (st.sights.take (i + 1)) x k = worksL st.digits (st.sights.take i) x k &&& ((127 ^^^ shouldF st.digits ((x + z.time) % 10 ^ st.digits) k) ^^^ z.lit.getD k 0) from fold_take hzi]
      exact ev_and (ev_ix (ev_var rfl) (ev_var rfl) (e3 p _ h2) hk) (ev_xor (ev_xor ev_all (ev_ix (ev_var rfl) (ev_var rfl) h3 hk)) (ev_ixl (ev_fld (ev_var rfl) (e3 _ _ z1) T.clS T.naS_lit lkS_lit) (ev_var rfl) (e3 _ _ z2) (by omega)))
    · rintro σ' H' ⟨g, p, y1, y2, np, h2, rfl⟩
      rw [vR_len, p_len hz, take_all] at h2
      exact s_ret (ev_var rfl) fun H3 e3 => k p H3 np (g.trans e3) (e3 p _ h2)

/-! ### Evidence: explains, __init__ -/
def spExplains (a : Adr) : Sp := fun vs H Q _ => ∃ (e l lb : Addr) (s : Sy69.St) (x : Nat), vs = [.ref e, .ref l] ∧ Wf s ∧ EvCore a s H e lb ∧ H l = some (.lst (vN (tab s.digits (worksF s x)))) ∧ RetV (.bl (mayB s x)) H Q
theorem given_bl (n : Nat) (b : Nat → Bool) : given n (fun _ => true) (fun i => V.bl (b i)) = ((List.range n).map b).map V.bl := by
  rw [given_all, List.map_map]
  rfl
theorem ok_Evidence_explains {f : Addr} {fd : FuncData} (F : Fun K "explains" "Evidence.explains" st_Evidence_explains f fd) (T : Txt K mg a) : FnOk P w K mg base CX0 1 f fd ["self", "works"] (spExplains a) := by
  refine F.ok sc_Evidence_explains (fun vs H Q E h => ?_) (fun cdv A outer s H vs Q E hr h => ?_)
  · obtain ⟨e, l, lb, s, x, rfl, _⟩ := h
    rfl
  · obtain ⟨e, l, lb, st, x, rfl, W, ⟨dx, ld, ll, h1, h2, h3⟩, h4, k⟩ := h
    have hd := W.hi
    refine ⟨_, (pss_one (ps_ret (pe_callB (cr_all rfl) (by rfl) T.n_all (by decide +kernel) (pa_cons (pe_lc (own := [("i", 2)]) (g := gName 2) (tt := tYes) rfl sc_Evidence_explains.nd (pi_range1 (by rfl) T.n_range (pa_cons (pe_fldK K rfl (pv 0) rfl) pa_nil)) (blkOk_by (own := [("i", 2)]) (N := nn_Evidence_explains) (sc := defScope st_Evidence_explains) (by decide +kernel)) (fun _ _ _ _ _ => pg_name (i := 2) sc_Evidence_explains.nd rfl (Or.inl rfl)) (fun _ _ _ _ _ => pts_nil) (fun _ _ _ _ _ => (pe_cmpR op_eq (pe_op op_or (pe_op op_or (pe_ix (ix_listK K rfl) (pv 1) (pv 2) (fun _ _ => rfl)) (pe_ix (ix_listK K rfl) (pe_fldK K rfl (pv 0) rfl) (pv 2) (fun _ _ => rfl))) (pe_ix (ix_listK K rfl) (pe_fldK K rfl (pv 0) rfl) (pv 2) (fun _ _ => rfl))) (pe_gi (by rfl) T.g_ALL) (nomark _)))) pa_nil)))), ?_⟩
    refine s_ret (v := .bl (mayB st x)) (ev_cbL (el_lcR1 (n := (st.digits : Int)) (fun _ => true) (fun i => .bl (worksF st x i ||| darkF st i ||| litF st i == 127)) (ea_cons (ev_fld (ev_var rfl) h1 T.clE T.naE_digits lkE_digits) ea_nil) (by omega) (fun _ => rfl) (fun _ _ _ _ => et_yes) (fun i H1 e1 hi _ => ?_)) fun q H1 e1 hq => ?_) k
    · refine Ev.mono e1 (ev_is (ev_op (ev_or (ev_or (ev_ix (ev_var rfl) (ev_var rfl) h4 (by omega)) (ev_ix (ev_fld (ev_var rfl) h1 T.clE T.naE_dark lkE_dark) (ev_var rfl) h2 (by omega))) (ev_ix (ev_fld (ev_var rfl) h1 T.clE T.naE_lit lkE_lit) (ev_var rfl) h3 (by omega))) ev_all (rv_eq rfl)) (congrArg V.bl ?_))
      rw [dec_int, Bool.eq_iff_iff, beq_iff_eq, beq_iff_eq]
      omega
    · rw [Int.toNat_natCast, given_bl] at hq
      refine fun H2 e2 Q2 k2 => ⟨q, _, rfl, sq_of (e2 q _ hq), ?_⟩
      rw [List.all_map]
      exact k2 H2 (Ex.refl H2)
def spEvInit (a : Adr) : Sp := fun vs H Q _ => ∃ (p l dx : Addr) (s : Sy69.St) (H0 : Hp), vs = [.ref p, .int (s.digits : Int), .ref l] ∧ Wf s ∧ H0 p = none ∧ Ex H0 H ∧ H p = some (.ins a.E dx []) ∧ SightsAt a H0 l s.sights ∧ ∀ H', Ex H0 H' → EvAt a s H' p → Q .non H'
theorem ne_upd {H : Hp} {p q : Addr} {o : HO} (h : (upd H p o) q = none) : q ≠ p := fun e => by
  rw [e, upd_same] at h
  cases h
theorem ok_Evidence_init {f : Addr} {fd : FuncData} (F : Fun K "__init__" "Evidence.__init__" st_Evidence_init f fd) (T : Txt K mg a) (c_numbers_of : Callee P w K mg base "numbers_of" 1 ["digits"] spNumbers) (c_working : Callee P w K mg base "working" 2 ["number", "digits", "sights"] (spWorking a))
    (c_Evidence_explains : MethC P w K mg base a.E "explains" 1 ["self", "works"] (spExplains a)) (c_Beginning_init : MakeC P w K mg base "Beginning" a.B 1 ["self", "number", "works"] (spBegInit a)) : FnOk P w K mg base CX0 3 f fd ["self", "digits", "sights"] (spEvInit a) := by
  refine F.ok sc_Evidence_init (fun vs H Q E h => ?_) (fun cdv A outer s H vs Q E hr h => ?_)
  · obtain ⟨p, l, dx, s, H0, rfl, _⟩ := h
    rfl
  · obtain ⟨p, l, dx, st, H0, rfl, W, np, g, hp, ⟨ps, hl, hz⟩, k⟩ := h
    have hd := W.hi
    have hd1 := W.lo
    refine ⟨_, (pss_cons (ps_fld (pv 0) (pv 1) rfl)
      (pss_cons (ps_fld (pv 0) (pe_op op_rep (pe_lst (pa_cons (pe_gi (by rfl) T.g_ALL) pa_nil)) (pv 1)) rfl)
      (pss_cons (ps_fld (pv 0) (pe_op op_rep (pe_lst (pa_cons (pe_gi (by rfl) T.g_ALL) pa_nil)) (pv 1)) rfl)
      (pss_cons (ps_for PassesOwn.never rfl (pi_list (pv 2)) (pg_name (i := 3) sc_Evidence_init.nd rfl (Or.inr rfl)) (pss_cons (ps_fld (pv 0) (pe_lc (own := [("i", 6)]) (g := gName 6) (tt := tYes) rfl sc_Evidence_init.nd (pi_range1 (by rfl) T.n_range (pa_cons (pv 1) pa_nil)) (blkOk_by (own := [("i", 6)]) (N := nn_Evidence_init) (sc := defScope st_Evidence_init) (by decide +kernel)) (fun _ _ _ _ _ => pg_name (i := 6) sc_Evidence_init.nd rfl (Or.inl rfl)) (fun _ _ _ _ _ => pts_nil) (fun _ _ _ _ _ => (pe_op op_and (pe_ix (ix_listK K rfl) (pe_fldK K rfl (pv 0) rfl) (pv 6) (fun _ _ => rfl)) (pe_op op_xor (pe_gi (by rfl) T.g_ALL) (pe_ix (ix_listK K rfl) (pe_fldK K rfl (pv 3) rfl) (pv 6) (fun _ _ => rfl)))))) rfl)
      (pss_one (ps_fld (pv 0) (pe_lc (own := [("i", 6)]) (g := gName 6) (tt := tYes) rfl sc_Evidence_init.nd (pi_range1 (by rfl) T.n_range (pa_cons (pv 1) pa_nil)) (blkOk_by (own := [("i", 6)]) (N := nn_Evidence_init) (sc := defScope st_Evidence_init) (by decide +kernel)) (fun _ _ _ _ _ => pg_name (i := 6) sc_Evidence_init.nd rfl (Or.inl rfl)) (fun _ _ _ _ _ => pts_nil) (fun _ _ _ _ _ => (pe_op op_and (pe_ix (ix_listK K rfl) (pe_fldK K rfl (pv 0) rfl) (pv 6) (fun _ _ => rfl)) (pe_ix (ix_listK K rfl) (pe_fldK K rfl (pv 3) rfl) (pv 6) (fun _ _ => rfl))))) rfl))))
      (pss_cons (ps_fld (pv 0) (pe_lst pa_nil) rfl)
      (pss_one (ps_for PassesOwn.never rfl (pi_range1 (by rfl) T.n_range (pa_cons (pe_cal c_numbers_of (hr.mono (by decide)) (by rfl) (pa_cons (pv 1) pa_nil)) pa_nil)) (pg_name (i := 4) sc_Evidence_init.nd rfl (Or.inl rfl)) (pss_cons (ps_set (i := 5) sc_Evidence_init.nd rfl (Or.inl rfl) (pe_cal c_working hr (by rfl) (pa_cons (pv 4) (pa_cons (pv 1) (pa_cons (pv 2) pa_nil)))))
      (pss_one (ps_if (pt_val (pe_mtc (pv 0) T.clE c_Evidence_explains (hr.mono (by decide)) (pa_cons (pv 5) pa_nil))) (pss_one (ps_expr (pe_bm PySem.F.plainAttrs_list PySem.F.slot_list_append PySem.F.type_list_append mt_append (pe_fldK K rfl (pv 0) rfl) (pa_cons (pe_mkc c_Beginning_init hr (by rfl) (pa_cons (pv 4) (pa_cons (pv 5) pa_nil))) pa_nil)))) pss_nil)))))))))), ?_⟩
    refine q_fld (ev_var rfl) (ev_var rfl) hp T.clE T.naE_digits (by show 0 < 1000; decide) fun H1 e1 => ?_
    have g1 := (g.trans e1).mut (o := .ins a.E dx (putF "digits" (.int (st.digits : Int)) [])) np
    refine q_fldL (el_rep127 (ea_cons ev_c ea_nil) (ev_var rfl) hd) (ev_var rfl) upd_same T.clE T.naE_dark (by show 1 < 1000; decide) fun ld H2 nld e2 h2 => ?_
    have g2 := (g1.trans e2).mut (o := .ins a.E dx (putF "dark" (.ref ld) (putF "digits" (.int (st.digits : Int)) []))) np
    have ld1 := ne_upd nld
    refine q_fldL (el_rep127 (ea_cons ev_c ea_nil) (ev_var rfl) hd) (ev_var rfl) upd_same T.clE T.naE_lit (by show 2 < 1000; decide) fun ll H3 nll e3 h3 => ?_
    have ll1 := ne_upd nll
    rw [pE_new]
    have g3 := (g2.trans e3).mut (o := .ins a.E dx (fE3 st.digits ld ll)) np
    refine q_forLn (ev_var rfl) (sq_of (g3 l _ hl)) (fun i σ H' => Ex H0 H' ∧ ∃ (ld ll : Addr) (y : Option V), H' p = some (.ins a.E dx (fE3 st.digits ld ll)) ∧ H' ld = some (.lst (vN (tab st.digits (darkL (st.sights.take i))))) ∧ H' ll = some (.lst (vN (tab st.digits (litL (st.sights.take i))))) ∧
        σ = [some (.ref p), some (.int (st.digits : Int)), some (.ref l), y, none, none, none]) (fun H4 e4 => ⟨g3.trans e4, ld, ll, none, e4 p _ upd_same, e4 ld _ ?_, e4 ll _ ?_, rfl⟩) (fun i σ' H' _ ⟨g, _⟩ => sq_of (g l _ hl)) ?_ ?_
    · rw [upd_ne ld1]
      refine e3 ld _ ?_
      rw [upd_ne ld1]
      exact h2
    · rw [upd_ne ll1]
      exact h3
    · rintro i y σ' H' hy ⟨g4, ld, ll, y3, q1, q2, q3, rfl⟩
      obtain ⟨q, hq, rfl⟩ := vR_get hy
      obtain ⟨z, hzi, sz⟩ := p_get hz hq
      obtain ⟨dz, lz, z1, z2⟩ := sz.mono g4
      have zlen := W.lit z (List.mem_of_getElem? hzi)
      refine q_fldL (el_row (fun k => darkL (st.sights.take (i + 1)) k) (ea_cons (ev_var rfl) ea_nil) (by omega) (fun _ => rfl) fun k hk => ?_) (ev_var rfl) q1 T.clE T.naE_dark (by show 3 < 1000; decide) fun ld' H5 nld e5 h5 => ?_
      · rw [show darkL (st.sights.take (i + 1)) k = darkL (st.sights.take i) k &&& (127 ^^^ z.lit.getD k 0) from fold_take hzi]
        exact ev_and (ev_ix (ev_fld (ev_var rfl) q1 T.clE T.naE_dark lkE3_dark) (ev_var rfl) q2 hk) (ev_xor ev_all (ev_ixl (ev_fld (ev_var rfl) z1 T.clS T.naS_lit lkS_lit) (ev_var rfl) z2 (by omega)))
      rw [pE_dark]
      have ldp : ld' ≠ p := (ne_of_none q1 nld).symm
      have llp : ll ≠ p := ne_of q3 q1 (by intro z; cases z)
      have g5 := (g4.trans e5).mut (o := .ins a.E dx (fE3 st.digits ld' ll)) np
      obtain ⟨dz2, lz2, z3, z4⟩ := sz.mono g5
      have q3' : (upd H5 p (.ins a.E dx (fE3 st.digits ld' ll))) ll = some (.lst (vN (tab st.digits (litL (st.sights.take i))))) := by
        rw [upd_ne llp]
        exact e5 ll _ q3
      have q2' : (upd H5 p (.ins a.E dx (fE3 st.digits ld' ll))) ld' = some (.lst (vN (tab st.digits (darkL (st.sights.take (i + 1)))))) := by
        rw [upd_ne ldp]
        exact h5
      refine s_fldL (el_row (fun k => litL (st.sights.take (i + 1)) k) (ea_cons (ev_var rfl) ea_nil) (by omega) (fun _ => rfl) fun k hk => ?_) (ev_var rfl) upd_same T.clE T.naE_lit (by show 3 < 1000; decide) fun ll' H6 nll e6 h6 => ?_
      · rw [show litL (st.sights.take (i + 1)) k = litL (st.sights.take i) k &&& z.lit.getD k 0 from fold_take hzi]
        exact ev_and (ev_ix (ev_fld (ev_var rfl) upd_same T.clE T.naE_lit lkE3_lit) (ev_var rfl) q3' hk) (ev_ixl (ev_fld (ev_var rfl) z3 T.clS T.naS_lit lkS_lit) (ev_var rfl) z4 (by omega))
      rw [pE_lit]
      have llp' : ll' ≠ p := ne_upd nll
      refine ⟨(g5.trans e6).mut np, ld', ll', _, upd_same, ?_, ?_, rfl⟩
      · rw [upd_ne ldp]
        exact e6 ld' _ q2'
      · rw [upd_ne llp']
        exact h6
    · rintro σ' H' ⟨g4, ld, ll, y3, q1, q2, q3, rfl⟩
      rw [vR_len, p_len hz, take_all] at q2 q3
      refine q_fldL (el_lst ea_nil (Nat.zero_le _)) (ev_var rfl) q1 T.clE T.naE_beginnings (by show 3 < 1000; decide) fun lb H5 nlb e5 h5 => ?_
      rw [pE_all]
      have lbp : lb ≠ p := (ne_of_none q1 nlb).symm
      have ldp : ld ≠ p := ne_of q2 q1 (by intro z; cases z)
      have llp : ll ≠ p := ne_of q3 q1 (by intro z; cases z)
      have nb0 : H0 lb = none := fresh_back g4 nlb
      have g5 := (g4.trans e5).mut (o := .ins a.E dx (fE st.digits ld ll lb)) np
      have r2 : (upd H5 p (.ins a.E dx (fE st.digits ld ll lb))) ld = some (.lst (vN (tab st.digits (darkF st)))) := by
        rw [upd_ne ldp]
        exact e5 ld _ q2
      have r3 : (upd H5 p (.ins a.E dx (fE st.digits ld ll lb))) ll = some (.lst (vN (tab st.digits (litF st)))) := by
        rw [upd_ne llp]
        exact e5 ll _ q3
      have r5 : (upd H5 p (.ins a.E dx (fE st.digits ld ll lb))) lb = some (.lst (vR [])) := by
        rw [upd_ne lbp]
        exact h5
      have pw := pow_le hd
      refine s_forR1 (n := ((10 ^ st.digits : Nat) : Int)) (ea_cons (ev_call (ea_cons (ev_var rfl) ea_nil) (sv_numbers hd)) ea_nil) ⟨Int.natCast_nonneg _, Int.ofNat_le.mpr (Nat.le_trans pw (by decide))⟩ (fun i σ H' => Ex H0 H' ∧ EvCore a st H' p lb ∧ BegsAt a st H' lb ((List.range i).filter (Sy69.may st)) ∧ ∃ y4 y5 : Option V, σ = [some (.ref p), some (.int (st.digits : Int)), some (.ref l), y3, y4, y5, none])
        (fun H6 e6 => ⟨g5.trans e6, ⟨dx, ld, ll, e6 p _ upd_same, e6 ld _ r2, e6 ll _ r3⟩, ⟨[], e6 lb _ r5, .nil⟩, none, none, rfl⟩) ?_ ?_
      · rintro i σ' H6 hi ⟨g6, core, ⟨bs, b1, b2⟩, y4, y5, rfl⟩
        have hi1000 : i < 1000 := Nat.lt_of_lt_of_le (Int.ofNat_lt.mp hi) pw
        refine q_asgL (el_call (ea_cons (ev_var rfl) (ea_cons (ev_var rfl) (ea_cons (ev_var rfl) ea_nil))) (spl_of fun H7 e7 Q7 E7 k7 => ⟨i, l, st, rfl, W, ⟨ps, e7 l _ (g6 l _ hl), p_mono hz fun _ _ => SightAt.mono (g6.trans e7)⟩, k7⟩)) fun lw H7 nw e7 h7 => ?_
        obtain ⟨dy, ld', ll', c1, c2, c3⟩ := core.mono e7
        have c1' : H7 p = some (.ins a.E dy (fE st.digits ld' ll' lb)) := c1
        refine s_when (et_B (ev_meth (ev_var rfl) c1' noE_explains (ea_cons (ev_var rfl) ea_nil) (spv_of fun H8 e8 Q8 E8 k8 => ⟨p, lw, lb, st, i, rfl, W, (core.mono e7).mono e8, e8 lw _ h7, k8⟩))) (fun hb H8 e8 => ?_) (fun hb H8 e8 => ?_)
        · have b1' : H8 lb = some (.lst (vR bs)) := e8 lb _ (e7 lb _ b1)
          have blen : bs.length ≤ i := by
            have h := List.length_filter_le (Sy69.may st) (List.range i)
            rw [List.length_range, ← p_len b2] at h
            exact h
          refine s_appP b1' (ev_fld (ev_var rfl) (e8 p _ c1') T.clE T.naE_beginnings lkE_beginnings) (ep_make (P := fun x H' => ∃ dx, H' x = some (.ins a.B dx (fB i lw))) (ea_cons (ev_var rfl) (ea_cons (ev_var rfl) ea_nil)) fun x dx H9 e9 nx H10 e10 hx Q E kq => ⟨x, lw, dx, i, H9, rfl, nx, e10, hx, fun H' gg hh => kq H' gg ⟨dx, hh⟩⟩) (by rw [vR_len]; omega) fun v H9 e9 hv => ?_
          obtain ⟨x, rfl, dz, hx⟩ := hv
          have b1'' : H9 lb = some (.lst (vR bs)) := e9 lb _ b1'
          have cc := ((core.mono e7).mono e8).mono e9
          obtain ⟨dw, ld2, ll2, w1, w2, w3⟩ := cc
          have w : worksF st i = worksF st i := rfl
          refine ⟨(((g6.trans e7).trans e8).trans e9).mut nb0, ⟨dw, ld2, ll2, ?_, ?_, ?_⟩, ⟨bs ++ [x], ?_, ?_⟩, _, _, rfl⟩
          · rw [upd_ne (ne_of w1 b1'' (by intro z; cases z))]
            exact w1
          · rw [upd_ne (ne_of w2 b1'' (vN_ne (tab_ne hd1)))]
            exact w2
          · rw [upd_ne (ne_of w3 b1'' (vN_ne (tab_ne hd1)))]
            exact w3
          · rw [upd_same]
            unfold vR
            rw [List.map_append]
            rfl
          · rw [List.range_succ, List.filter_append, List.filter_cons, if_pos (by rw [← may_eq]; exact hb)]
            refine p_snoc (p_mono b2 fun u v h => ((h.mono e7).mono e8).mono e9 |>.upd hd1 b1'') ?_
            exact BegAt.upd hd1 b1'' ⟨dz, lw, hx, e9 lw _ (e8 lw _ h7)⟩
        · refine ⟨(g6.trans e7).trans e8, (core.mono e7).mono e8, ⟨bs, e8 lb _ (e7 lb _ b1), ?_⟩, _, _, rfl⟩
          rw [List.range_succ, List.filter_append, List.filter_cons, if_neg (by rw [← may_eq, hb]; decide)]
          show Paired _ bs (_ ++ [])
          rw [List.append_nil]
          exact p_mono b2 fun u v h => (h.mono e7).mono e8
      · rintro σ' H6 ⟨g6, core, begs, y4, y5, rfl⟩
        rw [Int.toNat_natCast] at begs
        exact k H6 g6 ⟨lb, core, begs⟩
end
end Bs
/-! The walks of the module seeing, second part: what is asked. -/
namespace Bs
open PySem PySem.Spec PyProof.Rows L2 Evl
section
variable {P : Program} {w : World} {K : PySem.W.Frag} {mg : Str → Option Value} {base : Heap} {a : Adr}

/-! ### beginning -/
def BegOr (a : Adr) (s : Sy69.St) (x : Nat) (v : V) (H : Hp) : Prop := (x ∈ Sy69.all_ s ∧ ∃ b, v = .ref b ∧ BegAt a s H b x) ∨ (x ∉ Sy69.all_ s ∧ v = .non)
def spBeginning (a : Adr) : Sp := fun vs H Q _ => ∃ (e : Addr) (s : Sy69.St) (x : Nat), vs = [.ref e, .int (x : Int)] ∧ Wf s ∧ EvAt a s H e ∧ RetP (BegOr a s x) H Q
theorem ok_Evidence_beginning {f : Addr} {fd : FuncData} (F : Fun K "beginning" "Evidence.beginning" st_Evidence_beginning f fd) (T : Txt K mg a) : FnOk P w K mg base CX0 1 f fd ["self", "number"] (spBeginning a) := by
  refine F.ok sc_Evidence_beginning (fun vs H Q E h => ?_) (fun cdv A outer s H vs Q E hr h => ?_)
  · obtain ⟨e, s, x, rfl, _⟩ := h
    rfl
  · obtain ⟨e, st, x, rfl, W, ⟨lb, ⟨dx, ld, ll, h1, h2, h3⟩, bs, hb, hp⟩, k⟩ := h
    refine ⟨_, (pss_cons (ps_for PassesOwn.never rfl (pi_list (pe_fldK K rfl (pv 0) rfl)) (pg_name (i := 2) sc_Evidence_beginning.nd rfl (Or.inl rfl)) (pss_one (ps_if (pt_cmpR op_eq (pe_fldK K rfl (pv 2) rfl) (pv 1) (nomark _)) (pss_one (ps_ret (pv 2))) pss_nil)))
      (pss_one (ps_ret (pe_non)))), ?_⟩
    refine q_forLn (ev_fld (ev_var rfl) h1 T.clE T.naE_beginnings lkE_beginnings) (sq_of hb) (fun i σ H' => Ex H H' ∧ x ∉ (Sy69.all_ st).take i ∧ ∃ y, σ = [some (.ref e), some (.int (x : Int)), y])
      (fun H2 e2 => ⟨e2, by rw [List.take_zero]; exact List.not_mem_nil, none, rfl⟩) (fun i σ' H' _ ⟨g, _⟩ => sq_of (g lb _ hb)) ?_ ?_
    · rintro i y σ' H' hy ⟨g, nx, y2, rfl⟩
      obtain ⟨b, hbi, rfl⟩ := vR_get hy
      obtain ⟨z, hzi, bz⟩ := p_get hp hbi
      obtain ⟨dz, lz, z1, z2⟩ := bz.mono g
      refine s_when (et_test (ev_op (ev_fld (ev_var rfl) z1 T.clB T.naB_number lkB_number) (ev_var rfl) (rv_eq rfl))) (fun hc H3 e3 => ?_) (fun hc H3 e3 => ?_)
      · have ex : z = x := by
          have := V.int.inj (of_decide_eq_true hc)
          omega
        subst ex
        exact s_ret (ev_var rfl) fun H4 e4 => k _ H4 ((g.trans e3).trans e4) (.inl ⟨List.mem_of_getElem? hzi, b, rfl, bz.mono ((g.trans e3).trans e4)⟩)
      · refine ⟨g.trans e3, ?_, _, rfl⟩
        have nz : ¬ z = x := fun e => of_decide_eq_false hc (by rw [e])
        rw [List.take_succ, hzi]
        intro hm
        rcases List.mem_append.mp hm with q | q
        · exact nx q
        · exact nz (List.mem_singleton.mp q).symm
    · rintro σ' H' ⟨g, nx, y2, rfl⟩
      rw [vR_len, p_len hp, take_all] at nx
      exact s_ret ev_c fun H4 e4 => k _ H4 (g.trans e4) (.inr ⟨nx, rfl⟩)

/-! ### least_broken, likely -/
/-- count_of_all(b.broken()) -/
theorem ev_brk {σ : L2.St} {H : Hp} {tv : TE} {s : Sy69.St} {b : Addr} {x : Nat} (T : Txt K mg a) (W : Wf s) (h : Ev tv σ H (.ref b)) (hb : BegAt a s H b x) : Ev (tCall (spCountAll K) [] E0 (tCons (tMeth a.B "broken" (spBroken a) [] E0 tv tNil) tNil)) σ H (.int (brk s x : Int)) := by
  have hb' := hb
  obtain ⟨dx, l, h1, h2⟩ := hb
  have hd := W.hi
  refine ev_callL (el_meth h h1 noB_broken ea_nil (spl_of fun H1 e1 Q1 E1 k1 => ⟨b, s, x, rfl, W, hb'.mono e1, k1⟩)) fun p H1 e1 hp => sv_countAll hp ?_
  rw [tab_len]
  omega
def spLeast (a : Adr) : Sp := fun vs H Q _ => ∃ (e : Addr) (s : Sy69.St), vs = [.ref e] ∧ Wf s ∧ EvAt a s H e ∧ Sy69.all_ s ≠ [] ∧ RetP (fun v _ => ∃ m : Nat, v = .int (m : Int) ∧ Least s m) H Q
theorem given_at {l : List Nat} {n : Nat} (h : l.length = n) (g : Nat → V) : given n (fun _ => true) (fun i => g (l.getD i 0)) = l.map g := given_map h g
theorem getD_of {l : List Nat} {i x : Nat} (h : l[i]? = some x) : l.getD i 0 = x := by
  rw [List.getD_eq_getElem?_getD, h]
  rfl
theorem all_small {s : Sy69.St} (W : Wf s) : (Sy69.all_ s).length ≤ 1000 := Nat.le_trans (all_len s) (pow_le W.hi)
theorem ok_Evidence_least_broken {f : Addr} {fd : FuncData} (F : Fun K "least_broken" "Evidence.least_broken" st_Evidence_least_broken f fd) (T : Txt K mg a) (c_count_of_all : Callee P w K mg base "count_of_all" 2 ["places"] (spCountAll K)) (c_Beginning_broken : MethC P w K mg base a.B "broken" 1 ["self"] (spBroken a)) :
    FnOk P w K mg base CX0 3 f fd ["self"] (spLeast a) := by
  refine F.ok sc_Evidence_least_broken (fun vs H Q E h => ?_) (fun cdv A outer s H vs Q E hr h => ?_)
  · obtain ⟨e, s, rfl, _⟩ := h
    rfl
  · obtain ⟨e, st, rfl, W, ⟨lb, ⟨dx, ld, ll, h1, h2, h3⟩, bs, hb, hp⟩, hn, k⟩ := h
    refine ⟨_, (pss_one (ps_ret (pe_callB (cr_min rfl) (by rfl) T.n_min (by decide +kernel) (pa_cons (pe_lc (own := [("found", 1)]) (g := gName 1) (tt := tYes) rfl sc_Evidence_least_broken.nd (pi_list (pe_fldK K rfl (pv 0) rfl)) (blkOk_by (own := [("found", 1)]) (N := nn_Evidence_least_broken) (sc := defScope st_Evidence_least_broken) (by decide +kernel)) (fun _ _ _ _ _ => pg_name (i := 1) sc_Evidence_least_broken.nd rfl (Or.inl rfl)) (fun _ _ _ _ _ => pts_nil) (fun _ _ _ _ _ => (pe_cal c_count_of_all hr (by rfl) (pa_cons (pe_mtc0 (pv 1) T.clB c_Beginning_broken (hr.mono (by decide))) pa_nil)))) pa_nil)))), ?_⟩
    have hsm := all_small W
    refine s_retP (ep_cbL (el_is (el_lcL (fun _ => true) (fun i => .int (brk st ((Sy69.all_ st).getD i 0) : Int)) (ev_fld (ev_var rfl) h1 T.clE T.naE_beginnings lkE_beginnings) (sq_of hb) (by rw [vR_len, p_len hp]; omega) (fun _ => rfl) (fun _ _ _ _ _ => et_yes) (fun i y H1 e1 hy _ => ?_))
      (show _ = ((Sy69.all_ st).map fun x => (brk st x : Int)).map V.int from ?_)) (P := fun v _ => ∃ m : Nat, v = .int (m : Int) ∧ Least st m) fun q H1 e1 hq Q1 k1 => ?_) k
    · obtain ⟨b, hbi, rfl⟩ := vR_get hy
      obtain ⟨z, hzi, bz⟩ := p_get hp hbi
      rw [getD_of hzi]
      exact ev_brk T W (ev_var rfl) (bz.mono e1)
    · rw [vR_len, p_len hp, given_at rfl (fun x => V.int (brk st x : Int)), List.map_map]
      rfl
    · refine ⟨q, _, rfl, sq_of hq, ?_, fun m hm hle => ?_⟩
      · rw [List.length_map]
        cases e : Sy69.all_ st with
        | nil => exact absurd e hn
        | cons y r => exact Nat.succ_pos _
      · obtain ⟨x, hx, rfl⟩ := List.mem_map.mp hm
        refine k1 _ ⟨brk st x, rfl, ⟨x, hx, rfl⟩, fun y hy => ?_⟩
        have := hle _ (List.mem_map.mpr ⟨y, hy, rfl⟩)
        omega
def spELikely (a : Adr) : Sp := fun vs H Q _ => ∃ (e : Addr) (s : Sy69.St), vs = [.ref e] ∧ Wf s ∧ EvAt a s H e ∧ Sy69.all_ s ≠ [] ∧ RetP (fun v H' => ∃ (p : Addr) (m : Nat), v = .ref p ∧ Least s m ∧ BegsAt a s H' p (likelyM s m)) H Q
theorem ok_Evidence_likely {f : Addr} {fd : FuncData} (F : Fun K "likely" "Evidence.likely" st_Evidence_likely f fd) (T : Txt K mg a) (c_count_of_all : Callee P w K mg base "count_of_all" 2 ["places"] (spCountAll K)) (c_Beginning_broken : MethC P w K mg base a.B "broken" 1 ["self"] (spBroken a))
    (c_Evidence_least_broken : MethC P w K mg base a.E "least_broken" 3 ["self"] (spLeast a)) : FnOk P w K mg base CX0 4 f fd ["self"] (spELikely a) := by
  refine F.ok sc_Evidence_likely (fun vs H Q E h => ?_) (fun cdv A outer s H vs Q E hr h => ?_)
  · obtain ⟨e, s, rfl, _⟩ := h
    rfl
  · obtain ⟨e, st, rfl, W, hE, hn, k⟩ := h
    have hE' := hE
    obtain ⟨lb, ⟨dx, ld, ll, h1, h2, h3⟩, bs, hb, hp⟩ := hE'
    refine ⟨_, (pss_cons (ps_set (i := 1) sc_Evidence_likely.nd rfl (Or.inr rfl) (pe_mtc0 (pv 0) T.clE c_Evidence_least_broken hr))
      (pss_one (ps_ret (pe_lc (own := [("found", 2)]) (g := gName 2) rfl sc_Evidence_likely.nd (pi_list (pe_fldK K rfl (pv 0) rfl)) (blkOk_by (own := [("found", 2)]) (N := nn_Evidence_likely) (sc := defScope st_Evidence_likely) (by decide +kernel)) (fun _ _ _ _ _ => pg_name (i := 2) sc_Evidence_likely.nd rfl (Or.inl rfl)) (fun _ _ _ _ _ => (pts_one (pt_cmpR op_eq (pe_cal c_count_of_all (hr.mono (by decide)) (by rfl) (pa_cons (pe_mtc0 (pv 2) T.clB c_Beginning_broken (hr.mono (by decide))) pa_nil)) (pv 1) (nomark _)))) (fun _ _ _ _ _ => (pv 2)))))), ?_⟩
    have hsm := all_small W
    refine q_asgP (ep_meth (P := fun v _ => ∃ m : Nat, v = .int (m : Int) ∧ Least st m) (ev_var rfl) h1 noE_least_broken ea_nil (spp_of fun H1 e1 Q1 E1 k1 => ⟨e, st, rfl, W, hE.mono e1, hn, k1⟩)) ?_
    rintro _ H1 e1 ⟨m, rfl, hm⟩
    obtain ⟨bs', k1, k2⟩ := p_keep (fun x => brk st x == m) 0 0 V.ref hp
    refine s_retL (el_is (el_lcL (fun i => brk st ((Sy69.all_ st).getD i 0) == m) (fun i => .ref (bs.getD i 0)) (ev_fld (ev_var rfl) (e1 _ _ h1) T.clE T.naE_beginnings lkE_beginnings) (sq_of (e1 _ _ hb)) (by rw [vR_len, p_len hp]; omega) (fun _ => rfl) (fun i y H2 e2 hy => ?_) (fun i y H2 e2 hy _ => ?_))
      (show _ = vR bs' from ?_)) fun p H2 np e2 hp2 => k _ H2 (e1.trans e2) ⟨p, m, rfl, hm, bs', hp2, p_mono k1 fun u v h => h.mono (e1.trans e2)⟩
    · obtain ⟨b, hbi, rfl⟩ := vR_get hy
      obtain ⟨z, hzi, bz⟩ := p_get hp hbi
      rw [getD_of hzi]
      refine et_is (et_test (ev_op (ev_brk T W (ev_var rfl) (bz.mono (e1.trans e2))) (ev_var rfl) (rv_eq rfl))) ?_
      rw [dec_int, Bool.eq_iff_iff, beq_iff_eq, beq_iff_eq]
      omega
    · obtain ⟨b, hbi, rfl⟩ := vR_get hy
      rw [getD_of hbi]
      exact ev_var rfl
    · rw [vR_len, p_len hp]
      exact k2

/-! ### states_of -/
theorem ev_bit {σ : L2.St} {H : Hp} {ta tb : TE} {m i : Nat} (h1 : Ev ta σ H (.int (m : Int))) (h2 : Ev tb σ H (.int (i : Int))) :
    Ev (tOp rEq (tOp (rI0 fun i j => .int (Builtin.bitAnd i j)) (tOp (rI (fun _ j => 0 ≤ j) fun i j => .int (i / 2 ^ j.toNat)) ta tb) (tC (.int 1))) (tC (.int 1))) σ H (.bl (m.testBit i)) :=
  ev_is (ev_op (ev_op (ev_op h1 h2 (rv_I (Int.natCast_nonneg i))) ev_c rv_I0) ev_c (rv_eq rfl)) (congrArg V.bl (bit_test m i))
def spStates (a : Adr) : Sp := fun vs H Q _ => ∃ (e : Addr) (s : Sy69.St) (k i : Nat), vs = [.ref e, .int (k : Int), .int (i : Int)] ∧ Wf s ∧ EvAt a s H e ∧ k < s.digits ∧ RetL (vN (unionM s k i)) H Q
theorem ok_Evidence_states_of {f : Addr} {fd : FuncData} (F : Fun K "states_of" "Evidence.states_of" st_Evidence_states_of f fd) (T : Txt K mg a) : FnOk P w K mg base CX0 1 f fd ["self", "place", "stroke"] (spStates a) := by
  refine F.ok sc_Evidence_states_of (fun vs H Q E h => ?_) (fun cdv A outer s H vs Q E hr h => ?_)
  · obtain ⟨e, s, kk, i, rfl, _⟩ := h
    rfl
  · obtain ⟨e, st, pl, sk, rfl, W, hE, hpl, k⟩ := h
    have hE' := hE
    obtain ⟨lb, ⟨dx, ld, ll, h1, h2, h3⟩, bs, hb, hp⟩ := hE'
    have hd := W.hi
    have hsm := all_small W
    refine ⟨_, (pss_cons (ps_set (i := 3) sc_Evidence_states_of.nd rfl (Or.inl rfl) (pe_lst pa_nil))
      (pss_cut (ps_if (pt_val (pe_callB (cr_any rfl) (by rfl) T.n_any (by decide +kernel) (pa_cons (pe_lc (own := [("found", 4)]) (g := gName 4) (tt := tYes) rfl sc_Evidence_states_of.nd (pi_list (pe_fldK K rfl (pv 0) rfl)) (blkOk_by (own := [("found", 4)]) (N := nn_Evidence_states_of) (sc := defScope st_Evidence_states_of) (by decide +kernel)) (fun _ _ _ _ _ => pg_name (i := 4) sc_Evidence_states_of.nd rfl (Or.inl rfl)) (fun _ _ _ _ _ => pts_nil) (fun _ _ _ _ _ => (pe_cmpR op_eq (pe_op op_and (pe_op op_shr (pe_ix (ix_listK K rfl) (pe_fldK K rfl (pv 4) rfl) (pv 1) (fun _ _ => rfl)) (pv 2)) (pe_int)) (pe_int) (nomark _)))) pa_nil))) (pss_one (ps_expr (pe_bm PySem.F.plainAttrs_list PySem.F.slot_list_append PySem.F.type_list_append mt_append (pv 3) (pa_cons (pe_int) pa_nil)))) pss_nil)
      (pss_cut (ps_if (pt_cmpR op_eq (pe_op op_and (pe_op op_shr (pe_ix (ix_listK K rfl) (pe_fldK K rfl (pv 0) rfl) (pv 1) (fun _ _ => rfl)) (pv 2)) (pe_int)) (pe_int) (nomark _)) (pss_one (ps_expr (pe_bm PySem.F.plainAttrs_list PySem.F.slot_list_append PySem.F.type_list_append mt_append (pv 3) (pa_cons (pe_int) pa_nil)))) pss_nil)
      (pss_cut (ps_if (pt_cmpR op_eq (pe_op op_and (pe_op op_shr (pe_ix (ix_listK K rfl) (pe_fldK K rfl (pv 0) rfl) (pv 1) (fun _ _ => rfl)) (pv 2)) (pe_int)) (pe_int) (nomark _)) (pss_one (ps_expr (pe_bm PySem.F.plainAttrs_list PySem.F.slot_list_append PySem.F.type_list_append mt_append (pv 3) (pa_cons (pe_int) pa_nil)))) pss_nil)
      (pss_one (ps_ret (pv 3))))))), ?_⟩
    refine q_asgL (el_lst ea_nil (Nat.zero_le _)) fun p H1 np e1 hp1 => ?_
    -- any works
    refine q_cut (M := fun σ H' => Ex H H' ∧ H' p = some (.lst (vN (if ((Sy69.all_ st).any fun x => (worksF st x pl).testBit sk) = true then [0] else []))) ∧ σ = [some (.ref e), some (.int (pl : Int)), some (.int (sk : Int)), some (.ref p), none]) ?_ ?_
    · refine s_when (b := (Sy69.all_ st).any fun x => (worksF st x pl).testBit sk) (et_B (ev_cbL (el_is (el_lcL (fun _ => true) (fun i => .bl ((worksF st ((Sy69.all_ st).getD i 0) pl).testBit sk)) (ev_fld (ev_var rfl) (e1 _ _ h1) T.clE T.naE_beginnings lkE_beginnings) (sq_of (e1 _ _ hb)) (by rw [vR_len, p_len hp]; omega) (fun _ => rfl) (fun _ _ _ _ _ => et_yes) (fun i y H2 e2 hy _ => ?_))
          (show _ = ((Sy69.all_ st).map fun x => (worksF st x pl).testBit sk).map V.bl from ?_)) fun q H2 e2 hq => ?_)) (fun hc H2 e2 => ?_) (fun hc H2 e2 => ?_)
      · obtain ⟨b, hbi, rfl⟩ := vR_get hy
        obtain ⟨z, hzi, bz⟩ := p_get hp hbi
        obtain ⟨dz, lz, z1, z2⟩ := bz.mono (e1.trans e2)
        rw [getD_of hzi]
        exact ev_bit (ev_ix (ev_fld (ev_var rfl) z1 T.clB T.naB_works lkB_works) (ev_var rfl) z2 hpl) (ev_var rfl)
      · rw [vR_len, p_len hp, given_at rfl (fun x => V.bl ((worksF st x pl).testBit sk)), List.map_map]
        rfl
      · refine fun H3 e3 Q3 k3 => ⟨q, _, rfl, sq_of (e3 q _ hq), ?_⟩
        rw [List.any_map]
        exact k3 H3 (Ex.refl H3)
      · refine s_app (e2 p _ hp1) (ev_var rfl) ev_c (by show 0 < 100000; decide) fun H3 e3 => ⟨((e1.trans e2).trans e3).mut np, ?_, rfl⟩
        rw [upd_same, if_pos hc]
        rfl
      · refine ⟨e1.trans e2, ?_, rfl⟩
        rw [if_neg (by rw [hc]; decide)]
        exact e2 p _ hp1
    rintro σ' H2 ⟨g2, hp2, rfl⟩
    refine q_cut (M := fun σ H' => Ex H H' ∧ H' p = some (.lst (vN ((if ((Sy69.all_ st).any fun x => (worksF st x pl).testBit sk) = true then [0] else []) ++ (if (darkF st pl).testBit sk = true then [1] else [])))) ∧ σ = [some (.ref e), some (.int (pl : Int)), some (.int (sk : Int)), some (.ref p), none]) ?_ ?_
    · refine s_when (et_test (ev_bit (ev_ix (ev_fld (ev_var rfl) (g2 _ _ h1) T.clE T.naE_dark lkE_dark) (ev_var rfl) (g2 _ _ h2) hpl) (ev_var rfl))) (fun hc H3 e3 => ?_) (fun hc H3 e3 => ?_)
      · refine s_app (e3 p _ hp2) (ev_var rfl) ev_c (by rw [vN_len]; split <;> decide) fun H4 e4 => ⟨((g2.trans e3).trans e4).mut np, ?_, rfl⟩
        rw [upd_same, if_pos hc, vN_append]
        rfl
      · refine ⟨g2.trans e3, ?_, rfl⟩
        rw [if_neg (show ¬ (darkF st pl).testBit sk = true by rw [hc]; decide), List.append_nil]
        exact e3 p _ hp2
    rintro σ' H3 ⟨g3, hp3, rfl⟩
    refine q_cut (M := fun σ H' => Ex H H' ∧ H' p = some (.lst (vN (unionM st pl sk))) ∧ σ = [some (.ref e), some (.int (pl : Int)), some (.int (sk : Int)), some (.ref p), none]) ?_ ?_
    · refine s_when (et_test (ev_bit (ev_ix (ev_fld (ev_var rfl) (g3 _ _ h1) T.clE T.naE_lit lkE_lit) (ev_var rfl) (g3 _ _ h3) hpl) (ev_var rfl))) (fun hc H4 e4 => ?_) (fun hc H4 e4 => ?_)
      · refine s_app (e4 p _ hp3) (ev_var rfl) ev_c (by rw [vN_len, List.length_append]; split <;> split <;> decide) fun H5 e5 => ⟨((g3.trans e4).trans e5).mut np, ?_, rfl⟩
        unfold unionM
        rw [upd_same, if_pos hc, ← List.append_assoc]
        exact congrArg (fun z => some (HO.lst z)) (vN_append _ [2]).symm
      · refine ⟨g3.trans e4, ?_, rfl⟩
        unfold unionM
        rw [if_neg (show ¬ (litF st pl).testBit sk = true by rw [hc]; decide), List.append_nil]
        exact e4 p _ hp3
    rintro σ' H4 ⟨g4, hp4, rfl⟩
    exact s_ret (ev_var rfl) fun H5 e5 => k p H5 np (g4.trans e5) (e5 p _ hp4)

/-! ### surely_broken, surely_working -/
def spSb (a : Adr) : Sp := fun vs H Q _ => ∃ (e : Addr) (s : Sy69.St), vs = [.ref e] ∧ Wf s ∧ EvAt a s H e ∧ RetL (vN (tab s.digits (sbF s))) H Q
theorem ok_Evidence_surely_broken {f : Addr} {fd : FuncData} (F : Fun K "surely_broken" "Evidence.surely_broken" st_Evidence_surely_broken f fd) (T : Txt K mg a) : FnOk P w K mg base CX0 1 f fd ["self"] (spSb a) := by
  refine F.ok sc_Evidence_surely_broken (fun vs H Q E h => ?_) (fun cdv A outer s H vs Q E hr h => ?_)
  · obtain ⟨e, s, rfl, _⟩ := h
    rfl
  · obtain ⟨e, st, rfl, W, ⟨lb, ⟨dx, ld, ll, h1, h2, h3⟩, bs, hb, hp⟩, k⟩ := h
    have hd := W.hi
    refine ⟨_, (pss_cons (ps_set (i := 1) sc_Evidence_surely_broken.nd rfl (Or.inr rfl) (pe_op op_rep (pe_lst (pa_cons (pe_gi (by rfl) T.g_ALL) pa_nil)) (pe_fldK K rfl (pv 0) rfl)))
      (pss_cons (ps_for PassesOwn.never rfl (pi_list (pe_fldK K rfl (pv 0) rfl)) (pg_name (i := 2) sc_Evidence_surely_broken.nd rfl (Or.inr rfl)) (pss_one (ps_set (i := 1) sc_Evidence_surely_broken.nd rfl (Or.inr rfl) (pe_lc (own := [("i", 3)]) (g := gName 3) (tt := tYes) rfl sc_Evidence_surely_broken.nd (pi_range1 (by rfl) T.n_range (pa_cons (pe_fldK K rfl (pv 0) rfl) pa_nil)) (blkOk_by (own := [("i", 3)]) (N := nn_Evidence_surely_broken) (sc := defScope st_Evidence_surely_broken) (by decide +kernel)) (fun _ _ _ _ _ => pg_name (i := 3) sc_Evidence_surely_broken.nd rfl (Or.inl rfl)) (fun _ _ _ _ _ => pts_nil) (fun _ _ _ _ _ => (pe_op op_and (pe_ix (ix_listK K rfl) (pv 1) (pv 3) (fun _ _ => rfl)) (pe_op op_xor (pe_gi (by rfl) T.g_ALL) (pe_ix (ix_listK K rfl) (pe_fldK K rfl (pv 2) rfl) (pv 3) (fun _ _ => rfl)))))))))
      (pss_one (ps_ret (pv 1))))), ?_⟩
    refine q_asgL (el_rep127 (ea_cons ev_c ea_nil) (ev_fld (ev_var rfl) h1 T.clE T.naE_digits lkE_digits) hd) fun p H1 np e1 hp1 => ?_
    refine q_forLn (ev_fld (ev_var rfl) (e1 _ _ h1) T.clE T.naE_beginnings lkE_beginnings) (sq_of (e1 _ _ hb)) (fun i σ H' => Ex H H' ∧ ∃ (p : Addr) (y : Option V), H p = none ∧ H' p = some (.lst (vN (tab st.digits fun k => ((Sy69.all_ st).take i).foldl (fun w x => w &&& (127 ^^^ worksF st x k)) 127))) ∧ σ = [some (.ref e), some (.ref p), y, none])
      (fun H2 e2 => ⟨e1.trans e2, p, none, np, e2 p _ hp1, rfl⟩) (fun i σ' H' _ ⟨g, _⟩ => sq_of (g _ _ hb)) ?_ ?_
    · rintro i y σ' H' hy ⟨g, p, y2, np, hp2, rfl⟩
      obtain ⟨b, hbi, rfl⟩ := vR_get hy
      obtain ⟨z, hzi, bz⟩ := p_get hp hbi
      obtain ⟨dz, lz, z1, z2⟩ := bz.mono g
      refine s_asgL (el_row (fun k => ((Sy69.all_ st).take (i + 1)).foldl (fun w x => w &&& (127 ^^^ worksF st x k)) 127) (ea_cons (ev_fld (ev_var rfl) (g _ _ h1) T.clE T.naE_digits lkE_digits) ea_nil) (by omega) (fun _ => rfl) fun j hj => ?_) fun q H3 nq e3 hq => ⟨g.trans e3, q, _, fresh_back g nq, hq, rfl⟩
      rw [fold_take (g := fun w x => w &&& (127 ^^^ worksF st x j)) hzi]
      exact ev_and (ev_ix (ev_var rfl) (ev_var rfl) hp2 hj) (ev_xor ev_all (ev_ix (ev_fld (ev_var rfl) z1 T.clB T.naB_works lkB_works) (ev_var rfl) z2 hj))
    · rintro σ' H' ⟨g, p, y2, np, hp2, rfl⟩
      rw [vR_len, p_len hp, take_all] at hp2
      exact s_ret (ev_var rfl) fun H3 e3 => k p H3 np (g.trans e3) (e3 p _ hp2)
def spSw (a : Adr) : Sp := fun vs H Q _ => ∃ (e : Addr) (s : Sy69.St), vs = [.ref e] ∧ Wf s ∧ EvAt a s H e ∧ RetL (vN (tab s.digits (swF s))) H Q
theorem ok_Evidence_surely_working {f : Addr} {fd : FuncData} (F : Fun K "surely_working" "Evidence.surely_working" st_Evidence_surely_working f fd) (T : Txt K mg a) : FnOk P w K mg base CX0 1 f fd ["self"] (spSw a) := by
  refine F.ok sc_Evidence_surely_working (fun vs H Q E h => ?_) (fun cdv A outer s H vs Q E hr h => ?_)
  · obtain ⟨e, s, rfl, _⟩ := h
    rfl
  · obtain ⟨e, st, rfl, W, ⟨lb, ⟨dx, ld, ll, h1, h2, h3⟩, bs, hb, hp⟩, k⟩ := h
    have hd := W.hi
    refine ⟨_, (pss_cons (ps_set (i := 1) sc_Evidence_surely_working.nd rfl (Or.inr rfl) (pe_lc (own := [("i", 3)]) (g := gName 3) (tt := tYes) rfl sc_Evidence_surely_working.nd (pi_range1 (by rfl) T.n_range (pa_cons (pe_fldK K rfl (pv 0) rfl) pa_nil)) (blkOk_by (own := [("i", 3)]) (N := nn_Evidence_surely_working) (sc := defScope st_Evidence_surely_working) (by decide +kernel)) (fun _ _ _ _ _ => pg_name (i := 3) sc_Evidence_surely_working.nd rfl (Or.inl rfl)) (fun _ _ _ _ _ => pts_nil) (fun _ _ _ _ _ => (pe_op op_xor (pe_gi (by rfl) T.g_ALL) (pe_op op_or (pe_ix (ix_listK K rfl) (pe_fldK K rfl (pv 0) rfl) (pv 3) (fun _ _ => rfl)) (pe_ix (ix_listK K rfl) (pe_fldK K rfl (pv 0) rfl) (pv 3) (fun _ _ => rfl)))))))
      (pss_cons (ps_for PassesOwn.never rfl (pi_list (pe_fldK K rfl (pv 0) rfl)) (pg_name (i := 2) sc_Evidence_surely_working.nd rfl (Or.inr rfl)) (pss_one (ps_set (i := 1) sc_Evidence_surely_working.nd rfl (Or.inr rfl) (pe_lc (own := [("i", 3)]) (g := gName 3) (tt := tYes) rfl sc_Evidence_surely_working.nd (pi_range1 (by rfl) T.n_range (pa_cons (pe_fldK K rfl (pv 0) rfl) pa_nil)) (blkOk_by (own := [("i", 3)]) (N := nn_Evidence_surely_working) (sc := defScope st_Evidence_surely_working) (by decide +kernel)) (fun _ _ _ _ _ => pg_name (i := 3) sc_Evidence_surely_working.nd rfl (Or.inl rfl)) (fun _ _ _ _ _ => pts_nil) (fun _ _ _ _ _ => (pe_op op_and (pe_ix (ix_listK K rfl) (pv 1) (pv 3) (fun _ _ => rfl)) (pe_ix (ix_listK K rfl) (pe_fldK K rfl (pv 2) rfl) (pv 3) (fun _ _ => rfl))))))))
      (pss_one (ps_ret (pv 1))))), ?_⟩
    refine q_asgL (el_row (fun k => 127 ^^^ (darkF st k ||| litF st k)) (ea_cons (ev_fld (ev_var rfl) h1 T.clE T.naE_digits lkE_digits) ea_nil) (by omega) (fun _ => rfl) fun j hj => ev_xor ev_all (ev_or (ev_ix (ev_fld (ev_var rfl) h1 T.clE T.naE_dark lkE_dark) (ev_var rfl) h2 hj) (ev_ix (ev_fld (ev_var rfl) h1 T.clE T.naE_lit lkE_lit) (ev_var rfl) h3 hj))) fun p H1 np e1 hp1 => ?_
    refine q_forLn (ev_fld (ev_var rfl) (e1 _ _ h1) T.clE T.naE_beginnings lkE_beginnings) (sq_of (e1 _ _ hb)) (fun i σ H' => Ex H H' ∧ ∃ (p : Addr) (y : Option V), H p = none ∧ H' p = some (.lst (vN (tab st.digits fun k => ((Sy69.all_ st).take i).foldl (fun w x => w &&& worksF st x k) (127 ^^^ (darkF st k ||| litF st k))))) ∧ σ = [some (.ref e), some (.ref p), y, none])
      (fun H2 e2 => ⟨e1.trans e2, p, none, np, e2 p _ hp1, rfl⟩) (fun i σ' H' _ ⟨g, _⟩ => sq_of (g _ _ hb)) ?_ ?_
    · rintro i y σ' H' hy ⟨g, p, y2, np, hp2, rfl⟩
      obtain ⟨b, hbi, rfl⟩ := vR_get hy
      obtain ⟨z, hzi, bz⟩ := p_get hp hbi
      obtain ⟨dz, lz, z1, z2⟩ := bz.mono g
      refine s_asgL (el_row (fun k => ((Sy69.all_ st).take (i + 1)).foldl (fun w x => w &&& worksF st x k) (127 ^^^ (darkF st k ||| litF st k))) (ea_cons (ev_fld (ev_var rfl) (g _ _ h1) T.clE T.naE_digits lkE_digits) ea_nil) (by omega) (fun _ => rfl) fun j hj => ?_) fun q H3 nq e3 hq => ⟨g.trans e3, q, _, fresh_back g nq, hq, rfl⟩
      rw [fold_take (g := fun w x => w &&& worksF st x j) hzi]
      exact ev_and (ev_ix (ev_var rfl) (ev_var rfl) hp2 hj) (ev_ix (ev_fld (ev_var rfl) z1 T.clB T.naB_works lkB_works) (ev_var rfl) z2 hj)
    · rintro σ' H' ⟨g, p, y2, np, hp2, rfl⟩
      rw [vR_len, p_len hp, take_all] at hp2
      exact s_ret (ev_var rfl) fun H3 e3 => k p H3 np (g.trans e3) (e3 p _ hp2)

/-! ### may_light, may_be_dark, told_apart -/
def spMl (a : Adr) : Sp := fun vs H Q _ => ∃ (e b : Addr) (s : Sy69.St) (x t : Nat), vs = [.ref e, .ref b, .int (t : Int)] ∧ Wf s ∧ EvAt a s H e ∧ BegAt a s H b x ∧ RetL (vN (tab s.digits (mlF s x t))) H Q
theorem ok_Evidence_may_light {f : Addr} {fd : FuncData} (F : Fun K "may_light" "Evidence.may_light" st_Evidence_may_light f fd) (T : Txt K mg a) (c_numbers_of : Callee P w K mg base "numbers_of" 1 ["digits"] spNumbers) (c_should_light : Callee P w K mg base "should_light" 1 ["number", "digits"] spShould) :
    FnOk P w K mg base CX0 2 f fd ["self", "beginning", "time"] (spMl a) := by
  refine F.ok sc_Evidence_may_light (fun vs H Q E h => ?_) (fun cdv A outer s H vs Q E hr h => ?_)
  · obtain ⟨e, b, s, x, t, rfl, _⟩ := h
    rfl
  · obtain ⟨e, b, st, x, t, rfl, W, ⟨lb, ⟨dx, ld, ll, h1, h2, h3⟩, _⟩, ⟨dz, lz, z1, z2⟩, k⟩ := h
    have hd := W.hi
    refine ⟨_, (pss_cons (ps_set (i := 3) sc_Evidence_may_light.nd rfl (Or.inr rfl) (pe_cal c_should_light hr (by rfl) (pa_cons (pe_op op_mod (pe_op op_add (pe_fldK K rfl (pv 1) rfl) (pv 2)) (pe_cal c_numbers_of hr (by rfl) (pa_cons (pe_fldK K rfl (pv 0) rfl) pa_nil))) (pa_cons (pe_fldK K rfl (pv 0) rfl) pa_nil))))
      (pss_one (ps_ret (pe_lc (own := [("i", 4)]) (g := gName 4) (tt := tYes) rfl sc_Evidence_may_light.nd (pi_range1 (by rfl) T.n_range (pa_cons (pe_fldK K rfl (pv 0) rfl) pa_nil)) (blkOk_by (own := [("i", 4)]) (N := nn_Evidence_may_light) (sc := defScope st_Evidence_may_light) (by decide +kernel)) (fun _ _ _ _ _ => pg_name (i := 4) sc_Evidence_may_light.nd rfl (Or.inl rfl)) (fun _ _ _ _ _ => pts_nil) (fun _ _ _ _ _ => (pe_op op_or (pe_ix (ix_listK K rfl) (pe_fldK K rfl (pv 0) rfl) (pv 4) (fun _ _ => rfl)) (pe_op op_and (pe_ix (ix_listK K rfl) (pe_fldK K rfl (pv 1) rfl) (pv 4) (fun _ _ => rfl)) (pe_ix (ix_listK K rfl) (pv 3) (pv 4) (fun _ _ => rfl))))))))), ?_⟩
    have hdg : Ev (tFld K (tVar 0) "digits") (start nn_Evidence_may_light [.ref e, .ref b, .int (t : Int)]) H (.int (st.digits : Int)) := ev_fld (ev_var rfl) h1 T.clE T.naE_digits lkE_digits
    refine q_asgL (el_call (ea_cons (ev_mod (pow_pos' _) (ev_add (ev_fld (ev_var rfl) z1 T.clB T.naB_number lkB_number) (ev_var rfl)) (ev_call (ea_cons hdg ea_nil) (sv_numbers hd))) (ea_cons hdg ea_nil)) (sl_should hd)) fun p H1 np e1 hp1 => ?_
    refine s_retL (el_row (mlF st x t) (ea_cons (ev_fld (ev_var rfl) (e1 _ _ h1) T.clE T.naE_digits lkE_digits) ea_nil) (by omega) (fun _ => rfl) fun j hj => ?_) fun q H2 nq e2 hq => k q H2 (fresh_back e1 nq) (e1.trans e2) hq
    exact ev_or (ev_ix (ev_fld (ev_var rfl) (e1 _ _ h1) T.clE T.naE_lit lkE_lit) (ev_var rfl) (e1 _ _ h3) hj) (ev_and (ev_ix (ev_fld (ev_var rfl) (e1 _ _ z1) T.clB T.naB_works lkB_works) (ev_var rfl) (e1 _ _ z2) hj) (ev_ix (ev_var rfl) (ev_var rfl) hp1 hj))
def spMd (a : Adr) : Sp := fun vs H Q _ => ∃ (e b : Addr) (s : Sy69.St) (x t : Nat), vs = [.ref e, .ref b, .int (t : Int)] ∧ Wf s ∧ EvAt a s H e ∧ BegAt a s H b x ∧ RetL (vN (tab s.digits (mdF s x t))) H Q
theorem ok_Evidence_may_be_dark {f : Addr} {fd : FuncData} (F : Fun K "may_be_dark" "Evidence.may_be_dark" st_Evidence_may_be_dark f fd) (T : Txt K mg a) (c_numbers_of : Callee P w K mg base "numbers_of" 1 ["digits"] spNumbers) (c_should_light : Callee P w K mg base "should_light" 1 ["number", "digits"] spShould) :
    FnOk P w K mg base CX0 2 f fd ["self", "beginning", "time"] (spMd a) := by
  refine F.ok sc_Evidence_may_be_dark (fun vs H Q E h => ?_) (fun cdv A outer s H vs Q E hr h => ?_)
  · obtain ⟨e, b, s, x, t, rfl, _⟩ := h
    rfl
  · obtain ⟨e, b, st, x, t, rfl, W, ⟨lb, ⟨dx, ld, ll, h1, h2, h3⟩, _⟩, ⟨dz, lz, z1, z2⟩, k⟩ := h
    have hd := W.hi
    refine ⟨_, (pss_cons (ps_set (i := 3) sc_Evidence_may_be_dark.nd rfl (Or.inr rfl) (pe_cal c_should_light hr (by rfl) (pa_cons (pe_op op_mod (pe_op op_add (pe_fldK K rfl (pv 1) rfl) (pv 2)) (pe_cal c_numbers_of hr (by rfl) (pa_cons (pe_fldK K rfl (pv 0) rfl) pa_nil))) (pa_cons (pe_fldK K rfl (pv 0) rfl) pa_nil))))
      (pss_one (ps_ret (pe_lc (own := [("i", 4)]) (g := gName 4) (tt := tYes) rfl sc_Evidence_may_be_dark.nd (pi_range1 (by rfl) T.n_range (pa_cons (pe_fldK K rfl (pv 0) rfl) pa_nil)) (blkOk_by (own := [("i", 4)]) (N := nn_Evidence_may_be_dark) (sc := defScope st_Evidence_may_be_dark) (by decide +kernel)) (fun _ _ _ _ _ => pg_name (i := 4) sc_Evidence_may_be_dark.nd rfl (Or.inl rfl)) (fun _ _ _ _ _ => pts_nil) (fun _ _ _ _ _ => (pe_op op_or (pe_ix (ix_listK K rfl) (pe_fldK K rfl (pv 0) rfl) (pv 4) (fun _ _ => rfl)) (pe_op op_and (pe_ix (ix_listK K rfl) (pe_fldK K rfl (pv 1) rfl) (pv 4) (fun _ _ => rfl)) (pe_op op_xor (pe_gi (by rfl) T.g_ALL) (pe_ix (ix_listK K rfl) (pv 3) (pv 4) (fun _ _ => rfl)))))))))), ?_⟩
    have hdg : Ev (tFld K (tVar 0) "digits") (start nn_Evidence_may_be_dark [.ref e, .ref b, .int (t : Int)]) H (.int (st.digits : Int)) := ev_fld (ev_var rfl) h1 T.clE T.naE_digits lkE_digits
    refine q_asgL (el_call (ea_cons (ev_mod (pow_pos' _) (ev_add (ev_fld (ev_var rfl) z1 T.clB T.naB_number lkB_number) (ev_var rfl)) (ev_call (ea_cons hdg ea_nil) (sv_numbers hd))) (ea_cons hdg ea_nil)) (sl_should hd)) fun p H1 np e1 hp1 => ?_
    refine s_retL (el_row (mdF st x t) (ea_cons (ev_fld (ev_var rfl) (e1 _ _ h1) T.clE T.naE_digits lkE_digits) ea_nil) (by omega) (fun _ => rfl) fun j hj => ?_) fun q H2 nq e2 hq => k q H2 (fresh_back e1 nq) (e1.trans e2) hq
    exact ev_or (ev_ix (ev_fld (ev_var rfl) (e1 _ _ h1) T.clE T.naE_dark lkE_dark) (ev_var rfl) (e1 _ _ h2) hj) (ev_and (ev_ix (ev_fld (ev_var rfl) (e1 _ _ z1) T.clB T.naB_works lkB_works) (ev_var rfl) (e1 _ _ z2) hj) (ev_xor ev_all (ev_ix (ev_var rfl) (ev_var rfl) hp1 hj)))
def spTold (a : Adr) : Sp := fun vs H Q _ => ∃ (e b c : Addr) (s : Sy69.St) (x y t : Nat), vs = [.ref e, .ref b, .ref c, .int (t : Int)] ∧ Wf s ∧ EvAt a s H e ∧ BegAt a s H b x ∧ BegAt a s H c y ∧ RetV (.bl ((List.range s.digits).any (clash s x y t))) H Q
theorem any_stop {n i : Nat} {p : Nat → Bool} (hi : i < n) (h : p i = true) : (List.range n).any p = true := List.any_eq_true.mpr ⟨i, List.mem_range.mpr hi, h⟩
theorem ok_Evidence_told_apart {f : Addr} {fd : FuncData} (F : Fun K "told_apart" "Evidence.told_apart" st_Evidence_told_apart f fd) (T : Txt K mg a) (c_Evidence_may_light : MethC P w K mg base a.E "may_light" 2 ["self", "beginning", "time"] (spMl a)) (c_Evidence_may_be_dark : MethC P w K mg base a.E "may_be_dark" 2 ["self", "beginning", "time"] (spMd a)) :
    FnOk P w K mg base CX0 3 f fd ["self", "first", "second", "time"] (spTold a) := by
  refine F.ok sc_Evidence_told_apart (fun vs H Q E h => ?_) (fun cdv A outer s H vs Q E hr h => ?_)
  · obtain ⟨e, b, c, s, x, y, t, rfl, _⟩ := h
    rfl
  · obtain ⟨e, b, c, st, x, y, t, rfl, W, hE, hB, hC, k⟩ := h
    have hE' := hE
    obtain ⟨lb, ⟨dx, ld, ll, h1, h2, h3⟩, _⟩ := hE'
    have hd := W.hi
    refine ⟨_, (pss_cons (ps_set (i := 4) sc_Evidence_told_apart.nd rfl (Or.inl rfl) (pe_mtc (pv 0) T.clE c_Evidence_may_light hr (pa_cons (pv 1) (pa_cons (pv 3) pa_nil))))
      (pss_cons (ps_set (i := 5) sc_Evidence_told_apart.nd rfl (Or.inl rfl) (pe_mtc (pv 0) T.clE c_Evidence_may_be_dark hr (pa_cons (pv 1) (pa_cons (pv 3) pa_nil))))
      (pss_cons (ps_set (i := 6) sc_Evidence_told_apart.nd rfl (Or.inl rfl) (pe_mtc (pv 0) T.clE c_Evidence_may_light hr (pa_cons (pv 2) (pa_cons (pv 3) pa_nil))))
      (pss_cons (ps_set (i := 7) sc_Evidence_told_apart.nd rfl (Or.inl rfl) (pe_mtc (pv 0) T.clE c_Evidence_may_be_dark hr (pa_cons (pv 2) (pa_cons (pv 3) pa_nil))))
      (pss_cons (ps_for PassesOwn.never rfl (pi_range1 (by rfl) T.n_range (pa_cons (pe_fldK K rfl (pv 0) rfl) pa_nil)) (pg_name (i := 8) sc_Evidence_told_apart.nd rfl (Or.inl rfl)) (pss_one (ps_if (pt_cmpR op_ne (pe_op op_or (pe_op op_and (pe_ix (ix_listK K rfl) (pv 4) (pv 8) (fun _ _ => rfl)) (pe_ix (ix_listK K rfl) (pv 6) (pv 8) (fun _ _ => rfl))) (pe_op op_and (pe_ix (ix_listK K rfl) (pv 5) (pv 8) (fun _ _ => rfl)) (pe_ix (ix_listK K rfl) (pv 7) (pv 8) (fun _ _ => rfl)))) (pe_gi (by rfl) T.g_ALL) (nomark _)) (pss_one (ps_ret (pe_bl))) pss_nil)))
      (pss_one (ps_ret (pe_bl)))))))), ?_⟩
    refine q_asgL (el_meth (ev_var rfl) h1 noE_may_light (ea_cons (ev_var rfl) (ea_cons (ev_var rfl) ea_nil)) (spl_of fun H2 e2 Q2 E2 k2 => ⟨e, b, st, x, t, rfl, W, hE.mono e2, hB.mono e2, k2⟩)) fun p1 H1 n1 e1 q1 => ?_
    refine q_asgL (el_meth (ev_var rfl) (e1 _ _ h1) noE_may_be_dark (ea_cons (ev_var rfl) (ea_cons (ev_var rfl) ea_nil)) (spl_of fun H2 e2 Q2 E2 k2 => ⟨e, b, st, x, t, rfl, W, hE.mono (e1.trans e2), hB.mono (e1.trans e2), k2⟩)) fun p2 H2 n2 e2 q2 => ?_
    have g2 := e1.trans e2
    refine q_asgL (el_meth (ev_var rfl) (g2 _ _ h1) noE_may_light (ea_cons (ev_var rfl) (ea_cons (ev_var rfl) ea_nil)) (spl_of fun H3 e3 Q2 E2 k2 => ⟨e, c, st, y, t, rfl, W, hE.mono (g2.trans e3), hC.mono (g2.trans e3), k2⟩)) fun p3 H3 n3 e3 q3 => ?_
    have g3 := g2.trans e3
    refine q_asgL (el_meth (ev_var rfl) (g3 _ _ h1) noE_may_be_dark (ea_cons (ev_var rfl) (ea_cons (ev_var rfl) ea_nil)) (spl_of fun H4 e4 Q2 E2 k2 => ⟨e, c, st, y, t, rfl, W, hE.mono (g3.trans e4), hC.mono (g3.trans e4), k2⟩)) fun p4 H4 n4 e4 q4 => ?_
    have g4 := g3.trans e4
    refine q_forR1 (n := (st.digits : Int)) (ea_cons (ev_fld (ev_var rfl) (g4 _ _ h1) T.clE T.naE_digits lkE_digits) ea_nil) (by omega) (fun i σ H' => Ex H4 H' ∧ (List.range i).any (clash st x y t) = false ∧ ∃ z, σ = [some (.ref e), some (.ref b), some (.ref c), some (.int (t : Int)), some (.ref p1), some (.ref p2), some (.ref p3), some (.ref p4), z])
      (fun H5 e5 => ⟨e5, rfl, none, rfl⟩) ?_ ?_
    · rintro i σ' H' hi ⟨g5, hno, z, rfl⟩
      have hi : i < st.digits := by omega
      refine s_when (b := clash st x y t i) (et_is (et_test (ev_op (ev_or (ev_and (ev_ix (ev_var rfl) (ev_var rfl) (((e2.trans e3).trans e4).trans g5 _ _ q1) hi) (ev_ix (ev_var rfl) (ev_var rfl) ((e4.trans g5) _ _ q3) hi)) (ev_and (ev_ix (ev_var rfl) (ev_var rfl) (((e3.trans e4).trans g5) _ _ q2) hi) (ev_ix (ev_var rfl) (ev_var rfl) (g5 _ _ q4) hi))) ev_all (rv_ne rfl))) ?_) (fun hc H5 e5 => ?_) (fun hc H5 e5 => ?_)
      · rw [dec_int]
        show _ = !(_ == 127)
        congr 1
        rw [Bool.eq_iff_iff, beq_iff_eq, beq_iff_eq]
        omega
      · refine s_ret ev_c fun H6 e6 => ?_
        rw [any_stop hi hc] at k
        exact k H6 (((g4.trans g5).trans e5).trans e6)
      · refine ⟨g5.trans e5, ?_, _, rfl⟩
        rw [List.range_succ, List.any_append, hno, List.any_cons, hc]
        rfl
    · rintro σ' H' ⟨g5, hno, z, rfl⟩
      rw [Int.toNat_natCast] at hno
      rw [hno] at k
      exact s_ret ev_c fun H6 e6 => k H6 ((g4.trans g5).trans e6)
end
end Bs
/-! The walks of the module bench, first part: what is made and changed. -/
namespace Bs
open PySem PySem.Spec PyProof.Rows L2 Evl

/-! ### all but one object stands -/
def Exc (n : Addr) (H H' : Hp) : Prop := ∀ b o, b ≠ n → H b = some o → H' b = some o
theorem Exc.of {n : Addr} {H H' : Hp} (g : Ex H H') : Exc n H H' := fun b o _ h => g b o h
theorem Exc.trans {n : Addr} {H H1 H2 : Hp} (e : Exc n H H1) (g : Exc n H1 H2) : Exc n H H2 := fun b o hb h => g b o hb (e b o hb h)
theorem Exc.upd {n : Addr} {H H' : Hp} {o : HO} (e : Exc n H H') : Exc n H (upd H' n o) := fun b u hb h => by
  rw [upd_ne hb]
  exact e b u hb h
theorem Exc.free {n p : Addr} {H H' : Hp} {o : HO} (e : Exc n H H') (hn : H n = some o) (hn' : ∃ o, H' n = some o) (h : H' p = none) : H p = none := by
  cases q : H p with
  | none => rfl
  | some u =>
    by_cases hp : p = n
    · obtain ⟨o', ho⟩ := hn'
      rw [hp, ho] at h
      cases h
    · rw [e p u hp q] at h
      cases h
section
variable {a : Adr} {s : Sy69.St} {H H' : Hp} {n dx : Addr} {d : Nat} {ls le : Addr}
theorem ins_ne {C D dy : Addr} {fs : List (Str × V)} (h : fs.length ≠ 3) : HO.ins C dy fs ≠ HO.ins D dx (fN d ls le) := fun e => by
  injection e with _ _ e3
  exact h (congrArg List.length e3)
theorem SightsAt.exc {l : Addr} {zs : List Sy69.Sight} (hn : H n = some (.ins a.N dx (fN d ls le))) (g : Exc n H H') (h : SightsAt a H l zs) : SightsAt a H' l zs := by
  obtain ⟨ps, h1, h2⟩ := h
  refine ⟨ps, g _ _ (ne_of h1 hn (by intro z; cases z)) h1, p_mono h2 ?_⟩
  rintro p z ⟨dy, l, q1, q2⟩
  exact ⟨dy, l, g _ _ (ne_of q1 hn (ins_ne (by show 2 ≠ 3; decide))) q1, g _ _ (ne_of q2 hn (by intro z; cases z)) q2⟩
theorem EvAt.exc {e : Addr} (hn : H n = some (.ins a.N dx (fN d ls le))) (g : Exc n H H') (h : EvAt a s H e) : EvAt a s H' e := by
  obtain ⟨lb, ⟨dy, ld, ll, h1, h2, h3⟩, bs, h4, h5⟩ := h
  refine ⟨lb, ⟨dy, ld, ll, g _ _ (ne_of h1 hn (ins_ne (by show 4 ≠ 3; decide))) h1, g _ _ (ne_of h2 hn (by intro z; cases z)) h2, g _ _ (ne_of h3 hn (by intro z; cases z)) h3⟩, bs, g _ _ (ne_of h4 hn (by intro z; cases z)) h4, p_mono h5 ?_⟩
  rintro b x ⟨dz, l, q1, q2⟩
  exact ⟨dz, l, g _ _ (ne_of q1 hn (ins_ne (by show 2 ≠ 3; decide))) q1, g _ _ (ne_of q2 hn (by intro z; cases z)) q2⟩
theorem BnAt.mono (g : Ex H H') (h : BnAt a s H n) : BnAt a s H' n := let ⟨dx, ls, le, h1, h2, h3⟩ := h; ⟨dx, ls, le, g _ _ h1, h2.mono g, h3.mono g⟩
end
theorem wf_step {s : Sy69.St} (w : Wf s) (c : Sy69.Call) : Wf (Sy69.step s c).1 := by
  cases c with
  | begins n =>
    by_cases h : 1 ≤ n ∧ n ≤ 3
    · rw [step_begins h.1 h.2]
      exact wf_new h.1 h.2
    · rw [step_begins0 h]
      exact w
  | sees d l =>
    by_cases h : 10000 < d ∨ l.length ≠ s.digits ∨ ∃ m ∈ l, 127 < m
    · rw [step_bad h]
      exact w
    · have h1 : d ≤ 10000 := Nat.not_lt.mp fun q => h (.inl q)
      have h2 : l.length = s.digits := Decidable.byContradiction fun q => h (.inr (.inl q))
      have h3 : ∀ m ∈ l, m ≤ 127 := fun m hm => Nat.not_lt.mp fun q => h (.inr (.inr ⟨m, hm, q⟩))
      by_cases h4 : 8 ≤ s.sights.length
      · rw [step_full h1 h2 h3 h4]
        exact w
      · rw [step_seen h1 h2 h3 (by omega)]
        exact wf_seen w h2 h3 (by omega)
  | undo =>
    by_cases h : s.sights = []
    · rw [step_undo0 h]
      exact w
    · rw [step_undo h]
      exact wf_undone w
  | may k => exact w
  | likely k => exact w
  | guess x => exact w
  | stroke k i => exact w
  | sure => exact w
  | next d => exact w
  | apart x y d => exact w
  | shown x d => exact w
  | state => exact w

/-! ### words -/
section
variable {K : PySem.W.Frag} {σ : L2.St} {H H' : Hp} {ta tb te tv : TE} {t : TT} {y z : V} {D : Ends} {tz : TS}
theorem vI_append (l m : List Int) : vI (l ++ m) = vI l ++ vI m := List.map_append
theorem ep_imp {P P' : V → Hp → Prop} (h : EvP te σ H P) (k : ∀ v H', Ex H H' → P v H' → P' v H') : EvP te σ H P' := fun H1 e Q q => h H1 e Q fun v H2 e2 hv => q v H2 e2 (k v H2 (e.trans e2) hv)
theorem el_if {b : Bool} {xs : List V} (h : EvT t σ H b) (h1 : b = true → EvL ta σ H xs) (h2 : b = false → EvL tb σ H xs) : EvL (tIf t ta tb) σ H xs := fun H1 e Q q => h H1 e _ fun H2 e2 => by
  cases b with
  | true =>
    show ta σ H2 Q
    exact h1 rfl H2 (e.trans e2) Q fun p H3 hp e3 h3 => q p H3 (fresh_back e2 hp) (e2.trans e3) h3
  | false =>
    show tb σ H2 Q
    exact h2 rfl H2 (e.trans e2) Q fun p H3 hp e3 h3 => q p H3 (fresh_back e2 hp) (e2.trans e3) h3
/-- C(..), an argument of which is new -/
theorem ep_makeG {C : Addr} {sp : Sp} {E : XK} {tr : TA} {PA : List V → Hp → Prop} {P : Addr → Hp → Prop} (hA : ∀ H1, Ex H H1 → ∀ Q : List V → Hp → Prop, (∀ vs H2, Ex H1 H2 → PA vs H2 → Q vs H2) → tr σ H1 Q)
    (hs : ∀ vs x dx H1, Ex H H1 → PA vs H1 → H1 x = none → ∀ H2, Ex H1 H2 → H2 x = some (.ins C dx []) → ∀ (Q : VK) (E : XK), (∀ H3, Ex H1 H3 → P x H3 → Q .non H3) → sp (.ref x :: (vs ++ [])) H2 Q E) : EvP (tMake C sp [] E tr) σ H (fun v H' => ∃ x, v = .ref x ∧ P x H') := fun H1 e Q q =>
  hA H1 e _ fun vs H2 e2 hp x dx nx nd ne => hs vs x dx H2 (e.trans e2) hp nx _ (fun b o hb => by
    rw [upd_ne (ne_of_none hb nx), upd_ne (ne_of_none hb nd)]
    exact hb) upd_same _ E fun H3 e3 h3 => ⟨rfl, q _ H3 (e2.trans e3) ⟨x, rfl, h3⟩⟩
/-- a list and a new list of one item that is made -/
theorem ep_catP {l : Addr} {xs : List V} {P : V → Hp → Prop} (hm : ∀ v H1 H2, Ex H1 H2 → P v H1 → P v H2) (ha : Ev ta σ H (.ref l)) (hl : H l = some (.lst xs)) (hb : EvP tb σ H P) (hz : xs.length + 1 ≤ 100000) :
    EvP (tOp rCat ta (tLst (tCons tb tNil))) σ H (fun v H' => ∃ q w, v = .ref q ∧ H' q = some (.lst (xs ++ [w])) ∧ P w H') := fun H1 e Q k =>
  ha H1 e _ fun H2 e2 => hb H2 (e.trans e2) _ fun w H3 e3 hw => ⟨by show 1 ≤ sizeLine; decide, fun p hp => ⟨l, p, xs, [w], rfl, rfl, (e3.trans (Ex.new hp)) l _ (e2 l _ (e l _ hl)), upd_same, sz_of hz, fun q hq =>
    k _ _ (((e2.trans e3).trans (Ex.new hp)).trans (Ex.new hq)) ⟨q, w, rfl, upd_same, hm w H3 _ ((Ex.new hp).trans (Ex.new hq)) hw⟩⟩⟩
/-- o.m(e), its value dropped: what it changes is told by R -/
theorem q_dropM {C n dx : Addr} {fs : List (Str × V)} {m : Str} {sp : Sp} {E : XK} {P : V → Hp → Prop} {R : Hp → Hp → Prop} (ha : Ev ta σ H (.ref n)) (ho : H n = some (.ins C dx fs)) (hl : fs.lookup m = none) (hb : EvP tb σ H P)
    (hs : ∀ v H1, Ex H H1 → P v H1 → ∀ (Q : VK) (E : XK), (∀ H2, R H1 H2 → Q .non H2) → sp [.ref n, v] H1 Q E) (k : ∀ H1 H2, Ex H H1 → R H1 H2 → tz D σ H2) : tSeq (tDrop (tMeth C m sp [] E ta (tCons tb tNil))) tz D σ H :=
  ha H (Ex.refl H) _ fun H1 e1 => ⟨n, dx, fs, rfl, e1 _ _ ho, hl, hb H1 e1 _ fun v H2 e2 hv => hs v H2 (e1.trans e2) hv _ E fun H3 r => k H2 H3 (e1.trans e2) r⟩
/-- max(row) > 127 -/
theorem et_maxgt {l : Addr} {r : List Nat} (ha : Ev ta σ H (.ref l)) (hl : H l = some (.lst (vN r))) (hr : r ≠ []) : EvT (tTest (tOp (rI0 fun i j => .bl (decide (j < i))) (tCB (rMax K) (tCons ta tNil)) (tC (.int 127)))) σ H (r.any fun m => decide (127 < m)) := fun H1 e Q q =>
  ha H1 e _ fun H2 e2 => ⟨l, r.map fun (n : Nat) => (n : Int), rfl, by rw [List.map_map]; exact sq_of (e2 _ _ (e _ _ hl)), by rw [List.length_map]; exact List.length_pos_iff.mpr hr, fun m hm hle => ⟨m, 127, rfl, rfl, _, rfl, by
    have ev : decide ((127 : Int) < m) = r.any fun m => decide (127 < m) := by
      obtain ⟨k, hk, rfl⟩ := List.mem_map.mp hm
      rw [Bool.eq_iff_iff, decide_eq_true_iff, List.any_eq_true]
      constructor
      · intro h
        exact ⟨k, hk, decide_eq_true (by omega)⟩
      · rintro ⟨j, hj, h⟩
        have h := of_decide_eq_true h
        have := hle _ (List.mem_map.mpr ⟨j, hj, rfl⟩)
        omega
    rw [ev]
    exact q H2 e2⟩⟩
end
theorem p_last {α β : Type} {F : α → β → Prop} : ∀ {l : List α} {m : List β}, Paired F l m → m ≠ [] → ∃ l' x y, l = l' ++ [x] ∧ m.getLast? = some y ∧ F x y
  | _, _, .nil, h => absurd rfl h
  | _, _, .cons (a := x) (b := y) r .nil, _ => ⟨[], x, y, rfl, rfl, r⟩
  | _, _, .cons (a := x) r (.cons r2 t), _ => by
    obtain ⟨l', u, v, h1, h2, h3⟩ := p_last (.cons r2 t) (List.cons_ne_nil _ _)
    refine ⟨x :: l', u, v, by rw [h1]; rfl, ?_, h3⟩
    rw [List.getLast?_cons_cons]
    exact h2
theorem p_empty {β : Type} {F : Addr → β → Prop} {l : List Addr} {m : List β} (h : Paired F l m) : (vR l).isEmpty = m.isEmpty := by
  cases h <;> rfl
theorem cut_last (xs : List V) : cutV xs none (some (-1)) = xs.dropLast := by
  unfold cutV
  rw [HT.sIx_none]
  have e : HT.sIx xs.length xs.length (some (-1)) = xs.length - 1 := by
    unfold HT.sIx
    simp
    omega
  rw [e, List.drop_zero, Nat.sub_zero, List.dropLast_eq_take]
theorem vR_init (l : List Addr) : (vR l).dropLast = vR l.dropLast := List.map_dropLast.symm
section
variable {P : Program} {w : World} {K : PySem.W.Frag} {mg : Str → Option Value} {base : Heap} {a : Adr}

/-! ### told_row -/
def spToldRow : Sp := fun vs H Q _ => ∃ (p : Addr) (l : List Int), vs = [.ref p] ∧ H p = some (.lst (vI l)) ∧ l.length ≤ 90000 ∧ RetL (vI (told l)) H Q
theorem ok_told_row {f : Addr} {fd : FuncData} (F : Fun K "told_row" "told_row" st_told_row f fd) (T : Txt K mg a) : FnOk P w K mg base CX0 1 f fd ["row"] spToldRow := by
  refine F.ok sc_told_row (fun vs H Q E h => ?_) (fun cdv A outer s H vs Q E hr h => ?_)
  · obtain ⟨p, l, rfl, _⟩ := h
    rfl
  · obtain ⟨p, l, rfl, h1, hz, k⟩ := h
    refine ⟨_, (pss_one (ps_ret (pe_op op_cat (pe_lst (pa_cons (pe_callB (call_len_seq) (by rfl) T.n_len PySem.boot_len (pa_cons (pv 0) pa_nil)) pa_nil)) (pv 0)))), ?_⟩
    refine s_retL (el_is (el_catV (el_lst (ea_cons (ev_len (ev_var rfl) (sq_of h1)) ea_nil) (by show 1 ≤ 100000; decide)) (ev_var rfl) h1 (by rw [vI_len]; show 1 + _ ≤ _; omega)) ?_) k
    rw [vI_len]
    rfl
theorem sl_told {H : Hp} {p : Addr} {l : List Int} (h : H p = some (.lst (vI l))) (hz : l.length ≤ 90000) : SpL spToldRow [.ref p] H (vI (told l)) := spl_of fun H1 e _ _ k => ⟨p, l, rfl, e p _ h, hz, k⟩
theorem el_told {σ : L2.St} {H : Hp} {te : TE} {l : List Int} (h : EvL te σ H (vI l)) (hz : l.length ≤ 90000) : EvL (tCall spToldRow [] E0 (tCons te tNil)) σ H (vI (told l)) := el_callL h fun p H1 _ hp => sl_told hp hz
theorem el_toldN {σ : L2.St} {H : Hp} {te : TE} {l : List Nat} (h : EvL te σ H (vN l)) (hz : l.length ≤ 90000) : EvL (tCall spToldRow [] E0 (tCons te tNil)) σ H (vI (told (Sy69.ints l))) := el_told (el_is h (vN_ints l).symm) (by rw [ints_len]; exact hz)
theorem el_toldV {σ : L2.St} {H : Hp} {te : TE} {p : Addr} {l : List Int} (h : Ev te σ H (.ref p)) (hp : H p = some (.lst (vI l))) (hz : l.length ≤ 90000) : EvL (tCall spToldRow [] E0 (tCons te tNil)) σ H (vI (told l)) := el_call (ea_cons h ea_nil) (sl_told hp hz)
theorem el_toldVN {σ : L2.St} {H : Hp} {te : TE} {p : Addr} {l : List Nat} (h : Ev te σ H (.ref p)) (hp : H p = some (.lst (vN l))) (hz : l.length ≤ 90000) : EvL (tCall spToldRow [] E0 (tCons te tNil)) σ H (vI (told (Sy69.ints l))) :=
  el_toldV h (by rw [vN_ints]; exact hp) (by rw [ints_len]; exact hz)

/-! ### Bench: __init__, now, set_sights -/
def spBnInit (a : Adr) : Sp := fun vs H Q _ => ∃ (p dx : Addr) (d : Nat) (H0 : Hp), vs = [.ref p, .int (d : Int)] ∧ 1 ≤ d ∧ d ≤ 3 ∧ H0 p = none ∧ Ex H0 H ∧ H p = some (.ins a.N dx []) ∧ ∀ H', Ex H0 H' → BnAt a ⟨d, []⟩ H' p → Q .non H'
theorem ok_Bench_init {f : Addr} {fd : FuncData} (F : Fun K "__init__" "Bench.__init__" st_Bench_init f fd) (T : Txt K mg a) (c_Evidence_init : MakeC P w K mg base "Evidence" a.E 3 ["self", "digits", "sights"] (spEvInit a)) : FnOk P w K mg base CX0 5 f fd ["self", "digits"] (spBnInit a) := by
  refine F.ok sc_Bench_init (fun vs H Q E h => ?_) (fun cdv A outer s H vs Q E hr h => ?_)
  · obtain ⟨p, dx, d, H0, rfl, _⟩ := h
    rfl
  · obtain ⟨p, dx, d, H0, rfl, h1, h3, np, g, hp, k⟩ := h
    refine ⟨_, (pss_cons (ps_fld (pv 0) (pv 1) rfl)
      (pss_cons (ps_fld (pv 0) (pe_lst pa_nil) rfl)
      (pss_one (ps_fld (pv 0) (pe_mkc c_Evidence_init hr (by rfl) (pa_cons (pv 1) (pa_cons (pe_lst pa_nil) pa_nil))) rfl)))), ?_⟩
    refine q_fld (ev_var rfl) (ev_var rfl) hp T.clN T.naN_digits (by show 0 < 1000; decide) fun H1 e1 => ?_
    have g1 := (g.trans e1).mut (o := .ins a.N dx (putF "digits" (.int (d : Int)) [])) np
    refine q_fldL (el_lst ea_nil (Nat.zero_le _)) (ev_var rfl) upd_same T.clN T.naN_sights (by show 1 < 1000; decide) fun ls H2 nls e2 h2 => ?_
    have lsp := ne_upd nls
    have g2 := (g1.trans e2).mut (o := .ins a.N dx (putF "sights" (.ref ls) (putF "digits" (.int (d : Int)) []))) np
    have W : Wf (⟨d, []⟩ : Sy69.St) := wf_new h1 h3
    refine s_fldP (P := fun v H' => ∃ e, v = .ref e ∧ EvAt a ⟨d, []⟩ H' e) (fun v H5 H6 e6 ⟨e, q1, q2⟩ => ⟨e, q1, q2.mono e6⟩) (ep_makeG (PA := fun vs H' => ∃ q, vs = [.int (d : Int), .ref q] ∧ H' q = some (.lst [])) (P := fun x H' => EvAt a ⟨d, []⟩ H' x) ?_ ?_) (ev_var rfl) upd_same T.clN T.naN_evidence (by show 2 < 1000; decide) ?_
    · intro H3 e3 Q3 k3
      exact ev_var (v := .int (d : Int)) rfl H3 e3 _ fun H4 e4 => el_lst (σ := (start nn_Bench_init [.ref p, .int (d : Int)])) (H := H4) ea_nil (Nat.zero_le _) H4 (Ex.refl H4) _ fun q H5 nq e5 hq => k3 _ H5 (e4.trans e5) ⟨q, rfl, hq⟩
    · rintro _ x dy H3 e3 ⟨q, rfl, hq⟩ nx H4 e4 hx Q4 E4 k4
      exact ⟨x, q, dy, ⟨d, []⟩, H3, rfl, W, nx, e4, hx, ⟨[], hq, .nil⟩, fun H' gg hh => k4 H' gg hh⟩
    · rintro _ H3 e3 ⟨e, rfl, hE⟩
      rw [pN_new]
      have hn : (upd H3 p (.ins a.N dx (fN d ls e))) p = some (.ins a.N dx (fN d ls e)) := upd_same
      have hn0 : H3 p = some (.ins a.N dx (putF "sights" (.ref ls) (putF "digits" (.int (d : Int)) []))) := e3 p _ upd_same
      refine k _ ((g2.trans e3).mut np) ⟨dx, ls, e, hn, ⟨[], ?_, .nil⟩, ?_⟩
      · rw [upd_ne lsp]
        refine e3 ls _ ?_
        rw [upd_ne lsp]
        exact h2
      · obtain ⟨lb, ⟨dy, ld, ll, q1, q2, q3⟩, bs, q4, q5⟩ := hE
        have ne0 : ∀ {b : Addr} {o : HO}, H3 b = some o → o ≠ .ins a.N dx (putF "sights" (.ref ls) (putF "digits" (.int (d : Int)) [])) → (upd H3 p (.ins a.N dx (fN d ls e))) b = some o := fun {b o} hb hne => by
          rw [upd_ne (ne_of hb hn0 hne)]
          exact hb
        refine ⟨lb, ⟨dy, ld, ll, ne0 q1 ?_, ne0 q2 (by intro z; cases z), ne0 q3 (by intro z; cases z)⟩, bs, ne0 q4 (by intro z; cases z), p_mono q5 ?_⟩
        · intro z
          injection z with _ _ z3
          have := congrArg List.length z3
          exact absurd (show 4 = 2 from this) (by decide)
        · rintro b x ⟨dz, l, r1, r2⟩
          refine ⟨dz, l, ne0 r1 ?_, ne0 r2 (by intro z; cases z)⟩
          intro z
          injection z with _ _ z3
          have z4 : ("number" : Str) = "digits" := by
            have := congrArg (fun l => (l.head?.map (·.1))) z3
            exact Option.some.inj this
          exact absurd z4 (by decide +kernel)
def spNow (a : Adr) : Sp := fun vs H Q _ => ∃ (n : Addr) (s : Sy69.St), vs = [.ref n] ∧ BnAt a s H n ∧ RetV (.int (Sy69.now s : Int)) H Q
theorem ok_Bench_now {f : Addr} {fd : FuncData} (F : Fun K "now" "Bench.now" st_Bench_now f fd) (T : Txt K mg a) : FnOk P w K mg base CX0 1 f fd ["self"] (spNow a) := by
  refine F.ok sc_Bench_now (fun vs H Q E h => ?_) (fun cdv A outer s H vs Q E hr h => ?_)
  · obtain ⟨p, s, rfl, _⟩ := h
    rfl
  · obtain ⟨n, st, rfl, ⟨dx, ls, le, h1, ⟨ps, h2, h3⟩, _⟩, k⟩ := h
    refine ⟨_, (pss_cons (ps_if (pt_not (pt_truth (pe_fldK K rfl (pv 0) rfl) (fun _ => rfl))) (pss_one (ps_ret (pe_int))) pss_nil)
      (pss_one (ps_ret (pe_fldK K rfl (pe_ix (ix_listK K rfl) (pe_fldK K rfl (pv 0) rfl) (pe_un un_neg (pe_int)) (fun _ _ => rfl)) rfl)))), ?_⟩
    refine q_when (et_not (et_tru (ev_fld (ev_var rfl) h1 T.clN T.naN_sights lkN_sights) fun H1 e1 => tru_list (sq_of (e1 _ _ h2)) rfl)) (fun hc H1 e1 => ?_) (fun hc H1 e1 => ?_)
    · have e0 : st.sights = [] := by
        rw [p_empty h3, Bool.not_not] at hc
        exact List.isEmpty_iff.mp hc
      refine s_ret ev_c fun H2 e2 => ?_
      have en : Sy69.now st = 0 := by
        unfold Sy69.now
        rw [e0]
        rfl
      rw [en] at k
      exact k H2 (e1.trans e2)
    · have e0 : st.sights ≠ [] := fun e => by
        rw [e] at h3
        cases h3
        cases hc
      obtain ⟨ps', q, z, rfl, hz, ⟨dz, lz, z1, z2⟩⟩ := p_last h3 e0
      have en : Sy69.now st = z.time := by
        unfold Sy69.now
        rw [hz]
        rfl
      rw [en] at k
      refine s_ret (ev_fld (ev_op (ev_fld (ev_var rfl) (e1 _ _ h1) T.clN T.naN_sights lkN_sights) (ev_un ev_c ru_neg) (rv_ixL (xs := vR ps' ++ [.ref q]) (sq_of ?_) (atI_last _ _))) (e1 _ _ z1) T.clS T.naS_time lkS_time) fun H2 e2 => k H2 (e1.trans e2)
      refine (e1 _ _ h2).trans ?_
      unfold vR
      rw [List.map_append]
      rfl
theorem sv_now {H : Hp} {n : Addr} {s : Sy69.St} (h : BnAt a s H n) : SpV (spNow a) [.ref n] H (.int (Sy69.now s : Int)) := spv_of fun H1 e _ _ k => ⟨n, s, rfl, h.mono e, k⟩
def spSet (a : Adr) : Sp := fun vs H Q _ => ∃ (n l : Addr) (s : Sy69.St) (zs : List Sy69.Sight), vs = [.ref n, .ref l] ∧ BnAt a s H n ∧ Wf ⟨s.digits, zs⟩ ∧ SightsAt a H l zs ∧ ∀ H', Exc n H H' → BnAt a ⟨s.digits, zs⟩ H' n → Q .non H'
theorem ok_Bench_set_sights {f : Addr} {fd : FuncData} (F : Fun K "set_sights" "Bench.set_sights" st_Bench_set_sights f fd) (T : Txt K mg a) (c_Evidence_init : MakeC P w K mg base "Evidence" a.E 3 ["self", "digits", "sights"] (spEvInit a)) : FnOk P w K mg base CX0 5 f fd ["self", "sights"] (spSet a) := by
  refine F.ok sc_Bench_set_sights (fun vs H Q E h => ?_) (fun cdv A outer s H vs Q E hr h => ?_)
  · obtain ⟨p, l, s, zs, rfl, _⟩ := h
    rfl
  · obtain ⟨n, l, st, zs, rfl, ⟨dx, ls, le, h1, h2, h3⟩, W, hz, k⟩ := h
    refine ⟨_, (pss_cons (ps_fld (pv 0) (pv 1) rfl)
      (pss_one (ps_fld (pv 0) (pe_mkc c_Evidence_init hr (by rfl) (pa_cons (pe_fldK K rfl (pv 0) rfl) (pa_cons (pv 1) pa_nil))) rfl))), ?_⟩
    refine q_fld (ev_var rfl) (ev_var rfl) h1 T.clN T.naN_sights (by show 3 < 1000; decide) fun H1 e1 => ?_
    rw [pN_sights]
    have x1 : Exc n H (upd H1 n (.ins a.N dx (fN st.digits l le))) := (Exc.of e1).upd
    have z1 := hz.exc h1 x1
    refine s_fldP (P := fun v H' => ∃ e, v = .ref e ∧ EvAt a ⟨st.digits, zs⟩ H' e) (fun v H5 H6 e6 ⟨e, q1, q2⟩ => ⟨e, q1, q2.mono e6⟩) (ep_make (P := fun x H' => EvAt a ⟨st.digits, zs⟩ H' x) (ea_cons (ev_fld (ev_var rfl) upd_same T.clN T.naN_digits lkN_digits) (ea_cons (ev_var rfl) ea_nil)) ?_) (ev_var rfl) upd_same T.clN T.naN_evidence (by show 3 < 1000; decide) ?_
    · intro x dy H3 e3 nx H4 e4 hx Q4 E4 k4
      exact ⟨x, l, dy, ⟨st.digits, zs⟩, H3, rfl, W, nx, e4, hx, z1.mono e3, fun H' gg hh => k4 H' gg hh⟩
    · rintro _ H3 e3 ⟨e, rfl, hE⟩
      rw [pN_evidence]
      have hn3 : H3 n = some (.ins a.N dx (fN st.digits l le)) := e3 n _ upd_same
      have x3 : Exc n H3 (upd H3 n (.ins a.N dx (fN st.digits l e))) := (Exc.of (Ex.refl H3)).upd
      exact k _ (((x1.trans (Exc.of e3))).trans x3) ⟨dx, l, e, upd_same, (z1.mono e3).exc hn3 x3, hE.exc hn3 x3⟩

/-! ### sees, undo -/
/-- what a call of the bench answers: a new list; the bench goes on -/
def RetB (a : Adr) (s : Sy69.St) (c : Sy69.Call) (n : Addr) (H : Hp) (Q : VK) : Prop := ∀ p H', H p = none → Exc n H H' → H' p = some (.lst (vI (ans s c))) → BnAt a (Sy69.step s c).1 H' n → Q (.ref p) H'
theorem ans_of {s : Sy69.St} {c : Sy69.Call} {s' : Sy69.St} {v : Int} (h : Sy69.step s c = (s', Sy69.ok v)) : ans s c = [v] := by
  unfold ans
  rw [h]
  rfl
def spSees (a : Adr) : Sp := fun vs H Q _ => ∃ (n l : Addr) (s : Sy69.St) (d : Nat) (r : List Nat), vs = [.ref n, .int (d : Int), .ref l] ∧ Wf s ∧ BnAt a s H n ∧ H l = some (.lst (vN r)) ∧ r.length ≤ 60 ∧ RetB a s (.sees d r) n H Q
theorem ok_Bench_sees {f : Addr} {fd : FuncData} (F : Fun K "sees" "Bench.sees" st_Bench_sees f fd) (T : Txt K mg a) (c_Sight_init : MakeC P w K mg base "Sight" a.S 1 ["self", "time", "lit"] (spSightInit a)) (c_Bench_now : MethC P w K mg base a.N "now" 1 ["self"] (spNow a)) (c_Bench_set_sights : MethC P w K mg base a.N "set_sights" 5 ["self", "sights"] (spSet a)) :
    FnOk P w K mg base CX0 6 f fd ["self", "seconds", "lit"] (spSees a) := by
  refine F.ok sc_Bench_sees (fun vs H Q E h => ?_) (fun cdv A outer s H vs Q E hr h => ?_)
  · obtain ⟨p, l, s, d, r, rfl, _⟩ := h
    rfl
  · obtain ⟨n, l, st, d, r, rfl, W, hB, hl, hr60, k⟩ := h
    have hB' := hB
    obtain ⟨dx, ls, le, h1, ⟨ps, h2, h3⟩, _⟩ := hB'
    have hd1 := W.lo
    refine ⟨_, (pss_cons (ps_if (PW.pt (pw_or (pt_cmpR op_gt (pv 1) (pe_gi (by rfl) T.g_SECONDS_AT_MOST) (nomark _)) (pw_or (pt_cmpR op_ne (pe_callB (call_len_seq) (by rfl) T.n_len PySem.boot_len (pa_cons (pv 2) pa_nil)) (pe_fldK K rfl (pv 0) rfl) (nomark _)) (pw_or1 (pt_cmpR op_gt (pe_callB (cr_max rfl) (by rfl) T.n_max (by decide +kernel) (pa_cons (pv 2) pa_nil)) (pe_gi (by rfl) T.g_ALL) (nomark _)))))) (pss_one (ps_ret (pe_lst (pa_cons (pe_gi (by rfl) T.g_BAD_NUMBER) pa_nil)))) pss_nil)
      (pss_cons (ps_if (pt_cmpR op_ge (pe_callB (call_len_seq) (by rfl) T.n_len PySem.boot_len (pa_cons (pe_fldK K rfl (pv 0) rfl) pa_nil)) (pe_gi (by rfl) T.g_SIGHTS_AT_MOST) (nomark _)) (pss_one (ps_ret (pe_lst (pa_cons (pe_gi (by rfl) T.g_NO_ROOM) pa_nil)))) pss_nil)
      (pss_cons (ps_expr (pe_mtc (pv 0) T.clN c_Bench_set_sights hr (pa_cons (pe_op op_cat (pe_fldK K rfl (pv 0) rfl) (pe_lst (pa_cons (pe_mkc c_Sight_init (hr.mono (by decide)) (by rfl) (pa_cons (pe_op op_add (pe_mtc0 (pv 0) T.clN c_Bench_now (hr.mono (by decide))) (pv 1)) (pa_cons (pv 2) pa_nil))) pa_nil))) pa_nil)))
      (pss_one (ps_ret (pe_lst (pa_cons (pe_callB (call_len_seq) (by rfl) T.n_len PySem.boot_len (pa_cons (pe_fldK K rfl (pe_fldK K rfl (pv 0) rfl) rfl) pa_nil)) pa_nil))))))), ?_⟩
    refine q_when (et_or (et_test (ev_op (ev_var rfl) ev_c rv_I0)) fun _ => et_or (et_test (ev_op (ev_len (ev_var rfl) (sq_of hl)) (ev_fld (ev_var rfl) h1 T.clN T.naN_digits lkN_digits) (rv_ne rfl))) fun hq => et_maxgt (ev_var rfl) hl (fun e => ?_)) (fun hc H1 e1 => ?_) (fun hc H1 e1 => ?_)
    · rw [e] at hq
      have hq := of_decide_eq_true (by simpa using hq)
      have hq : (0 : Int) = (st.digits : Int) := hq
      omega
    · have hbad : 10000 < d ∨ r.length ≠ st.digits ∨ ∃ m ∈ r, 127 < m := by
        simp only [Bool.or_eq_true, decide_eq_true_eq, Bool.not_eq_true', decide_eq_false_iff_not, V.int.injEq, vN_len, List.any_eq_true] at hc
        rcases hc with q | q | q
        · exact .inl (by omega)
        · exact .inr (.inl fun e => q (by rw [e]))
        · exact .inr (.inr q)
      have hs := step_bad (s := st) hbad
      refine s_retL (el_lst (ea_cons ev_c ea_nil) (by show 1 ≤ 100000; decide)) fun p H2 np e2 hp => k p H2 (fresh_back e1 np) (Exc.of (e1.trans e2)) ?_ ?_
      · rw [ans_of hs]
        exact hp
      · rw [hs]
        exact hB.mono (e1.trans e2)
    · have hgood : d ≤ 10000 ∧ r.length = st.digits ∧ ∀ m ∈ r, m ≤ 127 := by
        simp only [Bool.or_eq_false_iff, decide_eq_false_iff_not, Bool.not_eq_false', decide_eq_true_eq, V.int.injEq, vN_len, List.any_eq_false] at hc
        obtain ⟨q1, q2, q3⟩ := hc
        exact ⟨by omega, by omega, fun m hm => by have := q3 m hm; omega⟩
      obtain ⟨g1, g2, g3⟩ := hgood
      refine q_when (et_test (ev_op (ev_len (ev_fld (ev_var rfl) (e1 _ _ h1) T.clN T.naN_sights lkN_sights) (sq_of (e1 _ _ h2))) ev_c rv_I0)) (fun hc2 H2 e2 => ?_) (fun hc2 H2 e2 => ?_)
      · have hfull : 8 ≤ st.sights.length := by
          have q := of_decide_eq_true hc2
          rw [vR_len, p_len h3] at q
          omega
        have hs := step_full g1 g2 g3 hfull
        refine s_retL (el_lst (ea_cons ev_c ea_nil) (by show 1 ≤ 100000; decide)) fun p H3 np e3 hp => k p H3 (fresh_back (e1.trans e2) np) (Exc.of ((e1.trans e2).trans e3)) ?_ ?_
        · rw [ans_of hs]
          exact hp
        · rw [hs]
          exact hB.mono ((e1.trans e2).trans e3)
      · have hroom : st.sights.length < 8 := by
          have q := of_decide_eq_false hc2
          rw [vR_len, p_len h3] at q
          omega
        have hs := step_seen g1 g2 g3 hroom
        have g12 := e1.trans e2
        have hB2 := hB.mono g12
        refine q_dropM (P := fun v H' => ∃ q, v = .ref q ∧ SightsAt a H' q (seen st d r).sights) (R := fun H3 H4 => Exc n H3 H4 ∧ BnAt a (seen st d r) H4 n) (ev_var rfl) (g12 _ _ h1) noN_set_sights ?_ ?_ ?_
        · refine ep_imp (ep_catP (P := fun v H' => ∃ x, v = .ref x ∧ SightAt a H' x ⟨Sy69.now st + d, r⟩) (fun v H3 H4 e4 ⟨x, q1, q2⟩ => ⟨x, q1, q2.mono e4⟩) (ev_fld (ev_var rfl) (g12 _ _ h1) T.clN T.naN_sights lkN_sights) (g12 _ _ h2)
            (ep_make (P := fun x H' => SightAt a H' x ⟨Sy69.now st + d, r⟩) (ea_cons (ev_add (ev_meth (ev_var rfl) (g12 _ _ h1) noN_now ea_nil (sv_now hB2)) (ev_var rfl)) (ea_cons (ev_var rfl) ea_nil))
              fun x dy H3 e3 nx H4 e4 hx Q4 E4 k4 => ⟨x, l, dy, Sy69.now st + d, H3, rfl, nx, e4, hx, fun H' gg hh => k4 H' gg ⟨dy, l, hh, gg _ _ (e3 _ _ (g12 _ _ hl))⟩⟩) (by rw [vR_len, p_len h3]; omega)) ?_
          rintro v H4 e4 ⟨u, w', rfl, hu, x, rfl, hx⟩
          refine ⟨u, rfl, ps ++ [x], ?_, p_snoc (p_mono h3 fun _ _ h => SightAt.mono (g12.trans e4) h) hx⟩
          rw [hu]
          unfold vR
          rw [List.map_append]
          rfl
        · rintro _ H3 e3 ⟨q, rfl, hq⟩ Q3 E3 k3
          exact ⟨n, q, st, (seen st d r).sights, rfl, hB2.mono e3, wf_seen W g2 g3 hroom, hq, fun H' xx bb => k3 H' ⟨xx, bb⟩⟩
        · rintro H3 H4 e3 ⟨x4, b4⟩
          obtain ⟨dx4, ls4, le4, q1, q2, lb, ⟨dy, ld, ll, r1, r2, r3⟩, bs, r4, r5⟩ := b4
          have b4' : BnAt a (seen st d r) H4 n := ⟨dx4, ls4, le4, q1, q2, lb, ⟨dy, ld, ll, r1, r2, r3⟩, bs, r4, r5⟩
          refine s_retL (el_lst (ea_cons (ev_len (ev_fld (ev_fld (ev_var rfl) q1 T.clN T.naN_evidence lkN_evidence) r1 T.clE T.naE_beginnings lkE_beginnings) (sq_of r4)) ea_nil) (by show 1 ≤ 100000; decide)) fun p H5 np e5 hp => ?_
          have xx : Exc n H H4 := (Exc.of (g12.trans e3)).trans x4
          refine k p H5 (xx.free h1 ⟨_, q1⟩ np) (xx.trans (Exc.of e5)) ?_ ?_
          · rw [ans_of hs, hp, vR_len, p_len r5]
            rfl
          · rw [hs]
            exact b4'.mono e5
def spUndo (a : Adr) : Sp := fun vs H Q _ => ∃ (n : Addr) (s : Sy69.St), vs = [.ref n] ∧ Wf s ∧ BnAt a s H n ∧ RetB a s .undo n H Q
theorem ok_Bench_undo {f : Addr} {fd : FuncData} (F : Fun K "undo" "Bench.undo" st_Bench_undo f fd) (T : Txt K mg a) (c_Bench_set_sights : MethC P w K mg base a.N "set_sights" 5 ["self", "sights"] (spSet a)) : FnOk P w K mg base CX0 6 f fd ["self"] (spUndo a) := by
  refine F.ok sc_Bench_undo (fun vs H Q E h => ?_) (fun cdv A outer s H vs Q E hr h => ?_)
  · obtain ⟨p, s, rfl, _⟩ := h
    rfl
  · obtain ⟨n, st, rfl, W, hB, k⟩ := h
    have hB' := hB
    obtain ⟨dx, ls, le, h1, ⟨ps, h2, h3⟩, _⟩ := hB'
    refine ⟨_, (pss_cons (ps_if (pt_not (pt_truth (pe_fldK K rfl (pv 0) rfl) (fun _ => rfl))) (pss_one (ps_ret (pe_lst (pa_cons (pe_gi (by rfl) T.g_NO_SIGHT) pa_nil)))) pss_nil)
      (pss_cons (ps_expr (pe_mtc (pv 0) T.clN c_Bench_set_sights hr (pa_cons (pe_slice sl_list (pe_fldK K rfl (pv 0) rfl) po_none (po_some (pe_un un_neg (pe_int)))) pa_nil)))
      (pss_one (ps_ret (pe_lst (pa_cons (pe_callB (call_len_seq) (by rfl) T.n_len PySem.boot_len (pa_cons (pe_fldK K rfl (pv 0) rfl) pa_nil)) pa_nil)))))), ?_⟩
    refine q_when (et_not (et_tru (ev_fld (ev_var rfl) h1 T.clN T.naN_sights lkN_sights) fun H1 e1 => tru_list (sq_of (e1 _ _ h2)) rfl)) (fun hc H1 e1 => ?_) (fun hc H1 e1 => ?_)
    · have e0 : st.sights = [] := by
        rw [p_empty h3, Bool.not_not] at hc
        exact List.isEmpty_iff.mp hc
      have hs := step_undo0 e0
      refine s_retL (el_lst (ea_cons ev_c ea_nil) (by show 1 ≤ 100000; decide)) fun p H2 np e2 hp => k p H2 (fresh_back e1 np) (Exc.of (e1.trans e2)) ?_ ?_
      · rw [ans_of hs]
        exact hp
      · rw [hs]
        exact hB.mono (e1.trans e2)
    · have e0 : st.sights ≠ [] := fun e => by
        rw [e] at h3
        cases h3
        cases hc
      have hs := step_undo e0
      refine q_dropM (P := fun v H' => ∃ q, v = .ref q ∧ SightsAt a H' q (undone st).sights) (R := fun H3 H4 => Exc n H3 H4 ∧ BnAt a (undone st) H4 n) (ev_var rfl) (e1 _ _ h1) noN_set_sights ?_ ?_ ?_
      · refine ep_imp (EvP.l (el_sl (ev_fld (ev_var rfl) (e1 _ _ h1) T.clN T.naN_sights lkN_sights) eo_none (eo_some (ev_un ev_c ru_neg)) (sq_of (e1 _ _ h2)))) ?_
        rintro v H4 e4 ⟨p, rfl, hp⟩
        refine ⟨p, rfl, ps.dropLast, ?_, p_init (p_mono h3 fun _ _ h => SightAt.mono (e1.trans e4) h)⟩
        rw [hp, cut_last, vR_init]
      · rintro _ H3 e3 ⟨q, rfl, hq⟩ Q3 E3 k3
        exact ⟨n, q, st, (undone st).sights, rfl, (hB.mono e1).mono e3, wf_undone W, hq, fun H' xx bb => k3 H' ⟨xx, bb⟩⟩
      · rintro H3 H4 e3 ⟨x4, b4⟩
        have b4' := b4
        obtain ⟨dx4, ls4, le4, q1, ⟨ps4, q2, q3⟩, _⟩ := b4'
        refine s_retL (el_lst (ea_cons (ev_len (ev_fld (ev_var rfl) q1 T.clN T.naN_sights lkN_sights) (sq_of q2)) ea_nil) (by show 1 ≤ 100000; decide)) fun p H5 np e5 hp => ?_
        have xx : Exc n H H4 := (Exc.of (e1.trans e3)).trans x4
        refine k p H5 (xx.free h1 ⟨_, q1⟩ np) (xx.trans (Exc.of e5)) ?_ ?_
        · rw [ans_of hs, hp, vR_len, p_len q3]
          rfl
        · rw [hs]
          exact b4.mono e5
end
end Bs
/-! The walks of the module bench, second part: what only asks. -/
namespace Bs
open PySem PySem.Spec PyProof.Rows L2 Evl
section
variable {P : Program} {w : World} {K : PySem.W.Frag} {mg : Str → Option Value} {base : Heap} {a : Adr}

/-! ### kth, may, likely -/
def spKth (a : Adr) : Sp := fun vs H Q _ => ∃ (n l : Addr) (s : Sy69.St) (xs : List Nat) (i : Nat), vs = [.ref n, .ref l, .int (i : Int)] ∧ BegsAt a s H l xs ∧ RetL (vI (Sy69.pick xs i)) H Q
theorem ok_Bench_kth {f : Addr} {fd : FuncData} (F : Fun K "kth" "Bench.kth" st_Bench_kth f fd) (T : Txt K mg a) : FnOk P w K mg base CX0 1 f fd ["self", "beginnings", "k"] (spKth a) := by
  refine F.ok sc_Bench_kth (fun vs H Q E h => ?_) (fun cdv A outer s H vs Q E hr h => ?_)
  · obtain ⟨n, l, s, xs, i, rfl, _⟩ := h
    rfl
  · obtain ⟨n, l, st, xs, i, rfl, ⟨bs, h1, h2⟩, k⟩ := h
    refine ⟨_, (pss_one (ps_ret (pe_ifExp (pt_cmpR op_lt (pv 2) (pe_callB (call_len_seq) (by rfl) T.n_len PySem.boot_len (pa_cons (pv 1) pa_nil)) (nomark _)) (pe_lst (pa_cons (pe_fldK K rfl (pe_ix (ix_listK K rfl) (pv 1) (pv 2) (fun _ _ => rfl)) rfl) pa_nil)) (pe_lst pa_nil)))), ?_⟩
    refine s_retL (el_if (et_test (ev_op (ev_var rfl) (ev_len (ev_var rfl) (sq_of h1)) rv_I0)) (fun hc => ?_) (fun hc => ?_)) k
    · have hi : i < bs.length := by
        have q := of_decide_eq_true hc
        rw [vR_len] at q
        omega
      have hb : bs[i]? = some bs[i] := List.getElem?_eq_getElem hi
      obtain ⟨x, hx, ⟨dz, lz, z1, z2⟩⟩ := p_get h2 hb
      rw [pick_some hx]
      exact el_lst (ea_cons (ev_fld (ev_op (ev_var rfl) (ev_var rfl) (rv_ixL (sq_of h1) (atI_nat (v := V.ref bs[i]) (by unfold vR; rw [List.getElem?_map, hb]; rfl)))) z1 T.clB T.naB_number lkB_number) ea_nil) (by show 1 ≤ 100000; decide)
    · have hi : xs.length ≤ i := by
        have q := of_decide_eq_false hc
        rw [vR_len, p_len h2] at q
        omega
      rw [pick_none hi]
      exact el_lst ea_nil (Nat.zero_le _)
theorem sl_kth {H : Hp} {n l : Addr} {s : Sy69.St} {xs : List Nat} {i : Nat} (h : BegsAt a s H l xs) : SpL (spKth a) [.ref n, .ref l, .int (i : Int)] H (vI (Sy69.pick xs i)) := spl_of fun H1 e _ _ k => ⟨n, l, s, xs, i, rfl, h.mono e, k⟩
/-- what a call that changes nothing answers -/
def RetA (s : Sy69.St) (c : Sy69.Call) (H : Hp) (Q : VK) : Prop := RetL (vI (ans s c)) H Q
theorem i1 (v : Int) : vI [v] = [V.int v] := rfl
theorem pick_small (l : List Nat) (k : Nat) : (Sy69.pick l k).length ≤ 90000 := Nat.le_trans (pick_len l k) (by decide)
theorem told_len (l : List Int) : (told l).length = l.length + 1 := List.length_cons
def spMay (a : Adr) : Sp := fun vs H Q _ => ∃ (n : Addr) (s : Sy69.St) (i : Nat), vs = [.ref n, .int (i : Int)] ∧ Wf s ∧ BnAt a s H n ∧ RetA s (.may i) H Q
theorem ok_Bench_may {f : Addr} {fd : FuncData} (F : Fun K "may" "Bench.may" st_Bench_may f fd) (T : Txt K mg a) (c_told_row : Callee P w K mg base "told_row" 1 ["row"] spToldRow) (c_Bench_kth : MethC P w K mg base a.N "kth" 1 ["self", "beginnings", "k"] (spKth a)) : FnOk P w K mg base CX0 2 f fd ["self", "k"] (spMay a) := by
  refine F.ok sc_Bench_may (fun vs H Q E h => ?_) (fun cdv A outer s H vs Q E hr h => ?_)
  · obtain ⟨n, s, i, rfl, _⟩ := h
    rfl
  · obtain ⟨n, st, i, rfl, W, ⟨dx, ls, le, h1, _, lb, ⟨dy, ld, ll, h2, _, _⟩, hb⟩, k⟩ := h
    have hb' := hb
    obtain ⟨bs, b1, b2⟩ := hb'
    refine ⟨_, (pss_cons (ps_set (i := 2) sc_Bench_may.nd rfl (Or.inl rfl) (pe_fldK K rfl (pe_fldK K rfl (pv 0) rfl) rfl))
      (pss_one (ps_ret (pe_op op_cat (pe_lst (pa_cons (pe_callB (call_len_seq) (by rfl) T.n_len PySem.boot_len (pa_cons (pv 2) pa_nil)) pa_nil)) (pe_cal c_told_row hr (by rfl) (pa_cons (pe_mtc (pv 0) T.clN c_Bench_kth hr (pa_cons (pv 2) (pa_cons (pv 1) pa_nil))) pa_nil)))))), ?_⟩
    refine q_asg (ev_fld (ev_fld (ev_var rfl) h1 T.clN T.naN_evidence lkN_evidence) h2 T.clE T.naE_beginnings lkE_beginnings) fun H1 e1 => ?_
    refine s_retL (el_is (el_cat (el_lst (ea_cons (ev_len (ev_var rfl) (sq_of (e1 _ _ b1))) ea_nil) (by show 1 ≤ 100000; decide)) (el_told (el_meth (ev_var rfl) (e1 _ _ h1) noN_kth (ea_cons (ev_var rfl) (ea_cons (ev_var rfl) ea_nil)) (sl_kth (hb.mono e1))) (pick_small _ _)) ?_) ?_) fun p H2 np e2 hp => k p H2 (fresh_back e1 np) (e1.trans e2) hp
    · rw [vI_len, told_len]
      have := pick_small (Sy69.all_ st) i
      show 1 + _ ≤ _
      omega
    · rw [ans_may, vI_append, vR_len, p_len b2]
      rfl
theorem least_eq {s : Sy69.St} {m m' : Nat} (h : Least s m) (h' : Least s m') : m = m' := by
  obtain ⟨x, hx, e⟩ := h.mem
  obtain ⟨y, hy, e'⟩ := h'.mem
  have := h.le y hy
  have := h'.le x hx
  omega
theorem sv_least {H : Hp} {e : Addr} {s : Sy69.St} {m : Nat} (W : Wf s) (h : EvAt a s H e) (hm : Least s m) : SpV (spLeast a) [.ref e] H (.int (m : Int)) := spv_of fun H1 g _ _ k => ⟨e, s, rfl, W, h.mono g, (fun z => by
  obtain ⟨x, hx, _⟩ := hm.mem
  rw [z] at hx
  cases hx), fun v H2 g2 ⟨m', e', h'⟩ => by
    rw [e', least_eq h' hm]
    exact k H2 g2⟩
theorem beg_empty {H : Hp} {l : Addr} {s : Sy69.St} {xs : List Nat} (h : BegsAt a s H l xs) : ∃ bs, H l = some (.lst (vR bs)) ∧ (vR bs).isEmpty = xs.isEmpty := by
  obtain ⟨bs, h1, h2⟩ := h
  exact ⟨bs, h1, p_empty h2⟩
def spBLikely (a : Adr) : Sp := fun vs H Q _ => ∃ (n : Addr) (s : Sy69.St) (i : Nat), vs = [.ref n, .int (i : Int)] ∧ Wf s ∧ BnAt a s H n ∧ RetA s (.likely i) H Q
theorem ok_Bench_likely {f : Addr} {fd : FuncData} (F : Fun K "likely" "Bench.likely" st_Bench_likely f fd) (T : Txt K mg a) (c_told_row : Callee P w K mg base "told_row" 1 ["row"] spToldRow) (c_Bench_kth : MethC P w K mg base a.N "kth" 1 ["self", "beginnings", "k"] (spKth a))
    (c_Evidence_likely : MethC P w K mg base a.E "likely" 4 ["self"] (spELikely a)) (c_Evidence_least_broken : MethC P w K mg base a.E "least_broken" 3 ["self"] (spLeast a)) : FnOk P w K mg base CX0 5 f fd ["self", "k"] (spBLikely a) := by
  refine F.ok sc_Bench_likely (fun vs H Q E h => ?_) (fun cdv A outer s H vs Q E hr h => ?_)
  · obtain ⟨n, s, i, rfl, _⟩ := h
    rfl
  · obtain ⟨n, st, i, rfl, W, ⟨dx, ls, le, h1, _, hE⟩, k⟩ := h
    have hE' := hE
    obtain ⟨lb, ⟨dy, ld, ll, h2, _, _⟩, hb⟩ := hE'
    obtain ⟨bs, b1, b2⟩ := beg_empty hb
    refine ⟨_, (pss_cons (ps_if (pt_not (pt_truth (pe_fldK K rfl (pe_fldK K rfl (pv 0) rfl) rfl) (fun _ => rfl))) (pss_one (ps_ret (pe_lst (pa_cons (pe_gi (by rfl) T.g_NO_EXPLANATION) pa_nil)))) pss_nil)
      (pss_cons (ps_set (i := 2) sc_Bench_likely.nd rfl (Or.inl rfl) (pe_mtc0 (pe_fldK K rfl (pv 0) rfl) T.clE c_Evidence_likely hr))
      (pss_one (ps_ret (pe_op op_cat (pe_op op_cat (pe_lst (pa_cons (pe_mtc0 (pe_fldK K rfl (pv 0) rfl) T.clE c_Evidence_least_broken (hr.mono (by decide))) pa_nil)) (pe_cal c_told_row (hr.mono (by decide)) (by rfl) (pa_cons (pe_lst (pa_cons (pe_callB (call_len_seq) (by rfl) T.n_len PySem.boot_len (pa_cons (pv 2) pa_nil)) pa_nil)) pa_nil))) (pe_cal c_told_row (hr.mono (by decide)) (by rfl) (pa_cons (pe_mtc (pv 0) T.clN c_Bench_kth (hr.mono (by decide)) (pa_cons (pv 2) (pa_cons (pv 1) pa_nil))) pa_nil))))))), ?_⟩
    refine q_when (et_not (et_tru (ev_fld (ev_fld (ev_var rfl) h1 T.clN T.naN_evidence lkN_evidence) h2 T.clE T.naE_beginnings lkE_beginnings) fun H1 e1 => tru_list (sq_of (e1 _ _ b1)) rfl)) (fun hc H1 e1 => ?_) (fun hc H1 e1 => ?_)
    · rw [b2, Bool.not_not] at hc
      have q := ans_likely0 (List.isEmpty_iff.mp hc) i
      exact s_retL (el_lst (ea_cons ev_c ea_nil) (by show 1 ≤ 100000; decide)) fun p H2 np e2 hp => k p H2 (fresh_back e1 np) (e1.trans e2) (by rw [q]; exact hp)
    · rw [b2, Bool.not_not] at hc
      have hn : Sy69.all_ st ≠ [] := fun e => by
        rw [e] at hc
        cases hc
      refine q_asgP (ep_meth (P := fun v H' => ∃ (p : Addr) (m : Nat), v = .ref p ∧ Least st m ∧ BegsAt a st H' p (likelyM st m)) (ev_fld (ev_var rfl) (e1 _ _ h1) T.clN T.naN_evidence lkN_evidence) (e1 _ _ h2) noE_likely ea_nil (spp_of fun H2 e2 Q2 E2 k2 => ⟨le, st, rfl, W, hE.mono (e1.trans e2), hn, k2⟩)) ?_
      rintro _ H2 e2 ⟨q, m, rfl, hm, hq⟩
      have g2 := e1.trans e2
      have hq' := hq
      obtain ⟨bs2, c1, c2⟩ := hq'
      have elen : ((vR bs2).length : Int) = ((likelyM st m).length : Int) := by rw [vR_len, p_len c2]
      refine s_retL (el_is (el_cat (el_cat (el_lst (ea_cons (ev_meth (ev_fld (ev_var rfl) (g2 _ _ h1) T.clN T.naN_evidence lkN_evidence) (g2 _ _ h2) noE_least_broken ea_nil (sv_least W (hE.mono g2) hm)) ea_nil) (by show 1 ≤ 100000; decide))
        (el_told (l := [((likelyM st m).length : Int)]) (el_lst (ea_cons (ev_is (ev_len (ev_var rfl) (sq_of c1)) (congrArg V.int elen)) ea_nil) (by show 1 ≤ 100000; decide)) (by show 1 ≤ 90000; decide)) (by show 1 + 2 ≤ 100000; decide))
        (el_told (el_meth (ev_var rfl) (g2 _ _ h1) noN_kth (ea_cons (ev_var rfl) (ea_cons (ev_var rfl) ea_nil)) (sl_kth hq)) (pick_small _ _)) ?_) ?_) fun p H3 np e3 hp => k p H3 (fresh_back g2 np) (g2.trans e3) hp
      · rw [vI_len, told_len]
        have := pick_len (likelyM st m) i
        show 3 + _ ≤ _
        omega
      · rw [ans_likely hm, vI_append, vI_append]
        rfl

/-! ### guess, stroke -/
theorem ep_beginning {σ : L2.St} {H : Hp} {ta tb : TE} {e : Addr} {s : Sy69.St} {x : Nat} (W : Wf s) (hE : EvAt a s H e) (h : Ev ta σ H (.ref e)) (hx : Ev tb σ H (.int (x : Int))) : EvP (tMeth a.E "beginning" (spBeginning a) [] E0 ta (tCons tb tNil)) σ H (BegOr a s x) := by
  have hE' := hE
  obtain ⟨lb, ⟨dy, ld, ll, h2, _, _⟩, hb⟩ := hE'
  exact ep_meth h h2 noE_beginning (ea_cons hx ea_nil) (spp_of fun H2 e2 Q2 E2 k2 => ⟨e, s, x, rfl, W, hE.mono e2, k2⟩)
theorem tab_small {s : Sy69.St} (W : Wf s) (f : Nat → Nat) : (tab s.digits f).length ≤ 3 := by
  rw [tab_len]
  exact W.hi
def spGuess (a : Adr) : Sp := fun vs H Q _ => ∃ (n : Addr) (s : Sy69.St) (x : Nat), vs = [.ref n, .int (x : Int)] ∧ Wf s ∧ BnAt a s H n ∧ RetA s (.guess x) H Q
theorem ok_Bench_guess {f : Addr} {fd : FuncData} (F : Fun K "guess" "Bench.guess" st_Bench_guess f fd) (T : Txt K mg a) (c_numbers_of : Callee P w K mg base "numbers_of" 1 ["digits"] spNumbers) (c_count_of_all : Callee P w K mg base "count_of_all" 2 ["places"] (spCountAll K)) (c_told_row : Callee P w K mg base "told_row" 1 ["row"] spToldRow)
    (c_Evidence_beginning : MethC P w K mg base a.E "beginning" 1 ["self", "number"] (spBeginning a)) (c_Beginning_broken : MethC P w K mg base a.B "broken" 1 ["self"] (spBroken a)) : FnOk P w K mg base CX0 3 f fd ["self", "number"] (spGuess a) := by
  refine F.ok sc_Bench_guess (fun vs H Q E h => ?_) (fun cdv A outer s H vs Q E hr h => ?_)
  · obtain ⟨n, s, i, rfl, _⟩ := h
    rfl
  · obtain ⟨n, st, x, rfl, W, ⟨dx, ls, le, h1, _, hE⟩, k⟩ := h
    have hd := W.hi
    refine ⟨_, (pss_cons (ps_if (pt_cmpR op_ge (pv 1) (pe_cal c_numbers_of (hr.mono (by decide)) (by rfl) (pa_cons (pe_fldK K rfl (pv 0) rfl) pa_nil)) (nomark _)) (pss_one (ps_ret (pe_lst (pa_cons (pe_gi (by rfl) T.g_NOT_THERE) pa_nil)))) pss_nil)
      (pss_cons (ps_set (i := 2) sc_Bench_guess.nd rfl (Or.inl rfl) (pe_mtc (pe_fldK K rfl (pv 0) rfl) T.clE c_Evidence_beginning (hr.mono (by decide)) (pa_cons (pv 1) pa_nil)))
      (pss_cons (ps_if (pt_cmpR op_isN (pv 2) (pe_non) (nomark _)) (pss_one (ps_ret (pe_lst (pa_cons (pe_gi (by rfl) T.g_NO_EXPLANATION) pa_nil)))) pss_nil)
      (pss_one (ps_ret (pe_op op_cat (pe_lst (pa_cons (pe_cal c_count_of_all hr (by rfl) (pa_cons (pe_mtc0 (pv 2) T.clB c_Beginning_broken (hr.mono (by decide))) pa_nil)) pa_nil)) (pe_cal c_told_row (hr.mono (by decide)) (by rfl) (pa_cons (pe_mtc0 (pv 2) T.clB c_Beginning_broken (hr.mono (by decide))) pa_nil)))))))), ?_⟩
    refine q_when (et_test (ev_op (ev_var rfl) (ev_call (ea_cons (ev_fld (ev_var rfl) h1 T.clN T.naN_digits lkN_digits) ea_nil) (sv_numbers hd)) rv_I0)) (fun hc H1 e1 => ?_) (fun hc H1 e1 => ?_)
    · have hx : 10 ^ st.digits ≤ x := Int.ofNat_le.mp (of_decide_eq_true hc)
      have q := ans_guess0 (s := st) hx
      exact s_retL (el_lst (ea_cons ev_c ea_nil) (by show 1 ≤ 100000; decide)) fun p H2 np e2 hp => k p H2 (fresh_back e1 np) (e1.trans e2) (by rw [q]; exact hp)
    · have hx : x < 10 ^ st.digits := Nat.lt_of_not_le fun z => of_decide_eq_false hc (Int.ofNat_le.mpr z)
      refine q_asgP (ep_beginning W (hE.mono e1) (ev_fld (ev_var rfl) (e1 _ _ h1) T.clN T.naN_evidence lkN_evidence) (ev_var rfl)) ?_
      rintro v H2 e2 (⟨hin, b, rfl, hB⟩ | ⟨hout, rfl⟩)
      · refine q_when (b := false) (et_test (ev_op (z := .bl false) (ev_var rfl) ev_c fun H5 _ Q5 q5 => ⟨rfl, q5 H5 (Ex.refl H5)⟩)) (fun hc H3 e3 => by cases hc) (fun hc H3 e3 => ?_)
        have g3 := (e1.trans e2).trans e3
        have hB3 := hB.mono e3
        have hB3' := hB3
        obtain ⟨dz, lz, z1, z2⟩ := hB3'
        have el : EvL (tMeth a.B "broken" (spBroken a) [] E0 (tVar 2) tNil) [some (.ref n), some (.int (x : Int)), some (.ref b)] H3 (vN (tab st.digits (brokF st x))) := el_meth (ev_var rfl) z1 noB_broken ea_nil (spl_of fun H4 e4 Q4 E4 k4 => ⟨b, st, x, rfl, W, hB3.mono e4, k4⟩)
        refine s_retL (el_is (el_cat (el_lst (ea_cons (ev_brk T W (ev_var rfl) hB3) ea_nil) (by show 1 ≤ 100000; decide)) (el_toldN el (Nat.le_trans (tab_small W _) (by decide))) ?_) ?_) fun p H4 np e4 hp => k p H4 (fresh_back g3 np) (g3.trans e4) hp
        · rw [vI_len, told_len, ints_len, tab_len]
          show 1 + _ ≤ _
          omega
        · rw [ans_guess hin, vI_append]
          rfl
      · refine q_when (b := true) (et_test (ev_op (z := .bl true) (ev_var rfl) ev_c fun H5 _ Q5 q5 => ⟨rfl, q5 H5 (Ex.refl H5)⟩)) (fun hc H3 e3 => ?_) (fun hc H3 e3 => by cases hc)
        have g3 := (e1.trans e2).trans e3
        have q := ans_guess1 (s := st) hx hout
        exact s_retL (el_lst (ea_cons ev_c ea_nil) (by show 1 ≤ 100000; decide)) fun p H4 np e4 hp => k p H4 (fresh_back g3 np) (g3.trans e4) (by rw [q]; exact hp)
theorem union_len (s : Sy69.St) (k i : Nat) : (unionM s k i).length ≤ 3 := by
  unfold unionM
  rw [List.length_append, List.length_append]
  have q : ∀ (c : Prop) [Decidable c] (n : Nat), (if c then [n] else []).length ≤ 1 := fun c _ n => by
    by_cases h : c
    · rw [if_pos h]
      exact Nat.le_refl _
    · rw [if_neg h]
      exact Nat.zero_le _
  have := q (((Sy69.all_ s).any fun x => (worksF s x k).testBit i) = true) 0
  have := q ((darkF s k).testBit i = true) 1
  have := q ((litF s k).testBit i = true) 2
  omega
def spStroke (a : Adr) : Sp := fun vs H Q _ => ∃ (n : Addr) (s : Sy69.St) (p i : Nat), vs = [.ref n, .int (p : Int), .int (i : Int)] ∧ Wf s ∧ BnAt a s H n ∧ RetA s (.stroke p i) H Q
theorem ok_Bench_stroke {f : Addr} {fd : FuncData} (F : Fun K "stroke" "Bench.stroke" st_Bench_stroke f fd) (T : Txt K mg a) (c_told_row : Callee P w K mg base "told_row" 1 ["row"] spToldRow) (c_Evidence_states_of : MethC P w K mg base a.E "states_of" 1 ["self", "place", "stroke"] (spStates a)) :
    FnOk P w K mg base CX0 2 f fd ["self", "place", "stroke"] (spStroke a) := by
  refine F.ok sc_Bench_stroke (fun vs H Q E h => ?_) (fun cdv A outer s H vs Q E hr h => ?_)
  · obtain ⟨n, s, p, i, rfl, _⟩ := h
    rfl
  · obtain ⟨n, st, pl, sk, rfl, W, ⟨dx, ls, le, h1, _, hE⟩, k⟩ := h
    have hE' := hE
    obtain ⟨lb, ⟨dy, ld, ll, h2, _, _⟩, hb⟩ := hE'
    obtain ⟨bs, b1, b2⟩ := beg_empty hb
    refine ⟨_, (pss_cons (ps_if (PW.pt (pw_or (pt_cmpR op_ge (pv 1) (pe_fldK K rfl (pv 0) rfl) (nomark _)) (pw_or1 (pt_cmpR op_ge (pv 2) (pe_gi (by rfl) T.g_STROKES) (nomark _))))) (pss_one (ps_ret (pe_lst (pa_cons (pe_gi (by rfl) T.g_NOT_THERE) pa_nil)))) pss_nil)
      (pss_cons (ps_if (pt_not (pt_truth (pe_fldK K rfl (pe_fldK K rfl (pv 0) rfl) rfl) (fun _ => rfl))) (pss_one (ps_ret (pe_lst (pa_cons (pe_gi (by rfl) T.g_NO_EXPLANATION) pa_nil)))) pss_nil)
      (pss_cons (ps_set (i := 3) sc_Bench_stroke.nd rfl (Or.inl rfl) (pe_mtc (pe_fldK K rfl (pv 0) rfl) T.clE c_Evidence_states_of hr (pa_cons (pv 1) (pa_cons (pv 2) pa_nil))))
      (pss_one (ps_ret (pe_op op_cat (pe_lst (pa_cons (pe_callB (call_len_seq) (by rfl) T.n_len PySem.boot_len (pa_cons (pv 3) pa_nil)) pa_nil)) (pe_cal c_told_row hr (by rfl) (pa_cons (pv 3) pa_nil)))))))), ?_⟩
    refine q_when (et_or (et_test (ev_op (ev_var rfl) (ev_fld (ev_var rfl) h1 T.clN T.naN_digits lkN_digits) rv_I0)) fun _ => et_test (ev_op (ev_var rfl) ev_c rv_I0)) (fun hc H1 e1 => ?_) (fun hc H1 e1 => ?_)
    · have hx : st.digits ≤ pl ∨ 7 ≤ sk := by
        rcases (Bool.or_eq_true _ _).mp hc with q | q
        · have := of_decide_eq_true q
          exact .inl (by omega)
        · have := of_decide_eq_true q
          exact .inr (by omega)
      have q := ans_stroke0 (s := st) hx
      exact s_retL (el_lst (ea_cons ev_c ea_nil) (by show 1 ≤ 100000; decide)) fun p H2 np e2 hp => k p H2 (fresh_back e1 np) (e1.trans e2) (by rw [q]; exact hp)
    · have hx : ¬ (st.digits ≤ pl ∨ 7 ≤ sk) := by
        obtain ⟨q1, q2⟩ := (Bool.or_eq_false_iff).mp hc
        have := of_decide_eq_false q1
        have := of_decide_eq_false q2
        omega
      refine q_when (et_not (et_tru (ev_fld (ev_fld (ev_var rfl) (e1 _ _ h1) T.clN T.naN_evidence lkN_evidence) (e1 _ _ h2) T.clE T.naE_beginnings lkE_beginnings) fun H2 e2 => tru_list (sq_of (e2 _ _ (e1 _ _ b1))) rfl)) (fun hc H2 e2 => ?_) (fun hc H2 e2 => ?_)
      · rw [b2, Bool.not_not] at hc
        have q := ans_stroke1 (s := st) hx (List.isEmpty_iff.mp hc)
        exact s_retL (el_lst (ea_cons ev_c ea_nil) (by show 1 ≤ 100000; decide)) fun p H3 np e3 hp => k p H3 (fresh_back (e1.trans e2) np) ((e1.trans e2).trans e3) (by rw [q]; exact hp)
      · rw [b2, Bool.not_not] at hc
        have hn : Sy69.all_ st ≠ [] := fun e => by
          rw [e] at hc
          cases hc
        have g2 := e1.trans e2
        refine q_asgL (el_meth (ev_fld (ev_var rfl) (g2 _ _ h1) T.clN T.naN_evidence lkN_evidence) (g2 _ _ h2) noE_states_of (ea_cons (ev_var rfl) (ea_cons (ev_var rfl) ea_nil)) (spl_of fun H3 e3 Q3 E3 k3 => ⟨le, st, pl, sk, rfl, W, hE.mono (g2.trans e3), by omega, k3⟩)) fun q H3 nq e3 hq => ?_
        have g3 := g2.trans e3
        have ul := union_len st pl sk
        refine s_retL (el_is (el_cat (el_lst (ea_cons (ev_len (ev_var rfl) (sq_of hq)) ea_nil) (by show 1 ≤ 100000; decide)) (el_toldVN (ev_var rfl) hq (by omega)) ?_) ?_) fun p H4 np e4 hp => k p H4 (fresh_back g3 np) (g3.trans e4) hp
        · rw [vI_len, told_len, ints_len]
          show 1 + _ ≤ _
          omega
        · rw [ans_stroke hx hn, vI_append, vN_len]
          rfl

/-! ### sure, show_next -/
def spSure (a : Adr) : Sp := fun vs H Q _ => ∃ (n : Addr) (s : Sy69.St), vs = [.ref n] ∧ Wf s ∧ BnAt a s H n ∧ RetA s .sure H Q
theorem ok_Bench_sure {f : Addr} {fd : FuncData} (F : Fun K "sure" "Bench.sure" st_Bench_sure f fd) (T : Txt K mg a) (c_count_of_all : Callee P w K mg base "count_of_all" 2 ["places"] (spCountAll K)) (c_told_row : Callee P w K mg base "told_row" 1 ["row"] spToldRow)
    (c_Evidence_surely_broken : MethC P w K mg base a.E "surely_broken" 1 ["self"] (spSb a)) (c_Evidence_surely_working : MethC P w K mg base a.E "surely_working" 1 ["self"] (spSw a)) : FnOk P w K mg base CX0 3 f fd ["self"] (spSure a) := by
  refine F.ok sc_Bench_sure (fun vs H Q E h => ?_) (fun cdv A outer s H vs Q E hr h => ?_)
  · obtain ⟨n, s, rfl, _⟩ := h
    rfl
  · obtain ⟨n, st, rfl, W, ⟨dx, ls, le, h1, _, hE⟩, k⟩ := h
    have hE' := hE
    obtain ⟨lb, ⟨dy, ld, ll, h2, _, _⟩, hb⟩ := hE'
    obtain ⟨bs, b1, b2⟩ := beg_empty hb
    have hd := W.hi
    refine ⟨_, (pss_cons (ps_if (pt_not (pt_truth (pe_fldK K rfl (pe_fldK K rfl (pv 0) rfl) rfl) (fun _ => rfl))) (pss_one (ps_ret (pe_lst (pa_cons (pe_gi (by rfl) T.g_NO_EXPLANATION) pa_nil)))) pss_nil)
      (pss_cons (ps_set (i := 1) sc_Bench_sure.nd rfl (Or.inl rfl) (pe_mtc0 (pe_fldK K rfl (pv 0) rfl) T.clE c_Evidence_surely_broken (hr.mono (by decide))))
      (pss_one (ps_ret (pe_op op_cat (pe_op op_cat (pe_lst (pa_cons (pe_cal c_count_of_all hr (by rfl) (pa_cons (pv 1) pa_nil)) pa_nil)) (pe_cal c_told_row (hr.mono (by decide)) (by rfl) (pa_cons (pv 1) pa_nil))) (pe_cal c_told_row (hr.mono (by decide)) (by rfl) (pa_cons (pe_mtc0 (pe_fldK K rfl (pv 0) rfl) T.clE c_Evidence_surely_working (hr.mono (by decide))) pa_nil))))))), ?_⟩
    refine q_when (et_not (et_tru (ev_fld (ev_fld (ev_var rfl) h1 T.clN T.naN_evidence lkN_evidence) h2 T.clE T.naE_beginnings lkE_beginnings) fun H2 e2 => tru_list (sq_of (e2 _ _ b1)) rfl)) (fun hc H1 e1 => ?_) (fun hc H1 e1 => ?_)
    · rw [b2, Bool.not_not] at hc
      have q := ans_sure0 (List.isEmpty_iff.mp hc)
      exact s_retL (el_lst (ea_cons ev_c ea_nil) (by show 1 ≤ 100000; decide)) fun p H2 np e2 hp => k p H2 (fresh_back e1 np) (e1.trans e2) (by rw [q]; exact hp)
    · rw [b2, Bool.not_not] at hc
      have hn : Sy69.all_ st ≠ [] := fun e => by
        rw [e] at hc
        cases hc
      refine q_asgL (el_meth (ev_fld (ev_var rfl) (e1 _ _ h1) T.clN T.naN_evidence lkN_evidence) (e1 _ _ h2) noE_surely_broken ea_nil (spl_of fun H3 e3 Q3 E3 k3 => ⟨le, st, rfl, W, hE.mono (e1.trans e3), k3⟩)) fun q H2 nq e2 hq => ?_
      have g2 := e1.trans e2
      have t1 := tab_small W (sbF st)
      have t2 := tab_small W (swF st)
      refine s_retL (el_is (el_cat (el_cat (el_lst (ea_cons (ev_call (ea_cons (ev_var rfl) ea_nil) (sv_countAll hq (by omega))) ea_nil) (by show 1 ≤ 100000; decide)) (el_toldVN (ev_var rfl) hq (by omega)) ?_)
        (el_toldN (el_meth (ev_fld (ev_var rfl) (g2 _ _ h1) T.clN T.naN_evidence lkN_evidence) (g2 _ _ h2) noE_surely_working ea_nil (spl_of fun H3 e3 Q3 E3 k3 => ⟨le, st, rfl, W, hE.mono (g2.trans e3), k3⟩)) (by omega)) ?_) ?_) fun p H3 np e3 hp => k p H3 (fresh_back g2 np) (g2.trans e3) hp
      · rw [vI_len, told_len, ints_len]
        show 1 + _ ≤ _
        omega
      · rw [List.length_append, vI_len, vI_len, told_len, told_len, ints_len, ints_len]
        show 1 + _ + _ ≤ _
        omega
      · rw [ans_sure hn, vI_append, vI_append]
        rfl
def spNext (a : Adr) : Sp := fun vs H Q _ => ∃ (n : Addr) (s : Sy69.St) (d : Nat), vs = [.ref n, .int (d : Int)] ∧ Wf s ∧ BnAt a s H n ∧ RetA s (.next d) H Q
theorem ok_Bench_show_next {f : Addr} {fd : FuncData} (F : Fun K "show_next" "Bench.show_next" st_Bench_show_next f fd) (T : Txt K mg a) (c_count_of_all : Callee P w K mg base "count_of_all" 2 ["places"] (spCountAll K)) (c_told_row : Callee P w K mg base "told_row" 1 ["row"] spToldRow) (c_Bench_now : MethC P w K mg base a.N "now" 1 ["self"] (spNow a))
    (c_Evidence_may_light : MethC P w K mg base a.E "may_light" 2 ["self", "beginning", "time"] (spMl a)) (c_Evidence_may_be_dark : MethC P w K mg base a.E "may_be_dark" 2 ["self", "beginning", "time"] (spMd a)) : FnOk P w K mg base CX0 3 f fd ["self", "seconds"] (spNext a) := by
  refine F.ok sc_Bench_show_next (fun vs H Q E h => ?_) (fun cdv A outer s H vs Q E hr h => ?_)
  · obtain ⟨n, s, d, rfl, _⟩ := h
    rfl
  · obtain ⟨n, st, d, rfl, W, hB, k⟩ := h
    have hB' := hB
    obtain ⟨dx, ls, le, h1, _, hE⟩ := hB'
    have hE' := hE
    obtain ⟨lb, ⟨dy, ld, ll, h2, _, _⟩, bs, b1, b2⟩ := hE'
    have hd := W.hi
    refine ⟨_, (pss_cons (ps_if (pt_cmpR op_gt (pv 1) (pe_gi (by rfl) T.g_SECONDS_AT_MOST) (nomark _)) (pss_one (ps_ret (pe_lst (pa_cons (pe_gi (by rfl) T.g_BAD_NUMBER) pa_nil)))) pss_nil)
      (pss_cons (ps_if (pt_not (pt_truth (pe_fldK K rfl (pe_fldK K rfl (pv 0) rfl) rfl) (fun _ => rfl))) (pss_one (ps_ret (pe_lst (pa_cons (pe_gi (by rfl) T.g_NO_EXPLANATION) pa_nil)))) pss_nil)
      (pss_cons (ps_set (i := 2) sc_Bench_show_next.nd rfl (Or.inl rfl) (pe_op op_add (pe_mtc0 (pv 0) T.clN c_Bench_now (hr.mono (by decide))) (pv 1)))
      (pss_cons (ps_set (i := 3) sc_Bench_show_next.nd rfl (Or.inr rfl) (pe_op op_rep (pe_lst (pa_cons (pe_int) pa_nil)) (pe_fldK K rfl (pv 0) rfl)))
      (pss_cons (ps_set (i := 4) sc_Bench_show_next.nd rfl (Or.inr rfl) (pe_op op_rep (pe_lst (pa_cons (pe_int) pa_nil)) (pe_fldK K rfl (pv 0) rfl)))
      (pss_cons (ps_for PassesOwn.never rfl (pi_list (pe_fldK K rfl (pe_fldK K rfl (pv 0) rfl) rfl)) (pg_name (i := 5) sc_Bench_show_next.nd rfl (Or.inl rfl)) (pss_cons (ps_set (i := 6) sc_Bench_show_next.nd rfl (Or.inr rfl) (pe_mtc (pe_fldK K rfl (pv 0) rfl) T.clE c_Evidence_may_light hr (pa_cons (pv 5) (pa_cons (pv 2) pa_nil))))
      (pss_cons (ps_set (i := 7) sc_Bench_show_next.nd rfl (Or.inr rfl) (pe_mtc (pe_fldK K rfl (pv 0) rfl) T.clE c_Evidence_may_be_dark hr (pa_cons (pv 5) (pa_cons (pv 2) pa_nil))))
      (pss_cons (ps_set (i := 3) sc_Bench_show_next.nd rfl (Or.inr rfl) (pe_lc (own := [("i", 11)]) (g := gName 11) (tt := tYes) rfl sc_Bench_show_next.nd (pi_range1 (by rfl) T.n_range (pa_cons (pe_fldK K rfl (pv 0) rfl) pa_nil)) (blkOk_by (own := [("i", 11)]) (N := nn_Bench_show_next) (sc := defScope st_Bench_show_next) (by decide +kernel)) (fun _ _ _ _ _ => pg_name (i := 11) sc_Bench_show_next.nd rfl (Or.inl rfl)) (fun _ _ _ _ _ => pts_nil) (fun _ _ _ _ _ => (pe_op op_or (pe_ix (ix_listK K rfl) (pv 3) (pv 11) (fun _ _ => rfl)) (pe_ix (ix_listK K rfl) (pv 6) (pv 11) (fun _ _ => rfl))))))
      (pss_one (ps_set (i := 4) sc_Bench_show_next.nd rfl (Or.inr rfl) (pe_lc (own := [("i", 11)]) (g := gName 11) (tt := tYes) rfl sc_Bench_show_next.nd (pi_range1 (by rfl) T.n_range (pa_cons (pe_fldK K rfl (pv 0) rfl) pa_nil)) (blkOk_by (own := [("i", 11)]) (N := nn_Bench_show_next) (sc := defScope st_Bench_show_next) (by decide +kernel)) (fun _ _ _ _ _ => pg_name (i := 11) sc_Bench_show_next.nd rfl (Or.inl rfl)) (fun _ _ _ _ _ => pts_nil) (fun _ _ _ _ _ => (pe_op op_or (pe_ix (ix_listK K rfl) (pv 4) (pv 11) (fun _ _ => rfl)) (pe_ix (ix_listK K rfl) (pv 7) (pv 11) (fun _ _ => rfl)))))))))))
      (pss_cons (ps_setLc (i := 8) (own := [("i", 11)]) (g := gName 11) (tt := tYes) rfl sc_Bench_show_next.nd rfl rfl (sw_true rfl rfl rfl (by decide +kernel)) (pi_range1 (by rfl) T.n_range (pa_cons (pe_fldK K rfl (pv 0) rfl) pa_nil)) (blkOk_by (own := [("i", 11)]) (N := nn_Bench_show_next) (sc := defScope st_Bench_show_next) (by decide +kernel)) (fun _ _ _ _ _ => pg_name (i := 11) sc_Bench_show_next.nd rfl (Or.inl rfl)) (fun _ _ _ _ _ => pts_nil) (fun _ _ _ _ _ => (pe_op op_and (pe_ix (ix_listK K rfl) (pv 3) (pv 11) (fun _ _ => rfl)) (pe_ix (ix_listK K rfl) (pv 4) (pv 11) (fun _ _ => rfl)))))
      (pss_cons (ps_setLc (i := 9) (own := [("strokes", 12)]) (g := gName 12) (tt := tYes) rfl sc_Bench_show_next.nd rfl rfl (sw_true rfl rfl rfl (by decide +kernel)) (pi_list (pv 4)) (blkOk_by (own := [("strokes", 12)]) (N := nn_Bench_show_next) (sc := defScope st_Bench_show_next) (by decide +kernel)) (fun _ _ _ _ _ => pg_name (i := 12) sc_Bench_show_next.nd rfl (Or.inl rfl)) (fun _ _ _ _ _ => pts_nil) (fun _ _ _ _ _ => (pe_op op_xor (pe_gi (by rfl) T.g_ALL) (pv 12))))
      (pss_cons (ps_setLc (i := 10) (own := [("strokes", 12)]) (g := gName 12) (tt := tYes) rfl sc_Bench_show_next.nd rfl rfl (sw_true rfl rfl rfl (by decide +kernel)) (pi_list (pv 3)) (blkOk_by (own := [("strokes", 12)]) (N := nn_Bench_show_next) (sc := defScope st_Bench_show_next) (by decide +kernel)) (fun _ _ _ _ _ => pg_name (i := 12) sc_Bench_show_next.nd rfl (Or.inl rfl)) (fun _ _ _ _ _ => pts_nil) (fun _ _ _ _ _ => (pe_op op_xor (pe_gi (by rfl) T.g_ALL) (pv 12))))
      (pss_one (ps_ret (pe_op op_cat (pe_op op_cat (pe_lst (pa_cons (pe_cal c_count_of_all hr (by rfl) (pa_cons (pv 8) pa_nil)) pa_nil)) (pe_cal c_told_row (hr.mono (by decide)) (by rfl) (pa_cons (pv 9) pa_nil))) (pe_cal c_told_row (hr.mono (by decide)) (by rfl) (pa_cons (pv 10) pa_nil)))))))))))))), ?_⟩
    refine q_when (et_test (ev_op (ev_var rfl) ev_c rv_I0)) (fun hc H1 e1 => ?_) (fun hc H1 e1 => ?_)
    · have hx : 10000 < d := by
        have := of_decide_eq_true hc
        omega
      have q := ans_next0 (s := st) hx
      exact s_retL (el_lst (ea_cons ev_c ea_nil) (by show 1 ≤ 100000; decide)) fun p H2 np e2 hp => k p H2 (fresh_back e1 np) (e1.trans e2) (by rw [q]; exact hp)
    have hx : d ≤ 10000 := by
      have := of_decide_eq_false hc
      omega
    refine q_when (et_not (et_tru (ev_fld (ev_fld (ev_var rfl) (e1 _ _ h1) T.clN T.naN_evidence lkN_evidence) (e1 _ _ h2) T.clE T.naE_beginnings lkE_beginnings) fun H2 e2 => tru_list (sq_of (e2 _ _ (e1 _ _ b1))) rfl)) (fun hc H2 e2 => ?_) (fun hc H2 e2 => ?_)
    · rw [p_empty b2, Bool.not_not] at hc
      have q := ans_next1 (s := st) hx (List.isEmpty_iff.mp hc)
      exact s_retL (el_lst (ea_cons ev_c ea_nil) (by show 1 ≤ 100000; decide)) fun p H3 np e3 hp => k p H3 (fresh_back (e1.trans e2) np) ((e1.trans e2).trans e3) (by rw [q]; exact hp)
    rw [p_empty b2, Bool.not_not] at hc
    have hn : Sy69.all_ st ≠ [] := fun e => by
      rw [e] at hc
      cases hc
    have g2 := e1.trans e2
    refine q_asg (ev_add (ev_meth (ev_var rfl) (g2 _ _ h1) noN_now ea_nil (sv_now (hB.mono g2))) (ev_var rfl)) fun H3 e3 => ?_
    have g3 := g2.trans e3
    refine q_asgL (el_rep0 (ea_cons ev_c ea_nil) (ev_fld (ev_var rfl) (g3 _ _ h1) T.clN T.naN_digits lkN_digits) hd) fun pl H4 npl e4 hpl => ?_
    have g4 := g3.trans e4
    refine q_asgL (el_rep0 (ea_cons ev_c ea_nil) (ev_fld (ev_var rfl) (g4 _ _ h1) T.clN T.naN_digits lkN_digits) hd) fun pd H5 npd e5 hpd => ?_
    have g5 := g4.trans e5
    refine q_forLn (ev_fld (ev_fld (ev_var rfl) (g5 _ _ h1) T.clN T.naN_evidence lkN_evidence) (g5 _ _ h2) T.clE T.naE_beginnings lkE_beginnings) (sq_of (g5 _ _ b1))
      (fun i σ H' => Ex H H' ∧ ∃ (pl pd : Addr) (y5 y6 y7 : Option V), H' pl = some (.lst (vN (tab st.digits fun k => ((Sy69.all_ st).take i).foldl (fun w x => w ||| mlF st x (Sy69.now st + d) k) 0))) ∧ H' pd = some (.lst (vN (tab st.digits fun k => ((Sy69.all_ st).take i).foldl (fun w x => w ||| mdF st x (Sy69.now st + d) k) 0))) ∧
        σ = [some (.ref n), some (.int (d : Int)), some (.int ((Sy69.now st + d : Nat) : Int)), some (.ref pl), some (.ref pd), y5, y6, y7, none, none, none, none, none])
      (fun H6 e6 => ⟨g5.trans e6, pl, pd, none, none, none, e6 _ _ (e5 _ _ hpl), e6 _ _ hpd, rfl⟩) (fun i σ' H' _ ⟨g, _⟩ => sq_of (g _ _ b1)) ?_ ?_
    · rintro i y σ' H' hy ⟨g, pl, pd, y5, y6, y7, q1, q2, rfl⟩
      obtain ⟨b, hbi, rfl⟩ := vR_get hy
      obtain ⟨z, hzi, bz⟩ := p_get b2 hbi
      refine q_asgL (el_meth (ev_fld (ev_var rfl) (g _ _ h1) T.clN T.naN_evidence lkN_evidence) (g _ _ h2) noE_may_light (ea_cons (ev_var rfl) (ea_cons (ev_var rfl) ea_nil)) (spl_of fun H6 e6 Q6 E6 k6 => ⟨le, b, st, z, Sy69.now st + d, rfl, W, hE.mono (g.trans e6), bz.mono (g.trans e6), k6⟩)) fun r1 H6 nr1 e6 hr1 => ?_
      have g6 := g.trans e6
      refine q_asgL (el_meth (ev_fld (ev_var rfl) (g6 _ _ h1) T.clN T.naN_evidence lkN_evidence) (g6 _ _ h2) noE_may_be_dark (ea_cons (ev_var rfl) (ea_cons (ev_var rfl) ea_nil)) (spl_of fun H7 e7 Q7 E7 k7 => ⟨le, b, st, z, Sy69.now st + d, rfl, W, hE.mono (g6.trans e7), bz.mono (g6.trans e7), k7⟩)) fun r2 H7 nr2 e7 hr2 => ?_
      have g7 := g6.trans e7
      refine q_asgL (el_row (fun k => ((Sy69.all_ st).take (i + 1)).foldl (fun w x => w ||| mlF st x (Sy69.now st + d) k) 0) (ea_cons (ev_fld (ev_var rfl) (g7 _ _ h1) T.clN T.naN_digits lkN_digits) ea_nil) (by omega) (fun _ => rfl) fun j hj => ?_) fun pl' H8 npl' e8 hpl' => ?_
      · rw [fold_take (g := fun w x => w ||| mlF st x (Sy69.now st + d) j) hzi]
        exact ev_or (ev_ix (ev_var rfl) (ev_var rfl) (e7 _ _ (e6 _ _ q1)) hj) (ev_ix (ev_var rfl) (ev_var rfl) (e7 _ _ hr1) hj)
      refine s_asgL (el_row (fun k => ((Sy69.all_ st).take (i + 1)).foldl (fun w x => w ||| mdF st x (Sy69.now st + d) k) 0) (ea_cons (ev_fld (ev_var rfl) ((g7.trans e8) _ _ h1) T.clN T.naN_digits lkN_digits) ea_nil) (by omega) (fun _ => rfl) fun j hj => ?_) fun pd' H9 npd' e9 hpd' => ⟨(g7.trans e8).trans e9, pl', pd', _, _, _, e9 _ _ hpl', hpd', rfl⟩
      rw [fold_take (g := fun w x => w ||| mdF st x (Sy69.now st + d) j) hzi]
      exact ev_or (ev_ix (ev_var rfl) (ev_var rfl) (((e6.trans e7).trans e8) _ _ q2) hj) (ev_ix (ev_var rfl) (ev_var rfl) (e8 _ _ hr2) hj)
    · rintro σ' H6 ⟨g6, pl, pd, y5, y6, y7, q1, q2, rfl⟩
      rw [vR_len, p_len b2, take_all] at q1 q2
      have q1 : H6 pl = some (.lst (vN (tab st.digits (mlA st (Sy69.now st + d))))) := q1
      have q2 : H6 pd = some (.lst (vN (tab st.digits (mdA st (Sy69.now st + d))))) := q2
      refine q_asgL (el_row (fun k => mlA st (Sy69.now st + d) k &&& mdA st (Sy69.now st + d) k) (ea_cons (ev_fld (ev_var rfl) (g6 _ _ h1) T.clN T.naN_digits lkN_digits) ea_nil) (by omega) (fun _ => rfl) fun j hj => ev_and (ev_ix (ev_var rfl) (ev_var rfl) q1 hj) (ev_ix (ev_var rfl) (ev_var rfl) q2 hj)) fun po H7 npo e7 hpo => ?_
      refine q_asgL (el_rowL (fun k => 127 ^^^ mdA st (Sy69.now st + d) k) (ev_var rfl) (e7 _ _ q2) (by omega) (fun _ => rfl) fun j hj => ev_xor ev_all (ev_var rfl)) fun pa H8 npa e8 hpa => ?_
      refine q_asgL (el_rowL (fun k => 127 ^^^ mlA st (Sy69.now st + d) k) (ev_var rfl) (e8 _ _ (e7 _ _ q1)) (by omega) (fun _ => rfl) fun j hj => ev_xor ev_all (ev_var rfl)) fun pb H9 npb e9 hpb => ?_
      have g9 := ((g6.trans e7).trans e8).trans e9
      have t0 := tab_small W (fun k => mlA st (Sy69.now st + d) k &&& mdA st (Sy69.now st + d) k)
      have t1 := tab_small W (fun k => 127 ^^^ mdA st (Sy69.now st + d) k)
      have t2 := tab_small W (fun k => 127 ^^^ mlA st (Sy69.now st + d) k)
      refine s_retL (el_is (el_cat (el_cat (el_lst (ea_cons (ev_call (ea_cons (ev_var rfl) ea_nil) (sv_countAll (e9 _ _ (e8 _ _ hpo)) (by omega))) ea_nil) (by show 1 ≤ 100000; decide)) (el_toldVN (ev_var rfl) (e9 _ _ hpa) (by omega)) ?_)
        (el_toldVN (ev_var rfl) hpb (by omega)) ?_) ?_) fun p H10 np e10 hp => k p H10 (fresh_back g9 np) (g9.trans e10) hp
      · rw [vI_len, told_len, ints_len]
        show 1 + _ ≤ _
        omega
      · rw [List.length_append, vI_len, vI_len, told_len, told_len, ints_len, ints_len]
        show 1 + _ + _ ≤ _
        omega
      · rw [ans_next hx hn, vI_append, vI_append]
        rfl

/-! ### apart, shown, state -/
def spApart (a : Adr) : Sp := fun vs H Q _ => ∃ (n : Addr) (s : Sy69.St) (x y d : Nat), vs = [.ref n, .int (x : Int), .int (y : Int), .int (d : Int)] ∧ Wf s ∧ BnAt a s H n ∧ RetA s (.apart x y d) H Q
theorem ok_Bench_apart {f : Addr} {fd : FuncData} (F : Fun K "apart" "Bench.apart" st_Bench_apart f fd) (T : Txt K mg a) (c_numbers_of : Callee P w K mg base "numbers_of" 1 ["digits"] spNumbers) (c_Bench_now : MethC P w K mg base a.N "now" 1 ["self"] (spNow a))
    (c_Evidence_beginning : MethC P w K mg base a.E "beginning" 1 ["self", "number"] (spBeginning a)) (c_Evidence_told_apart : MethC P w K mg base a.E "told_apart" 3 ["self", "first", "second", "time"] (spTold a)) : FnOk P w K mg base CX0 4 f fd ["self", "number", "other", "seconds"] (spApart a) := by
  refine F.ok sc_Bench_apart (fun vs H Q E h => ?_) (fun cdv A outer s H vs Q E hr h => ?_)
  · obtain ⟨n, s, x, y, d, rfl, _⟩ := h
    rfl
  · obtain ⟨n, st, x, y, d, rfl, W, hB, k⟩ := h
    have hB' := hB
    obtain ⟨dx, ls, le, h1, _, hE⟩ := hB'
    have hE' := hE
    obtain ⟨lb, ⟨dy, ld, ll, h2, _, _⟩, _⟩ := hE'
    have hd := W.hi
    refine ⟨_, (pss_cons (ps_if (pt_cmpR op_ge (pe_callB (call_max2 rfl) (by rfl) T.n_max (by decide +kernel) (pa_cons (pv 1) (pa_cons (pv 2) pa_nil))) (pe_cal c_numbers_of (hr.mono (by decide)) (by rfl) (pa_cons (pe_fldK K rfl (pv 0) rfl) pa_nil)) (nomark _)) (pss_one (ps_ret (pe_lst (pa_cons (pe_gi (by rfl) T.g_NOT_THERE) pa_nil)))) pss_nil)
      (pss_cons (ps_if (PW.pt (pw_or (pt_cmpR op_gt (pv 3) (pe_gi (by rfl) T.g_SECONDS_AT_MOST) (nomark _)) (pw_or1 (pt_cmpR op_eq (pv 1) (pv 2) (nomark _))))) (pss_one (ps_ret (pe_lst (pa_cons (pe_gi (by rfl) T.g_BAD_NUMBER) pa_nil)))) pss_nil)
      (pss_cons (ps_set (i := 4) sc_Bench_apart.nd rfl (Or.inl rfl) (pe_mtc (pe_fldK K rfl (pv 0) rfl) T.clE c_Evidence_beginning (hr.mono (by decide)) (pa_cons (pv 1) pa_nil)))
      (pss_cons (ps_set (i := 5) sc_Bench_apart.nd rfl (Or.inl rfl) (pe_mtc (pe_fldK K rfl (pv 0) rfl) T.clE c_Evidence_beginning (hr.mono (by decide)) (pa_cons (pv 2) pa_nil)))
      (pss_cons (ps_if (PW.pt (pw_or (pt_cmpR op_isN (pv 4) (pe_non) (nomark _)) (pw_or1 (pt_cmpR op_isN (pv 5) (pe_non) (nomark _))))) (pss_one (ps_ret (pe_lst (pa_cons (pe_gi (by rfl) T.g_NO_EXPLANATION) pa_nil)))) pss_nil)
      (pss_one (ps_ret (pe_lst (pa_cons (pe_ifExp (pt_val (pe_mtc (pe_fldK K rfl (pv 0) rfl) T.clE c_Evidence_told_apart hr (pa_cons (pv 4) (pa_cons (pv 5) (pa_cons (pe_op op_add (pe_mtc0 (pv 0) T.clN c_Bench_now (hr.mono (by decide))) (pv 3)) pa_nil))))) (pe_int) (pe_int)) pa_nil))))))))), ?_⟩
    refine q_when (et_test (ev_op (ev_max2 (ev_var rfl) (ev_var rfl)) (ev_call (ea_cons (ev_fld (ev_var rfl) h1 T.clN T.naN_digits lkN_digits) ea_nil) (sv_numbers hd)) rv_I0)) (fun hc H1 e1 => ?_) (fun hc H1 e1 => ?_)
    · have hx : 10 ^ st.digits ≤ x ∨ 10 ^ st.digits ≤ y := by
        have q := of_decide_eq_true hc
        split at q
        · exact .inr (Int.ofNat_le.mp q)
        · exact .inl (Int.ofNat_le.mp q)
      have q := ans_apart0 (s := st) (d := d) hx
      exact s_retL (el_lst (ea_cons ev_c ea_nil) (by show 1 ≤ 100000; decide)) fun p H2 np e2 hp => k p H2 (fresh_back e1 np) (e1.trans e2) (by rw [q]; exact hp)
    have hx : ¬ (10 ^ st.digits ≤ x ∨ 10 ^ st.digits ≤ y) := by
      have q := of_decide_eq_false hc
      rintro (z | z)
      · apply q
        have := Int.ofNat_le.mpr z
        split
        · rename_i h
          exact Int.le_trans this (Int.le_of_lt h)
        · exact this
      · apply q
        have := Int.ofNat_le.mpr z
        split
        · exact this
        · rename_i h
          exact Int.le_trans this (Int.not_lt.mp h)
    refine q_when (et_or (et_test (ev_op (ev_var rfl) ev_c rv_I0)) fun _ => et_test (ev_op (ev_var rfl) (ev_var rfl) (rv_eq rfl))) (fun hc H2 e2 => ?_) (fun hc H2 e2 => ?_)
    · have hy : 10000 < d ∨ x = y := by
        rcases (Bool.or_eq_true _ _).mp hc with q | q
        · have := of_decide_eq_true q
          exact .inl (by omega)
        · have := V.int.inj (of_decide_eq_true q)
          exact .inr (by omega)
      have q := ans_apart1 (s := st) hx hy
      exact s_retL (el_lst (ea_cons ev_c ea_nil) (by show 1 ≤ 100000; decide)) fun p H3 np e3 hp => k p H3 (fresh_back (e1.trans e2) np) ((e1.trans e2).trans e3) (by rw [q]; exact hp)
    have hy : ¬ (10000 < d ∨ x = y) := by
      obtain ⟨q1, q2⟩ := (Bool.or_eq_false_iff).mp hc
      have q1 := of_decide_eq_false q1
      have q2 := of_decide_eq_false q2
      rintro (z | z)
      · omega
      · exact q2 (by rw [z])
    have g2 := e1.trans e2
    refine q_asgP (ep_beginning W (hE.mono g2) (ev_fld (ev_var rfl) (g2 _ _ h1) T.clN T.naN_evidence lkN_evidence) (ev_var rfl)) ?_
    intro v1 H3 e3 hv1
    have g3 := g2.trans e3
    refine q_asgP (ep_beginning W (hE.mono g3) (ev_fld (ev_var rfl) (g3 _ _ h1) T.clN T.naN_evidence lkN_evidence) (ev_var rfl)) ?_
    intro v2 H4 e4 hv2
    have g4 := g3.trans e4
    have isN : ∀ {v : V} {σ : L2.St} {te : TE} {H5 : Hp}, Ev te σ H5 v → EvT (tTest (tOp (fun x y H Q => y = .non ∧ Q (.bl (decide (x = .non))) H) te (tC .non))) σ H5 (decide (v = .non)) := fun h => et_test (ev_op h ev_c fun H6 _ Q6 q6 => ⟨rfl, q6 H6 (Ex.refl H6)⟩)
    refine q_when (et_or (isN (ev_var rfl)) fun _ => isN (ev_var rfl)) (fun hc H5 e5 => ?_) (fun hc H5 e5 => ?_)
    · have hz : x ∉ Sy69.all_ st ∨ y ∉ Sy69.all_ st := by
        rcases hv1 with ⟨_, b, rfl, _⟩ | ⟨q, _⟩
        · rcases hv2 with ⟨_, c, rfl, _⟩ | ⟨q, _⟩
          · rw [decide_eq_false (show ¬ V.ref b = V.non by intro z; cases z), decide_eq_false (show ¬ V.ref c = V.non by intro z; cases z)] at hc
            cases hc
          · exact .inr q
        · exact .inl q
      have q := ans_apart2 (s := st) hx hy hz
      exact s_retL (el_lst (ea_cons ev_c ea_nil) (by show 1 ≤ 100000; decide)) fun p H6 np e6 hp => k p H6 (fresh_back (g4.trans e5) np) ((g4.trans e5).trans e6) (by rw [q]; exact hp)
    obtain ⟨hc1, hc2⟩ := (Bool.or_eq_false_iff).mp hc
    have hc1 := of_decide_eq_false hc1
    have hc2 := of_decide_eq_false hc2
    rcases hv1 with ⟨hx1, b, rfl, hb1⟩ | ⟨_, e⟩
    · rcases hv2 with ⟨hy1, c, rfl, hb2⟩ | ⟨_, e⟩
      · have g5 := g4.trans e5
        have hb1' := hb1.mono (e4.trans e5)
        have hb2' := hb2.mono e5
        have ht := ev_meth (m := "told_apart") (sp := spTold a) (dvs := []) (E := E0) (z := .bl ((List.range st.digits).any (clash st x y (Sy69.now st + d)))) (σ := [some (.ref n), some (.int (x : Int)), some (.int (y : Int)), some (.int (d : Int)), some (.ref b), some (.ref c)]) (ta := tFld K (tVar 0) "evidence")
          (tr := tCons (tVar 4) (tCons (tVar 5) (tCons (tOp (rI0 fun i j => .int (i + j)) (tMeth a.N "now" (spNow a) [] E0 (tVar 0) tNil) (tVar 3)) tNil))) (ev_fld (ev_var rfl) (g5 _ _ h1) T.clN T.naN_evidence lkN_evidence) (g5 _ _ h2) noE_told_apart
          (ea_cons (ev_var rfl) (ea_cons (ev_var rfl) (ea_cons (ev_add (ev_meth (ev_var rfl) (g5 _ _ h1) noN_now ea_nil (sv_now (hB.mono g5))) (ev_var rfl)) ea_nil))) (spv_of fun H6 e6 Q6 E6 k6 => ⟨le, b, c, st, x, y, Sy69.now st + d, rfl, W, hE.mono (g5.trans e6), hb1'.mono e6, hb2'.mono e6, k6⟩)
        have q := ans_apart (s := st) hy hx1 hy1
        refine s_retL (el_lst (ea_cons (ev_if (v := .int (if (List.range st.digits).any (clash st x y (Sy69.now st + d)) = true then 1 else 0)) (et_B ht) (fun hb => ?_) (fun hb => ?_)) ea_nil) (by show 1 ≤ 100000; decide)) fun p H6 np e6 hp => k p H6 (fresh_back g5 np) (g5.trans e6) (by rw [q]; exact hp)
        · rw [if_pos hb]
          exact ev_c
        · rw [if_neg (by rw [hb]; decide)]
          exact ev_c
      · exact absurd e hc2
    · exact absurd e hc1
def spShown (a : Adr) : Sp := fun vs H Q _ => ∃ (n : Addr) (s : Sy69.St) (x d : Nat), vs = [.ref n, .int (x : Int), .int (d : Int)] ∧ Wf s ∧ BnAt a s H n ∧ RetA s (.shown x d) H Q
theorem ok_Bench_shown {f : Addr} {fd : FuncData} (F : Fun K "shown" "Bench.shown" st_Bench_shown f fd) (T : Txt K mg a) (c_numbers_of : Callee P w K mg base "numbers_of" 1 ["digits"] spNumbers) (c_should_light : Callee P w K mg base "should_light" 1 ["number", "digits"] spShould) (c_told_row : Callee P w K mg base "told_row" 1 ["row"] spToldRow)
    (c_Bench_now : MethC P w K mg base a.N "now" 1 ["self"] (spNow a)) : FnOk P w K mg base CX0 2 f fd ["self", "number", "seconds"] (spShown a) := by
  refine F.ok sc_Bench_shown (fun vs H Q E h => ?_) (fun cdv A outer s H vs Q E hr h => ?_)
  · obtain ⟨n, s, x, d, rfl, _⟩ := h
    rfl
  · obtain ⟨n, st, x, d, rfl, W, hB, k⟩ := h
    have hB' := hB
    obtain ⟨dx, ls, le, h1, _, hE⟩ := hB'
    have hd := W.hi
    refine ⟨_, (pss_cons (ps_if (pt_cmpR op_ge (pv 1) (pe_cal c_numbers_of hr (by rfl) (pa_cons (pe_fldK K rfl (pv 0) rfl) pa_nil)) (nomark _)) (pss_one (ps_ret (pe_lst (pa_cons (pe_gi (by rfl) T.g_NOT_THERE) pa_nil)))) pss_nil)
      (pss_cons (ps_if (pt_cmpR op_gt (pv 2) (pe_gi (by rfl) T.g_SECONDS_AT_MOST) (nomark _)) (pss_one (ps_ret (pe_lst (pa_cons (pe_gi (by rfl) T.g_BAD_NUMBER) pa_nil)))) pss_nil)
      (pss_cons (ps_set (i := 3) sc_Bench_shown.nd rfl (Or.inl rfl) (pe_op op_mod (pe_op op_add (pe_op op_add (pv 1) (pe_mtc0 (pv 0) T.clN c_Bench_now hr)) (pv 2)) (pe_cal c_numbers_of hr (by rfl) (pa_cons (pe_fldK K rfl (pv 0) rfl) pa_nil))))
      (pss_one (ps_ret (pe_op op_cat (pe_lst (pa_cons (pv 3) pa_nil)) (pe_cal c_told_row hr (by rfl) (pa_cons (pe_cal c_should_light hr (by rfl) (pa_cons (pv 3) (pa_cons (pe_fldK K rfl (pv 0) rfl) pa_nil))) pa_nil)))))))), ?_⟩
    refine q_when (et_test (ev_op (ev_var rfl) (ev_call (ea_cons (ev_fld (ev_var rfl) h1 T.clN T.naN_digits lkN_digits) ea_nil) (sv_numbers hd)) rv_I0)) (fun hc H1 e1 => ?_) (fun hc H1 e1 => ?_)
    · have hx : 10 ^ st.digits ≤ x := Int.ofNat_le.mp (of_decide_eq_true hc)
      have q := ans_shown0 (s := st) (d := d) hx
      exact s_retL (el_lst (ea_cons ev_c ea_nil) (by show 1 ≤ 100000; decide)) fun p H2 np e2 hp => k p H2 (fresh_back e1 np) (e1.trans e2) (by rw [q]; exact hp)
    have hx : x < 10 ^ st.digits := Nat.lt_of_not_le fun z => of_decide_eq_false hc (Int.ofNat_le.mpr z)
    refine q_when (et_test (ev_op (ev_var rfl) ev_c rv_I0)) (fun hc H2 e2 => ?_) (fun hc H2 e2 => ?_)
    · have hy : 10000 < d := by
        have := of_decide_eq_true hc
        omega
      have q := ans_shown1 (s := st) hx hy
      exact s_retL (el_lst (ea_cons ev_c ea_nil) (by show 1 ≤ 100000; decide)) fun p H3 np e3 hp => k p H3 (fresh_back (e1.trans e2) np) ((e1.trans e2).trans e3) (by rw [q]; exact hp)
    have hy : d ≤ 10000 := by
      have := of_decide_eq_false hc
      omega
    have g2 := e1.trans e2
    refine q_asg (ev_mod (pow_pos' _) (ev_add (ev_add (ev_var rfl) (ev_meth (ev_var rfl) (g2 _ _ h1) noN_now ea_nil (sv_now (hB.mono g2)))) (ev_var rfl)) (ev_call (ea_cons (ev_fld (ev_var rfl) (g2 _ _ h1) T.clN T.naN_digits lkN_digits) ea_nil) (sv_numbers hd))) fun H3 e3 => ?_
    have g3 := g2.trans e3
    have t1 := tab_small W (shouldF st.digits ((x + Sy69.now st + d) % 10 ^ st.digits))
    refine s_retL (el_is (el_cat (el_lst (ea_cons (ev_var rfl) ea_nil) (by show 1 ≤ 100000; decide)) (el_toldN (el_call (ea_cons (ev_var rfl) (ea_cons (ev_fld (ev_var rfl) (g3 _ _ h1) T.clN T.naN_digits lkN_digits) ea_nil)) (sl_should hd)) (by omega)) ?_) ?_) fun p H4 np e4 hp => k p H4 (fresh_back g3 np) (g3.trans e4) hp
    · rw [vI_len, told_len, ints_len]
      show 1 + _ ≤ _
      omega
    · rw [ans_shown hx hy, vI_append, Nat.add_assoc]
      rfl
def spState (a : Adr) : Sp := fun vs H Q _ => ∃ (n : Addr) (s : Sy69.St), vs = [.ref n] ∧ Wf s ∧ BnAt a s H n ∧ RetA s .state H Q
theorem rows_take {zs : List Sy69.Sight} {i : Nat} {z : Sy69.Sight} (h : zs[i]? = some z) : rowsOf (zs.take (i + 1)) = (rowsOf (zs.take i) ++ [(z.time : Int)]) ++ Sy69.ints z.lit := by
  unfold rowsOf
  rw [List.take_succ, h, List.flatMap_append]
  show Sy69.ints (_ ++ ((z.time :: z.lit) ++ [])) = _
  unfold Sy69.ints
  rw [List.append_nil, List.map_append, List.map_cons, List.append_assoc]
  rfl
theorem rows_len {zs : List Sy69.Sight} {d : Nat} (h : ∀ z ∈ zs, z.lit.length = d) : (rowsOf zs).length = zs.length * (d + 1) := by
  unfold rowsOf
  rw [ints_len, List.length_flatMap]
  induction zs with
  | nil => rw [List.length_nil, Nat.zero_mul]; rfl
  | cons z r ih =>
    rw [List.map_cons, List.sum_cons, ih fun y hy => h y (List.mem_cons_of_mem _ hy), List.length_cons, List.length_cons, h z List.mem_cons_self, Nat.succ_mul]
    omega
theorem rows_small {s : Sy69.St} (W : Wf s) (i : Nat) : (rowsOf (s.sights.take i)).length ≤ 32 := by
  rw [rows_len (d := s.digits) fun z hz => W.lit z (List.mem_of_mem_take hz)]
  have h1 : (s.sights.take i).length ≤ 8 := Nat.le_trans (by rw [List.length_take]; exact Nat.min_le_right _ _) W.many
  have h2 := W.hi
  exact Nat.mul_le_mul h1 (show s.digits + 1 ≤ 4 by omega)
theorem ok_Bench_state {f : Addr} {fd : FuncData} (F : Fun K "state" "Bench.state" st_Bench_state f fd) (T : Txt K mg a) (c_told_row : Callee P w K mg base "told_row" 1 ["row"] spToldRow) (c_Bench_now : MethC P w K mg base a.N "now" 1 ["self"] (spNow a)) : FnOk P w K mg base CX0 2 f fd ["self"] (spState a) := by
  refine F.ok sc_Bench_state (fun vs H Q E h => ?_) (fun cdv A outer s H vs Q E hr h => ?_)
  · obtain ⟨n, s, rfl, _⟩ := h
    rfl
  · obtain ⟨n, st, rfl, W, hB, k⟩ := h
    have hB' := hB
    obtain ⟨dx, ls, le, h1, ⟨ps, h2, h3⟩, hE⟩ := hB'
    have hd := W.hi
    refine ⟨_, (pss_cons (ps_set (i := 1) sc_Bench_state.nd rfl (Or.inl rfl) (pe_lst pa_nil))
      (pss_cons (ps_for PassesOwn.never rfl (pi_list (pe_fldK K rfl (pv 0) rfl)) (pg_name (i := 2) sc_Bench_state.nd rfl (Or.inl rfl)) (pss_cons (ps_expr (pe_bm PySem.F.plainAttrs_list PySem.F.slot_list_append PySem.F.type_list_append mt_append (pv 1) (pa_cons (pe_fldK K rfl (pv 2) rfl) pa_nil)))
      (pss_one (ps_expr (pe_bm PySem.F.plainAttrs_list PySem.F.slot_list_extend PySem.F.type_list_extend mt_extend (pv 1) (pa_cons (pe_fldK K rfl (pv 2) rfl) pa_nil))))))
      (pss_one (ps_ret (pe_op op_cat (pe_op op_cat (pe_lst (pa_cons (pe_mtc0 (pv 0) T.clN c_Bench_now hr) pa_nil)) (pe_cal c_told_row hr (by rfl) (pa_cons (pe_lst (pa_cons (pe_fldK K rfl (pv 0) rfl) pa_nil)) pa_nil))) (pe_cal c_told_row hr (by rfl) (pa_cons (pv 1) pa_nil))))))), ?_⟩
    refine q_asgL (el_lst ea_nil (Nat.zero_le _)) fun p H1 np e1 hp => ?_
    refine q_forLn (ev_fld (ev_var rfl) (e1 _ _ h1) T.clN T.naN_sights lkN_sights) (sq_of (e1 _ _ h2)) (fun i σ H' => Ex H H' ∧ H' p = some (.lst (vI (rowsOf (st.sights.take i)))) ∧ ∃ y, σ = [some (.ref n), some (.ref p), y])
      (fun H2 e2 => ⟨e1.trans e2, e2 _ _ hp, none, rfl⟩) (fun i σ' H' _ ⟨g, _⟩ => sq_of (g _ _ h2)) ?_ ?_
    · rintro i y σ' H' hy ⟨g, hp2, y2, rfl⟩
      obtain ⟨q, hq, rfl⟩ := vR_get hy
      obtain ⟨z, hzi, sz⟩ := p_get h3 hq
      obtain ⟨dz, lz, z1, z2⟩ := sz.mono g
      have r1 := rows_small W i
      have r2 := rows_small W (i + 1)
      refine q_app hp2 (ev_var rfl) (ev_fld (ev_var rfl) z1 T.clS T.naS_time lkS_time) (by rw [vI_len]; omega) fun H3 e3 => ?_
      have g3 := (g.trans e3).mut (o := .lst (vI (rowsOf (st.sights.take i)) ++ [.int (z.time : Int)])) np
      obtain ⟨dz2, lz2, z3, z4⟩ := sz.mono g3
      have es : vI (rowsOf (st.sights.take (i + 1))) = (vI (rowsOf (st.sights.take i)) ++ [.int (z.time : Int)]) ++ vN z.lit := by
        rw [rows_take hzi, vI_append, vI_append, vN_ints]
        rfl
      refine s_ext (b := lz2) upd_same z4 (ev_var rfl) (ev_fld (ev_var rfl) z3 T.clS T.naS_lit lkS_lit) (sz_of ?_) fun H4 e4 => ⟨(g3.trans e4).mut np, ?_, _, rfl⟩
      · rw [← List.length_append, ← es, vI_len]
        omega
      · rw [upd_same, es]
    · rintro σ' H' ⟨g, hp2, y2, rfl⟩
      have rs := rows_small W st.sights.length
      rw [vR_len, p_len h3] at hp2
      rw [take_all] at hp2 rs
      refine s_retL (el_is (el_cat (el_cat (el_lst (ea_cons (ev_meth (ev_var rfl) (g _ _ h1) noN_now ea_nil (sv_now (hB.mono g))) ea_nil) (by show 1 ≤ 100000; decide))
        (el_told (l := [(st.digits : Int)]) (el_lst (ea_cons (ev_fld (ev_var rfl) (g _ _ h1) T.clN T.naN_digits lkN_digits) ea_nil) (by show 1 ≤ 100000; decide)) (by show 1 ≤ 90000; decide)) (by show 1 + 2 ≤ 100000; decide))
        (el_toldV (ev_var rfl) hp2 (by omega)) ?_) ?_) fun p2 H3 np2 e3 hp3 => k p2 H3 (fresh_back g np2) (g.trans e3) hp3
      · rw [vI_len, told_len]
        show 3 + _ ≤ _
        omega
      · rw [ans_state, vI_append, vI_append]
        rfl
end
end Bs
/-! The walks of the module counter. -/
namespace Bs
open PySem PySem.Spec PyProof.Rows L2 Evl
/-! ### a call's numbers -/
def code : Sy69.Call → Nat
  | .begins _ => 0
  | .sees _ _ => 1
  | .undo => 2
  | .may _ => 3
  | .likely _ => 4
  | .guess _ => 5
  | .stroke _ _ => 6
  | .sure => 7
  | .next _ => 8
  | .apart _ _ _ => 9
  | .shown _ _ => 10
  | .state => 11
theorem code_lt (x : Sy69.Call) : code x < sizes.length := by
  cases x <;> (simp only [code]; decide)
theorem t_no (x : Sy69.Call) (k : Nat) (h : code x ≠ k) : decide (V.int (code x : Int) = V.int (k : Int)) = false := decide_eq_false fun e => h (by have := V.int.inj e; omega)
theorem t_yes (x : Sy69.Call) (k : Nat) (h : code x = k) : decide (V.int (code x : Int) = V.int (k : Int)) = true := decide_eq_true (by rw [h])
theorem flat_head (x : Sy69.Call) (r : List Int) : (flat x ++ r)[0]? = some (code x : Int) := by
  cases x <;> rfl
theorem nats_len (l : List Nat) : (nats l).length = l.length := List.length_map _
theorem flat_len (x : Sy69.Call) (h : code x ≠ 1) : (flat x).length = sizes.getD (code x) 0 := by
  cases x <;> first | rfl | exact absurd rfl h
theorem code_sees {x : Sy69.Call} (h : code x = 1) : ∃ d r, x = .sees d r := by
  cases x <;> first | exact ⟨_, _, rfl⟩ | exact absurd h (by simp [code])
theorem flat_sees (d : Nat) (r : List Nat) : (flat (.sees d r)).length = 3 + r.length := by
  show ([(1 : Int), (d : Int), (r.length : Int)] ++ nats r).length = _
  rw [List.length_append, nats_len]
  rfl
theorem flat_pos (x : Sy69.Call) : 0 < (flat x).length := by
  cases x <;> exact Nat.succ_pos _
theorem flat_small {x : Sy69.Call} (h : fine x) : (flat x).length ≤ 63 := by
  cases x with
  | sees d r =>
    rw [flat_sees]
    have : r.length ≤ 60 := h
    omega
  | _ => (show _ ≤ 63) <;> (first | exact (by decide : (1 : Nat) ≤ 63) | exact (by decide : (2 : Nat) ≤ 63) | exact (by decide : (3 : Nat) ≤ 63) | exact (by decide : (4 : Nat) ≤ 63))
theorem vI_get {l : List Int} {i : Nat} {z : Int} (h : l[i]? = some z) : (vI l)[i]? = some (.int z) := by
  unfold vI
  rw [List.getElem?_map, h]
  rfl
theorem drop_get {l m : List Int} {i j : Nat} {z : Int} (h : l.drop i = m) (e : m[j]? = some z) : l[i + j]? = some z := by
  rw [← h, List.getElem?_drop] at e
  exact e
theorem cut_mid {l m r : List Int} {i : Nat} (h : l.drop i = m ++ r) (hi : i + m.length ≤ l.length) : cutV (vI l) (some (i : Int)) (some ((i + m.length : Nat) : Int)) = vI m := by
  unfold cutV
  rw [HT.sIx_nat, HT.sIx_nat, vI_len, Nat.min_eq_left (show i ≤ l.length by omega), Nat.min_eq_left hi]
  unfold vI
  rw [← List.map_drop, ← List.map_take, h, Nat.add_sub_cancel_left, List.take_left']
  rfl
theorem cut_sees (d : Nat) (r : List Nat) : cutV (vI (flat (.sees d r))) (some 3) none = vN r := by
  have e : vI (flat (.sees d r)) = [V.int 1, V.int (d : Int), V.int (r.length : Int)] ++ vN r := by
    show vI ([(1 : Int), (d : Int), (r.length : Int)] ++ nats r) = _
    rw [vI_append]
    congr 1
    exact vN_ints r
  unfold cutV
  rw [HT.sIx_none, show HT.sIx (vI (flat (.sees d r))).length 0 (some 3) = min 3 (vI (flat (.sees d r))).length from HT.sIx_nat _ _ 3, vI_len, flat_sees, Nat.min_eq_left (by omega), e]
  rw [show List.drop 3 ([V.int 1, V.int (d : Int), V.int (r.length : Int)] ++ vN r) = vN r from rfl]
  exact List.take_of_length_le (by rw [vN_len]; omega)
section
variable {K : PySem.W.Frag} {σ : L2.St} {H H' : Hp} {ta tb tc te : TE} {D : Ends} {tz : TS} {x y z : V} {r r' : R2}
theorem ev_chain {b c : Bool} (h1 : Ev ta σ H x) (h2 : Ev tb σ H y) (h3 : Ev tc σ H z) (h4 : RV r x y H (.bl b)) (h5 : RV r' y z H (.bl c)) : Ev (tChain r r' ta tb tc) σ H (.bl (b && c)) := fun H1 e Q q =>
  h1 H1 e _ fun H2 e2 => h2 H2 (e.trans e2) _ fun H3 e3 => h4 H3 ((e.trans e2).trans e3) _ fun H4 e4 => ⟨b, rfl, by
    have g := ((e.trans e2).trans e3).trans e4
    have g' := (e2.trans e3).trans e4
    cases b with
    | true =>
      show tc σ H4 fun w' H5 => r' y w' H5 Q
      exact h3 H4 g _ fun H5 e5 => h5 H5 (g.trans e5) Q fun H6 e6 => q H6 ((g'.trans e5).trans e6)
    | false =>
      show Q (.bl false) H4
      exact q H4 g'⟩
/-- return o.m(..) -/
theorem s_retM {C n dx : Addr} {fs : List (Str × V)} {m : Str} {sp : Sp} {E : XK} {tr : TA} {PA : List V → Hp → Prop} (ha : Ev ta σ H (.ref n)) (ho : H n = some (.ins C dx fs)) (hl : fs.lookup m = none)
    (hA : ∀ H1, Ex H H1 → ∀ Q : List V → Hp → Prop, (∀ vs H2, Ex H1 H2 → PA vs H2 → Q vs H2) → tr σ H1 Q) (hs : ∀ vs H1, Ex H H1 → PA vs H1 → ∀ E : XK, sp (.ref n :: (vs ++ [])) H1 D.rt E) : tRet (tMeth C m sp [] E ta tr) D σ H :=
  ha H (Ex.refl H) _ fun H1 e1 => ⟨n, dx, fs, rfl, e1 _ _ ho, hl, hA H1 e1 _ fun vs H2 e2 hv => hs vs H2 (e1.trans e2) hv E⟩
/-- xs.append(e), any length -/
theorem q_appZ {l : Addr} {xs : List V} {v : V} (hl : H l = some (.lst xs)) (ha : Ev ta σ H (.ref l)) (h : Ev te σ H v) (hz : xs.length < sizeLine) (k : ∀ H1, Ex H H1 → tz D σ (upd H1 l (.lst (xs ++ [v])))) :
    tSeq (tDrop (tBM K "list" rAppend ta (tCons te tNil))) tz D σ H := ha H (Ex.refl H) _ fun H1 e1 =>
  ⟨Or.inl ⟨rfl, xs, sq_of (e1 l _ hl)⟩, h H1 e1 _ fun H2 e2 => ⟨l, xs, v, rfl, rfl, e2 l _ (e1 l _ hl), hz, k H2 (e1.trans e2)⟩⟩
theorem q_ext {l b : Addr} {xs ys : List V} (hl : H l = some (.lst xs)) (hb : H b = some (.lst ys)) (ha : Ev ta σ H (.ref l)) (h : Ev te σ H (.ref b)) (hz : xs.length + ys.length ≤ sizeLine) (k : ∀ H1, Ex H H1 → tz D σ (upd H1 l (.lst (xs ++ ys)))) :
    tSeq (tDrop (tBM K "list" rExtend ta (tCons te tNil))) tz D σ H := s_ext (D := { D with nx := tz D }) hl hb ha h hz k
theorem sq_exc {c n dx C : Addr} {fs : List (Str × V)} {xs : List V} (hn : H n = some (.ins C dx fs)) (g : Exc n H H') (h : SqL K H c xs) : SqL K H' c xs := by
  rcases h with (h | ⟨o, h⟩) | h
  · exact .inl (.inl (g _ _ (ne_of h hn (by intro z; cases z)) h))
  · exact .inl (.inr ⟨o, g _ _ (ne_of h hn (by intro z; cases z)) h⟩)
  · exact .inr h
/-- a list changes: what is no list of that kind stands -/
theorem sq_upd {c t : Addr} {xs ys : List V} {o : HO} (ht : H t = some (.lst ys)) (hc : c ≠ t) (h : SqL K H c xs) : SqL K (upd H t o) c xs := by
  rcases h with (h | ⟨u, h⟩) | h
  · exact .inl (.inl (by rw [upd_ne hc]; exact h))
  · exact .inl (.inr ⟨u, by rw [upd_ne hc]; exact h⟩)
  · exact .inr h
end
section
variable {P : Program} {w : World} {K : PySem.W.Frag} {mg : Str → Option Value} {base : Heap} {a : Adr}

/-! ### call_size -/
def spCallSize (K : PySem.W.Frag) : Sp := fun vs H Q _ => ∃ (p : Addr) (l r : List Int) (i : Nat) (x : Sy69.Call), vs = [.ref p, .int (i : Int)] ∧ SqL K H p (vI l) ∧ l.drop i = flat x ++ r ∧ RetV (.int ((flat x).length : Int)) H Q
theorem ok_call_size {f : Addr} {fd : FuncData} (F : Fun K "call_size" "call_size" st_call_size f fd) (T : Txt K mg a) : FnOk P w K mg base CX0 1 f fd ["calls", "at"] (spCallSize K) := by
  refine F.ok sc_call_size (fun vs H Q E h => ?_) (fun cdv A outer s H vs Q E hr h => ?_)
  · obtain ⟨p, l, r, i, x, rfl, _⟩ := h
    rfl
  · obtain ⟨p, l, r, i, x, rfl, hp, hl, k⟩ := h
    refine ⟨_, (pss_cons (ps_set (i := 2) sc_call_size.nd rfl (Or.inl rfl) (pe_ix (ix_tupK K rfl) (pe_glob (v := .ref a.Cz) (by rfl) T.g_CALL_SIZES rfl) (pe_ix (ix_listK K rfl) (pv 0) (pv 1) (fun _ _ => rfl)) (fun _ _ => rfl)))
      (pss_cut (ps_if (pt_cmpR op_eq (pe_ix (ix_listK K rfl) (pv 0) (pv 1) (fun _ _ => rfl)) (pe_gi (by rfl) T.g_SEES) (nomark _)) (pss_one (ps_aug (i := 2) sc_call_size.nd rfl (Or.inl rfl) (pe_ix (ix_listK K rfl) (pv 0) (pe_op op_add (pv 1) (pe_int)) (fun _ _ => rfl)) ip_add)) pss_nil)
      (pss_one (ps_ret (pv 2))))), ?_⟩
    have h0 : l[i]? = some (code x : Int) := drop_get (j := 0) hl (flat_head x r)
    have evc : ∀ {σ : L2.St} {H1 : Hp} {t1 t2 : TE}, Ex H H1 → Ev t1 σ H1 (.ref p) → Ev t2 σ H1 (.int (i : Int)) → Ev (tOp (rIxL K) t1 t2) σ H1 (.int (code x : Int)) := fun e h1 h2 => ev_op h1 h2 (rv_ixL (ex_l e hp) (atI_nat (vI_get h0)))
    refine q_asg (ev_op ev_c (evc (Ex.refl H) (ev_var rfl) (ev_var rfl)) (rv_ixT (T.q_CALL_SIZES _) (at_lit (code_lt x)))) fun H1 e1 => ?_
    refine q_cut (M := fun σ H' => Ex H H' ∧ σ = [some (.ref p), some (.int (i : Int)), some (.int ((flat x).length : Int))]) ?_ ?_
    · refine s_when (et_test (ev_op (evc e1 (ev_var rfl) (ev_var rfl)) ev_c (rv_eq rfl))) (fun hc H2 e2 => ?_) (fun hc H2 e2 => ?_)
      · have h1 : code x = 1 := by
          have := V.int.inj (of_decide_eq_true hc)
          omega
        obtain ⟨d, q, rfl⟩ := code_sees h1
        have h2 : l[i + 2]? = some (q.length : Int) := drop_get (j := 2) hl rfl
        have g2 := e1.trans e2
        refine s_aug rfl (ev_op (ev_var rfl) (ev_add (n := 2) (ev_var rfl) ev_c) (rv_ixL (ex_l g2 hp) (atI_nat (vI_get h2)))) fun H3 e3 => ⟨g2.trans e3, ?_⟩
        rw [flat_sees]
        show [_, _, some (V.int ((3 : Int) + (q.length : Int)))] = _
        rw [show (3 : Int) + (q.length : Int) = ((3 + q.length : Nat) : Int) by omega]
      · have h1 : code x ≠ 1 := fun e => of_decide_eq_false hc (by rw [e]; rfl)
        refine ⟨e1.trans e2, ?_⟩
        rw [flat_len x h1]
        rfl
    · rintro σ' H2 ⟨g2, rfl⟩
      exact s_ret (ev_var rfl) fun H3 e3 => k H3 (g2.trans e3)

/-! ### ask -/
def spAsk (a : Adr) : Sp := fun vs H Q _ => ∃ (n c : Addr) (s : Sy69.St) (x : Sy69.Call), vs = [.ref n, .ref c] ∧ Wf s ∧ fine x ∧ code x ≠ 0 ∧ BnAt a s H n ∧ H c = some (.lst (vI (flat x))) ∧ RetB a s x n H Q
theorem retB_mono {s : Sy69.St} {x : Sy69.Call} {n : Addr} {H H' : Hp} {Q : VK} (k : RetB a s x n H Q) (g : Ex H H') : RetB a s x n H' Q := fun p H2 np e hp hb => k p H2 (fresh_back g np) ((Exc.of g).trans e) hp hb
theorem retA_of {s : Sy69.St} {x : Sy69.Call} {n : Addr} {H H' : Hp} {Q : VK} (hB : BnAt a s H n) (hs : (Sy69.step s x).1 = s) (k : RetB a s x n H Q) (g : Ex H H') : RetA s x H' Q := fun p H2 np e hp => k p H2 (fresh_back g np) (Exc.of (g.trans e)) hp (by rw [hs]; exact hB.mono (g.trans e))
theorem ok_ask {f : Addr} {fd : FuncData} (F : Fun K "ask" "ask" st_ask f fd) (T : Txt K mg a) (c_Bench_sees : MethC P w K mg base a.N "sees" 6 ["self", "seconds", "lit"] (spSees a)) (c_Bench_undo : MethC P w K mg base a.N "undo" 6 ["self"] (spUndo a)) (c_Bench_may : MethC P w K mg base a.N "may" 2 ["self", "k"] (spMay a))
    (c_Bench_likely : MethC P w K mg base a.N "likely" 5 ["self", "k"] (spBLikely a)) (c_Bench_guess : MethC P w K mg base a.N "guess" 3 ["self", "number"] (spGuess a)) (c_Bench_stroke : MethC P w K mg base a.N "stroke" 2 ["self", "place", "stroke"] (spStroke a)) (c_Bench_sure : MethC P w K mg base a.N "sure" 3 ["self"] (spSure a))
    (c_Bench_show_next : MethC P w K mg base a.N "show_next" 3 ["self", "seconds"] (spNext a)) (c_Bench_apart : MethC P w K mg base a.N "apart" 4 ["self", "number", "other", "seconds"] (spApart a)) (c_Bench_shown : MethC P w K mg base a.N "shown" 2 ["self", "number", "seconds"] (spShown a)) (c_Bench_state : MethC P w K mg base a.N "state" 2 ["self"] (spState a)) :
    FnOk P w K mg base CX0 7 f fd ["bench", "call"] (spAsk a) := by
  refine F.ok sc_ask (fun vs H Q E h => ?_) (fun cdv A outer s H vs Q E hr h => ?_)
  · obtain ⟨n, c, s, x, rfl, _⟩ := h
    rfl
  · obtain ⟨n, c, st, x, rfl, W, hf, hx, hB, hc, k⟩ := h
    refine ⟨_, (pss_cons (ps_set (i := 2) sc_ask.nd rfl (Or.inl rfl) (pe_ix (ix_listK K rfl) (pv 1) (pe_int) (fun _ _ => rfl)))
      (pss_cons (ps_if (pt_cmpR op_eq (pv 2) (pe_gi (by rfl) T.g_SEES) (nomark _)) (pss_one (ps_ret (pe_mtc (pv 0) T.clN c_Bench_sees hr (pa_cons (pe_ix (ix_listK K rfl) (pv 1) (pe_int) (fun _ _ => rfl)) (pa_cons (pe_slice sl_list (pv 1) (po_some (pe_int)) po_none) pa_nil))))) pss_nil)
      (pss_cons (ps_if (pt_cmpR op_eq (pv 2) (pe_gi (by rfl) T.g_UNDO) (nomark _)) (pss_one (ps_ret (pe_mtc0 (pv 0) T.clN c_Bench_undo hr))) pss_nil)
      (pss_cons (ps_if (pt_cmpR op_eq (pv 2) (pe_gi (by rfl) T.g_MAY) (nomark _)) (pss_one (ps_ret (pe_mtc (pv 0) T.clN c_Bench_may (hr.mono (by decide)) (pa_cons (pe_ix (ix_listK K rfl) (pv 1) (pe_int) (fun _ _ => rfl)) pa_nil)))) pss_nil)
      (pss_cons (ps_if (pt_cmpR op_eq (pv 2) (pe_gi (by rfl) T.g_LIKELY) (nomark _)) (pss_one (ps_ret (pe_mtc (pv 0) T.clN c_Bench_likely (hr.mono (by decide)) (pa_cons (pe_ix (ix_listK K rfl) (pv 1) (pe_int) (fun _ _ => rfl)) pa_nil)))) pss_nil)
      (pss_cons (ps_if (pt_cmpR op_eq (pv 2) (pe_gi (by rfl) T.g_GUESS) (nomark _)) (pss_one (ps_ret (pe_mtc (pv 0) T.clN c_Bench_guess (hr.mono (by decide)) (pa_cons (pe_ix (ix_listK K rfl) (pv 1) (pe_int) (fun _ _ => rfl)) pa_nil)))) pss_nil)
      (pss_cons (ps_if (pt_cmpR op_eq (pv 2) (pe_gi (by rfl) T.g_STROKE) (nomark _)) (pss_one (ps_ret (pe_mtc (pv 0) T.clN c_Bench_stroke (hr.mono (by decide)) (pa_cons (pe_ix (ix_listK K rfl) (pv 1) (pe_int) (fun _ _ => rfl)) (pa_cons (pe_ix (ix_listK K rfl) (pv 1) (pe_int) (fun _ _ => rfl)) pa_nil))))) pss_nil)
      (pss_cons (ps_if (pt_cmpR op_eq (pv 2) (pe_gi (by rfl) T.g_SURE) (nomark _)) (pss_one (ps_ret (pe_mtc0 (pv 0) T.clN c_Bench_sure (hr.mono (by decide))))) pss_nil)
      (pss_cons (ps_if (pt_cmpR op_eq (pv 2) (pe_gi (by rfl) T.g_NEXT) (nomark _)) (pss_one (ps_ret (pe_mtc (pv 0) T.clN c_Bench_show_next (hr.mono (by decide)) (pa_cons (pe_ix (ix_listK K rfl) (pv 1) (pe_int) (fun _ _ => rfl)) pa_nil)))) pss_nil)
      (pss_cons (ps_if (pt_cmpR op_eq (pv 2) (pe_gi (by rfl) T.g_APART) (nomark _)) (pss_one (ps_ret (pe_mtc (pv 0) T.clN c_Bench_apart (hr.mono (by decide)) (pa_cons (pe_ix (ix_listK K rfl) (pv 1) (pe_int) (fun _ _ => rfl)) (pa_cons (pe_ix (ix_listK K rfl) (pv 1) (pe_int) (fun _ _ => rfl)) (pa_cons (pe_ix (ix_listK K rfl) (pv 1) (pe_int) (fun _ _ => rfl)) pa_nil)))))) pss_nil)
      (pss_cons (ps_if (pt_cmpR op_eq (pv 2) (pe_gi (by rfl) T.g_SHOWN) (nomark _)) (pss_one (ps_ret (pe_mtc (pv 0) T.clN c_Bench_shown (hr.mono (by decide)) (pa_cons (pe_ix (ix_listK K rfl) (pv 1) (pe_int) (fun _ _ => rfl)) (pa_cons (pe_ix (ix_listK K rfl) (pv 1) (pe_int) (fun _ _ => rfl)) pa_nil))))) pss_nil)
      (pss_one (ps_ret (pe_mtc0 (pv 0) T.clN c_Bench_state (hr.mono (by decide)))))))))))))))), ?_⟩
    refine q_asg (ev_op (ev_var rfl) ev_c (rv_ixL (v := .int (code x : Int)) (sq_of hc) (atI_nat (j := 0) (vI_get (by have := flat_head x []; rw [List.append_nil] at this; exact this))))) fun H1 e1 => ?_
    cases x with
    | begins m => exact absurd rfl hx
    | sees d r =>
      refine q_when (b := true) (et_is (et_test (ev_op (ev_var rfl) ev_c (rv_eq rfl))) (t_yes _ 1 rfl)) (fun _ H2 f2 => ?_) (fun hc => by cases hc)
      have g2 := e1.trans f2
      have hB' := hB.mono g2
      obtain ⟨dx, ls, le, h1, h2, h3⟩ := hB'
      have hB' : BnAt a st _ n := ⟨dx, ls, le, h1, h2, h3⟩
      exact s_retM (PA := fun vs H' => ∃ q, vs = [.int (d : Int), .ref q] ∧ H' q = some (.lst (vN r))) (ev_var rfl) h1 noN_sees (fun H3 e3 Q3 k3 => ev_op (ev_var rfl) ev_c (rv_ixL (sq_of (g2 _ _ hc)) (atI_nat (j := 1) rfl)) H3 e3 _ fun H4 e4 => (el_is (el_sl (ev_var rfl) (eo_some ev_c) eo_none (sq_of (g2 _ _ hc))) (cut_sees d r)) H4 (e3.trans e4) _ fun q H5 nq e5 hq => k3 _ H5 (e4.trans e5) ⟨q, rfl, hq⟩)
        (fun vs H3 e3 ⟨q, hv, hq⟩ E3 => by subst hv; exact ⟨n, q, st, d, r, rfl, W, hB'.mono e3, hq, hf, retB_mono k (g2.trans e3)⟩)
    | undo =>
      refine q_when (b := false) (et_is (et_test (ev_op (ev_var rfl) ev_c (rv_eq rfl))) (t_no _ 1 (by simp [code]))) (fun hc => by cases hc) (fun _ H2 f2 => ?_)
      have g2 := e1.trans f2
      refine q_when (b := true) (et_is (et_test (ev_op (ev_var rfl) ev_c (rv_eq rfl))) (t_yes _ 2 rfl)) (fun _ H3 f3 => ?_) (fun hc => by cases hc)
      have g3 := g2.trans f3
      have hB' := hB.mono g3
      obtain ⟨dx, ls, le, h1, h2, h3⟩ := hB'
      have hB' : BnAt a st _ n := ⟨dx, ls, le, h1, h2, h3⟩
      exact s_retM (PA := fun vs _ => vs = []) (ev_var rfl) h1 noN_undo (fun H3 e3 Q3 k3 => k3 [] H3 (Ex.refl H3) rfl) (fun vs H3 e3 hv E3 => by subst hv; exact ⟨n, st, rfl, W, hB'.mono e3, retB_mono k (g3.trans e3)⟩)
    | may i =>
      refine q_when (b := false) (et_is (et_test (ev_op (ev_var rfl) ev_c (rv_eq rfl))) (t_no _ 1 (by simp [code]))) (fun hc => by cases hc) (fun _ H2 f2 => ?_)
      have g2 := e1.trans f2
      refine q_when (b := false) (et_is (et_test (ev_op (ev_var rfl) ev_c (rv_eq rfl))) (t_no _ 2 (by simp [code]))) (fun hc => by cases hc) (fun _ H3 f3 => ?_)
      have g3 := g2.trans f3
      refine q_when (b := true) (et_is (et_test (ev_op (ev_var rfl) ev_c (rv_eq rfl))) (t_yes _ 3 rfl)) (fun _ H4 f4 => ?_) (fun hc => by cases hc)
      have g4 := g3.trans f4
      have hB' := hB.mono g4
      obtain ⟨dx, ls, le, h1, h2, h3⟩ := hB'
      have hB' : BnAt a st _ n := ⟨dx, ls, le, h1, h2, h3⟩
      exact s_retM (PA := fun vs _ => vs = [.int (i : Int)]) (ev_var rfl) h1 noN_may (fun H3 e3 Q3 k3 => (show EvA _ _ _ [.int (i : Int)] from (ea_cons (ev_op (ev_var rfl) ev_c (rv_ixL (sq_of (g4 _ _ hc)) (atI_nat (j := 1) rfl))) ea_nil)) H3 e3 _ fun H4 e4 => k3 _ H4 e4 rfl) (fun vs H3 e3 hv E3 => by subst hv; exact ⟨n, st, i, rfl, W, hB'.mono e3, retA_of hB rfl k (g4.trans e3)⟩)
    | likely i =>
      refine q_when (b := false) (et_is (et_test (ev_op (ev_var rfl) ev_c (rv_eq rfl))) (t_no _ 1 (by simp [code]))) (fun hc => by cases hc) (fun _ H2 f2 => ?_)
      have g2 := e1.trans f2
      refine q_when (b := false) (et_is (et_test (ev_op (ev_var rfl) ev_c (rv_eq rfl))) (t_no _ 2 (by simp [code]))) (fun hc => by cases hc) (fun _ H3 f3 => ?_)
      have g3 := g2.trans f3
      refine q_when (b := false) (et_is (et_test (ev_op (ev_var rfl) ev_c (rv_eq rfl))) (t_no _ 3 (by simp [code]))) (fun hc => by cases hc) (fun _ H4 f4 => ?_)
      have g4 := g3.trans f4
      refine q_when (b := true) (et_is (et_test (ev_op (ev_var rfl) ev_c (rv_eq rfl))) (t_yes _ 4 rfl)) (fun _ H5 f5 => ?_) (fun hc => by cases hc)
      have g5 := g4.trans f5
      have hB' := hB.mono g5
      obtain ⟨dx, ls, le, h1, h2, h3⟩ := hB'
      have hB' : BnAt a st _ n := ⟨dx, ls, le, h1, h2, h3⟩
      exact s_retM (PA := fun vs _ => vs = [.int (i : Int)]) (ev_var rfl) h1 noN_likely (fun H3 e3 Q3 k3 => (show EvA _ _ _ [.int (i : Int)] from (ea_cons (ev_op (ev_var rfl) ev_c (rv_ixL (sq_of (g5 _ _ hc)) (atI_nat (j := 1) rfl))) ea_nil)) H3 e3 _ fun H4 e4 => k3 _ H4 e4 rfl) (fun vs H3 e3 hv E3 => by subst hv; exact ⟨n, st, i, rfl, W, hB'.mono e3, retA_of hB rfl k (g5.trans e3)⟩)
    | guess x =>
      refine q_when (b := false) (et_is (et_test (ev_op (ev_var rfl) ev_c (rv_eq rfl))) (t_no _ 1 (by simp [code]))) (fun hc => by cases hc) (fun _ H2 f2 => ?_)
      have g2 := e1.trans f2
      refine q_when (b := false) (et_is (et_test (ev_op (ev_var rfl) ev_c (rv_eq rfl))) (t_no _ 2 (by simp [code]))) (fun hc => by cases hc) (fun _ H3 f3 => ?_)
      have g3 := g2.trans f3
      refine q_when (b := false) (et_is (et_test (ev_op (ev_var rfl) ev_c (rv_eq rfl))) (t_no _ 3 (by simp [code]))) (fun hc => by cases hc) (fun _ H4 f4 => ?_)
      have g4 := g3.trans f4
      refine q_when (b := false) (et_is (et_test (ev_op (ev_var rfl) ev_c (rv_eq rfl))) (t_no _ 4 (by simp [code]))) (fun hc => by cases hc) (fun _ H5 f5 => ?_)
      have g5 := g4.trans f5
      refine q_when (b := true) (et_is (et_test (ev_op (ev_var rfl) ev_c (rv_eq rfl))) (t_yes _ 5 rfl)) (fun _ H6 f6 => ?_) (fun hc => by cases hc)
      have g6 := g5.trans f6
      have hB' := hB.mono g6
      obtain ⟨dx, ls, le, h1, h2, h3⟩ := hB'
      have hB' : BnAt a st _ n := ⟨dx, ls, le, h1, h2, h3⟩
      exact s_retM (PA := fun vs _ => vs = [.int (x : Int)]) (ev_var rfl) h1 noN_guess (fun H3 e3 Q3 k3 => (show EvA _ _ _ [.int (x : Int)] from (ea_cons (ev_op (ev_var rfl) ev_c (rv_ixL (sq_of (g6 _ _ hc)) (atI_nat (j := 1) rfl))) ea_nil)) H3 e3 _ fun H4 e4 => k3 _ H4 e4 rfl) (fun vs H3 e3 hv E3 => by subst hv; exact ⟨n, st, x, rfl, W, hB'.mono e3, retA_of hB rfl k (g6.trans e3)⟩)
    | stroke p i =>
      refine q_when (b := false) (et_is (et_test (ev_op (ev_var rfl) ev_c (rv_eq rfl))) (t_no _ 1 (by simp [code]))) (fun hc => by cases hc) (fun _ H2 f2 => ?_)
      have g2 := e1.trans f2
      refine q_when (b := false) (et_is (et_test (ev_op (ev_var rfl) ev_c (rv_eq rfl))) (t_no _ 2 (by simp [code]))) (fun hc => by cases hc) (fun _ H3 f3 => ?_)
      have g3 := g2.trans f3
      refine q_when (b := false) (et_is (et_test (ev_op (ev_var rfl) ev_c (rv_eq rfl))) (t_no _ 3 (by simp [code]))) (fun hc => by cases hc) (fun _ H4 f4 => ?_)
      have g4 := g3.trans f4
      refine q_when (b := false) (et_is (et_test (ev_op (ev_var rfl) ev_c (rv_eq rfl))) (t_no _ 4 (by simp [code]))) (fun hc => by cases hc) (fun _ H5 f5 => ?_)
      have g5 := g4.trans f5
      refine q_when (b := false) (et_is (et_test (ev_op (ev_var rfl) ev_c (rv_eq rfl))) (t_no _ 5 (by simp [code]))) (fun hc => by cases hc) (fun _ H6 f6 => ?_)
      have g6 := g5.trans f6
      refine q_when (b := true) (et_is (et_test (ev_op (ev_var rfl) ev_c (rv_eq rfl))) (t_yes _ 6 rfl)) (fun _ H7 f7 => ?_) (fun hc => by cases hc)
      have g7 := g6.trans f7
      have hB' := hB.mono g7
      obtain ⟨dx, ls, le, h1, h2, h3⟩ := hB'
      have hB' : BnAt a st _ n := ⟨dx, ls, le, h1, h2, h3⟩
      exact s_retM (PA := fun vs _ => vs = [.int (p : Int), .int (i : Int)]) (ev_var rfl) h1 noN_stroke (fun H3 e3 Q3 k3 => (show EvA _ _ _ [.int (p : Int), .int (i : Int)] from (ea_cons (ev_op (ev_var rfl) ev_c (rv_ixL (sq_of (g7 _ _ hc)) (atI_nat (j := 1) rfl))) (ea_cons (ev_op (ev_var rfl) ev_c (rv_ixL (sq_of (g7 _ _ hc)) (atI_nat (j := 2) rfl))) ea_nil))) H3 e3 _ fun H4 e4 => k3 _ H4 e4 rfl) (fun vs H3 e3 hv E3 => by subst hv; exact ⟨n, st, p, i, rfl, W, hB'.mono e3, retA_of hB rfl k (g7.trans e3)⟩)
    | sure =>
      refine q_when (b := false) (et_is (et_test (ev_op (ev_var rfl) ev_c (rv_eq rfl))) (t_no _ 1 (by simp [code]))) (fun hc => by cases hc) (fun _ H2 f2 => ?_)
      have g2 := e1.trans f2
      refine q_when (b := false) (et_is (et_test (ev_op (ev_var rfl) ev_c (rv_eq rfl))) (t_no _ 2 (by simp [code]))) (fun hc => by cases hc) (fun _ H3 f3 => ?_)
      have g3 := g2.trans f3
      refine q_when (b := false) (et_is (et_test (ev_op (ev_var rfl) ev_c (rv_eq rfl))) (t_no _ 3 (by simp [code]))) (fun hc => by cases hc) (fun _ H4 f4 => ?_)
      have g4 := g3.trans f4
      refine q_when (b := false) (et_is (et_test (ev_op (ev_var rfl) ev_c (rv_eq rfl))) (t_no _ 4 (by simp [code]))) (fun hc => by cases hc) (fun _ H5 f5 => ?_)
      have g5 := g4.trans f5
      refine q_when (b := false) (et_is (et_test (ev_op (ev_var rfl) ev_c (rv_eq rfl))) (t_no _ 5 (by simp [code]))) (fun hc => by cases hc) (fun _ H6 f6 => ?_)
      have g6 := g5.trans f6
      refine q_when (b := false) (et_is (et_test (ev_op (ev_var rfl) ev_c (rv_eq rfl))) (t_no _ 6 (by simp [code]))) (fun hc => by cases hc) (fun _ H7 f7 => ?_)
      have g7 := g6.trans f7
      refine q_when (b := true) (et_is (et_test (ev_op (ev_var rfl) ev_c (rv_eq rfl))) (t_yes _ 7 rfl)) (fun _ H8 f8 => ?_) (fun hc => by cases hc)
      have g8 := g7.trans f8
      have hB' := hB.mono g8
      obtain ⟨dx, ls, le, h1, h2, h3⟩ := hB'
      have hB' : BnAt a st _ n := ⟨dx, ls, le, h1, h2, h3⟩
      exact s_retM (PA := fun vs _ => vs = []) (ev_var rfl) h1 noN_sure (fun H3 e3 Q3 k3 => (show EvA _ _ _ [] from ea_nil) H3 e3 _ fun H4 e4 => k3 _ H4 e4 rfl) (fun vs H3 e3 hv E3 => by subst hv; exact ⟨n, st, rfl, W, hB'.mono e3, retA_of hB rfl k (g8.trans e3)⟩)
    | next d =>
      refine q_when (b := false) (et_is (et_test (ev_op (ev_var rfl) ev_c (rv_eq rfl))) (t_no _ 1 (by simp [code]))) (fun hc => by cases hc) (fun _ H2 f2 => ?_)
      have g2 := e1.trans f2
      refine q_when (b := false) (et_is (et_test (ev_op (ev_var rfl) ev_c (rv_eq rfl))) (t_no _ 2 (by simp [code]))) (fun hc => by cases hc) (fun _ H3 f3 => ?_)
      have g3 := g2.trans f3
      refine q_when (b := false) (et_is (et_test (ev_op (ev_var rfl) ev_c (rv_eq rfl))) (t_no _ 3 (by simp [code]))) (fun hc => by cases hc) (fun _ H4 f4 => ?_)
      have g4 := g3.trans f4
      refine q_when (b := false) (et_is (et_test (ev_op (ev_var rfl) ev_c (rv_eq rfl))) (t_no _ 4 (by simp [code]))) (fun hc => by cases hc) (fun _ H5 f5 => ?_)
      have g5 := g4.trans f5
      refine q_when (b := false) (et_is (et_test (ev_op (ev_var rfl) ev_c (rv_eq rfl))) (t_no _ 5 (by simp [code]))) (fun hc => by cases hc) (fun _ H6 f6 => ?_)
      have g6 := g5.trans f6
      refine q_when (b := false) (et_is (et_test (ev_op (ev_var rfl) ev_c (rv_eq rfl))) (t_no _ 6 (by simp [code]))) (fun hc => by cases hc) (fun _ H7 f7 => ?_)
      have g7 := g6.trans f7
      refine q_when (b := false) (et_is (et_test (ev_op (ev_var rfl) ev_c (rv_eq rfl))) (t_no _ 7 (by simp [code]))) (fun hc => by cases hc) (fun _ H8 f8 => ?_)
      have g8 := g7.trans f8
      refine q_when (b := true) (et_is (et_test (ev_op (ev_var rfl) ev_c (rv_eq rfl))) (t_yes _ 8 rfl)) (fun _ H9 f9 => ?_) (fun hc => by cases hc)
      have g9 := g8.trans f9
      have hB' := hB.mono g9
      obtain ⟨dx, ls, le, h1, h2, h3⟩ := hB'
      have hB' : BnAt a st _ n := ⟨dx, ls, le, h1, h2, h3⟩
      exact s_retM (PA := fun vs _ => vs = [.int (d : Int)]) (ev_var rfl) h1 noN_show_next (fun H3 e3 Q3 k3 => (show EvA _ _ _ [.int (d : Int)] from (ea_cons (ev_op (ev_var rfl) ev_c (rv_ixL (sq_of (g9 _ _ hc)) (atI_nat (j := 1) rfl))) ea_nil)) H3 e3 _ fun H4 e4 => k3 _ H4 e4 rfl) (fun vs H3 e3 hv E3 => by subst hv; exact ⟨n, st, d, rfl, W, hB'.mono e3, retA_of hB rfl k (g9.trans e3)⟩)
    | apart x y d =>
      refine q_when (b := false) (et_is (et_test (ev_op (ev_var rfl) ev_c (rv_eq rfl))) (t_no _ 1 (by simp [code]))) (fun hc => by cases hc) (fun _ H2 f2 => ?_)
      have g2 := e1.trans f2
      refine q_when (b := false) (et_is (et_test (ev_op (ev_var rfl) ev_c (rv_eq rfl))) (t_no _ 2 (by simp [code]))) (fun hc => by cases hc) (fun _ H3 f3 => ?_)
      have g3 := g2.trans f3
      refine q_when (b := false) (et_is (et_test (ev_op (ev_var rfl) ev_c (rv_eq rfl))) (t_no _ 3 (by simp [code]))) (fun hc => by cases hc) (fun _ H4 f4 => ?_)
      have g4 := g3.trans f4
      refine q_when (b := false) (et_is (et_test (ev_op (ev_var rfl) ev_c (rv_eq rfl))) (t_no _ 4 (by simp [code]))) (fun hc => by cases hc) (fun _ H5 f5 => ?_)
      have g5 := g4.trans f5
      refine q_when (b := false) (et_is (et_test (ev_op (ev_var rfl) ev_c (rv_eq rfl))) (t_no _ 5 (by simp [code]))) (fun hc => by cases hc) (fun _ H6 f6 => ?_)
      have g6 := g5.trans f6
      refine q_when (b := false) (et_is (et_test (ev_op (ev_var rfl) ev_c (rv_eq rfl))) (t_no _ 6 (by simp [code]))) (fun hc => by cases hc) (fun _ H7 f7 => ?_)
      have g7 := g6.trans f7
      refine q_when (b := false) (et_is (et_test (ev_op (ev_var rfl) ev_c (rv_eq rfl))) (t_no _ 7 (by simp [code]))) (fun hc => by cases hc) (fun _ H8 f8 => ?_)
      have g8 := g7.trans f8
      refine q_when (b := false) (et_is (et_test (ev_op (ev_var rfl) ev_c (rv_eq rfl))) (t_no _ 8 (by simp [code]))) (fun hc => by cases hc) (fun _ H9 f9 => ?_)
      have g9 := g8.trans f9
      refine q_when (b := true) (et_is (et_test (ev_op (ev_var rfl) ev_c (rv_eq rfl))) (t_yes _ 9 rfl)) (fun _ H10 f10 => ?_) (fun hc => by cases hc)
      have g10 := g9.trans f10
      have hB' := hB.mono g10
      obtain ⟨dx, ls, le, h1, h2, h3⟩ := hB'
      have hB' : BnAt a st _ n := ⟨dx, ls, le, h1, h2, h3⟩
      exact s_retM (PA := fun vs _ => vs = [.int (x : Int), .int (y : Int), .int (d : Int)]) (ev_var rfl) h1 noN_apart (fun H3 e3 Q3 k3 => (show EvA _ _ _ [.int (x : Int), .int (y : Int), .int (d : Int)] from (ea_cons (ev_op (ev_var rfl) ev_c (rv_ixL (sq_of (g10 _ _ hc)) (atI_nat (j := 1) rfl))) (ea_cons (ev_op (ev_var rfl) ev_c (rv_ixL (sq_of (g10 _ _ hc)) (atI_nat (j := 2) rfl))) (ea_cons (ev_op (ev_var rfl) ev_c (rv_ixL (sq_of (g10 _ _ hc)) (atI_nat (j := 3) rfl))) ea_nil)))) H3 e3 _ fun H4 e4 => k3 _ H4 e4 rfl) (fun vs H3 e3 hv E3 => by subst hv; exact ⟨n, st, x, y, d, rfl, W, hB'.mono e3, retA_of hB rfl k (g10.trans e3)⟩)
    | shown x d =>
      refine q_when (b := false) (et_is (et_test (ev_op (ev_var rfl) ev_c (rv_eq rfl))) (t_no _ 1 (by simp [code]))) (fun hc => by cases hc) (fun _ H2 f2 => ?_)
      have g2 := e1.trans f2
      refine q_when (b := false) (et_is (et_test (ev_op (ev_var rfl) ev_c (rv_eq rfl))) (t_no _ 2 (by simp [code]))) (fun hc => by cases hc) (fun _ H3 f3 => ?_)
      have g3 := g2.trans f3
      refine q_when (b := false) (et_is (et_test (ev_op (ev_var rfl) ev_c (rv_eq rfl))) (t_no _ 3 (by simp [code]))) (fun hc => by cases hc) (fun _ H4 f4 => ?_)
      have g4 := g3.trans f4
      refine q_when (b := false) (et_is (et_test (ev_op (ev_var rfl) ev_c (rv_eq rfl))) (t_no _ 4 (by simp [code]))) (fun hc => by cases hc) (fun _ H5 f5 => ?_)
      have g5 := g4.trans f5
      refine q_when (b := false) (et_is (et_test (ev_op (ev_var rfl) ev_c (rv_eq rfl))) (t_no _ 5 (by simp [code]))) (fun hc => by cases hc) (fun _ H6 f6 => ?_)
      have g6 := g5.trans f6
      refine q_when (b := false) (et_is (et_test (ev_op (ev_var rfl) ev_c (rv_eq rfl))) (t_no _ 6 (by simp [code]))) (fun hc => by cases hc) (fun _ H7 f7 => ?_)
      have g7 := g6.trans f7
      refine q_when (b := false) (et_is (et_test (ev_op (ev_var rfl) ev_c (rv_eq rfl))) (t_no _ 7 (by simp [code]))) (fun hc => by cases hc) (fun _ H8 f8 => ?_)
      have g8 := g7.trans f8
      refine q_when (b := false) (et_is (et_test (ev_op (ev_var rfl) ev_c (rv_eq rfl))) (t_no _ 8 (by simp [code]))) (fun hc => by cases hc) (fun _ H9 f9 => ?_)
      have g9 := g8.trans f9
      refine q_when (b := false) (et_is (et_test (ev_op (ev_var rfl) ev_c (rv_eq rfl))) (t_no _ 9 (by simp [code]))) (fun hc => by cases hc) (fun _ H10 f10 => ?_)
      have g10 := g9.trans f10
      refine q_when (b := true) (et_is (et_test (ev_op (ev_var rfl) ev_c (rv_eq rfl))) (t_yes _ 10 rfl)) (fun _ H11 f11 => ?_) (fun hc => by cases hc)
      have g11 := g10.trans f11
      have hB' := hB.mono g11
      obtain ⟨dx, ls, le, h1, h2, h3⟩ := hB'
      have hB' : BnAt a st _ n := ⟨dx, ls, le, h1, h2, h3⟩
      exact s_retM (PA := fun vs _ => vs = [.int (x : Int), .int (d : Int)]) (ev_var rfl) h1 noN_shown (fun H3 e3 Q3 k3 => (show EvA _ _ _ [.int (x : Int), .int (d : Int)] from (ea_cons (ev_op (ev_var rfl) ev_c (rv_ixL (sq_of (g11 _ _ hc)) (atI_nat (j := 1) rfl))) (ea_cons (ev_op (ev_var rfl) ev_c (rv_ixL (sq_of (g11 _ _ hc)) (atI_nat (j := 2) rfl))) ea_nil))) H3 e3 _ fun H4 e4 => k3 _ H4 e4 rfl) (fun vs H3 e3 hv E3 => by subst hv; exact ⟨n, st, x, d, rfl, W, hB'.mono e3, retA_of hB rfl k (g11.trans e3)⟩)
    | state =>
      refine q_when (b := false) (et_is (et_test (ev_op (ev_var rfl) ev_c (rv_eq rfl))) (t_no _ 1 (by simp [code]))) (fun hc => by cases hc) (fun _ H2 f2 => ?_)
      have g2 := e1.trans f2
      refine q_when (b := false) (et_is (et_test (ev_op (ev_var rfl) ev_c (rv_eq rfl))) (t_no _ 2 (by simp [code]))) (fun hc => by cases hc) (fun _ H3 f3 => ?_)
      have g3 := g2.trans f3
      refine q_when (b := false) (et_is (et_test (ev_op (ev_var rfl) ev_c (rv_eq rfl))) (t_no _ 3 (by simp [code]))) (fun hc => by cases hc) (fun _ H4 f4 => ?_)
      have g4 := g3.trans f4
      refine q_when (b := false) (et_is (et_test (ev_op (ev_var rfl) ev_c (rv_eq rfl))) (t_no _ 4 (by simp [code]))) (fun hc => by cases hc) (fun _ H5 f5 => ?_)
      have g5 := g4.trans f5
      refine q_when (b := false) (et_is (et_test (ev_op (ev_var rfl) ev_c (rv_eq rfl))) (t_no _ 5 (by simp [code]))) (fun hc => by cases hc) (fun _ H6 f6 => ?_)
      have g6 := g5.trans f6
      refine q_when (b := false) (et_is (et_test (ev_op (ev_var rfl) ev_c (rv_eq rfl))) (t_no _ 6 (by simp [code]))) (fun hc => by cases hc) (fun _ H7 f7 => ?_)
      have g7 := g6.trans f7
      refine q_when (b := false) (et_is (et_test (ev_op (ev_var rfl) ev_c (rv_eq rfl))) (t_no _ 7 (by simp [code]))) (fun hc => by cases hc) (fun _ H8 f8 => ?_)
      have g8 := g7.trans f8
      refine q_when (b := false) (et_is (et_test (ev_op (ev_var rfl) ev_c (rv_eq rfl))) (t_no _ 8 (by simp [code]))) (fun hc => by cases hc) (fun _ H9 f9 => ?_)
      have g9 := g8.trans f9
      refine q_when (b := false) (et_is (et_test (ev_op (ev_var rfl) ev_c (rv_eq rfl))) (t_no _ 9 (by simp [code]))) (fun hc => by cases hc) (fun _ H10 f10 => ?_)
      have g10 := g9.trans f10
      refine q_when (b := false) (et_is (et_test (ev_op (ev_var rfl) ev_c (rv_eq rfl))) (t_no _ 10 (by simp [code]))) (fun hc => by cases hc) (fun _ H11 f11 => ?_)
      have g11 := g10.trans f11
      have hB' := hB.mono g11
      obtain ⟨dx, ls, le, h1, h2, h3⟩ := hB'
      have hB' : BnAt a st _ n := ⟨dx, ls, le, h1, h2, h3⟩
      exact s_retM (PA := fun vs _ => vs = []) (ev_var rfl) h1 noN_state (fun H3 e3 Q3 k3 => (show EvA _ _ _ [] from ea_nil) H3 e3 _ fun H4 e4 => k3 _ H4 e4 rfl) (fun vs H3 e3 hv E3 => by subst hv; exact ⟨n, st, rfl, W, hB'.mono e3, retA_of hB rfl k (g11.trans e3)⟩)

/-! ### answers -/
def spAnswers (K : PySem.W.Frag) : Sp := fun vs H Q _ => ∃ (c : Addr) (l : List Int), vs = [.ref c] ∧ SqL K H c (vI l) ∧ PySy69.answers_asked l = true ∧ ∀ (H' : Hp) (p : Addr), H' p = some (.lst (vI (PySy69.answers l))) → Q (.ref p) H'
theorem tell_cons (s : Sy69.St) (x : Sy69.Call) (r : List Sy69.Call) : tell s (x :: r) = told (ans s x) ++ tell (Sy69.step s x).1 r := rfl
theorem flats_nil {ys : List Sy69.Call} (h : ((ys.map flat).flatten).length = 0) : ys = [] := by
  cases ys with
  | nil => rfl
  | cons y r =>
    have := flat_pos y
    rw [List.map_cons, List.flatten_cons, List.length_append] at h
    omega
/-- an object hidden -/
def hid (H : Hp) (t : Addr) : Hp := fun b => if b = t then none else H b
theorem hid_same {H : Hp} {t : Addr} : hid H t t = none := if_pos rfl
theorem hid_ne {H : Hp} {t b : Addr} (h : b ≠ t) : hid H t b = H b := if_neg h
theorem hid_some {H : Hp} {t b : Addr} {o : HO} (h : hid H t b = some o) : b ≠ t ∧ H b = some o := by
  by_cases e : b = t
  · rw [e, hid_same] at h
    cases h
  · rw [hid_ne e] at h
    exact ⟨e, h⟩
theorem hid_le {H : Hp} {t : Addr} : Ex (hid H t) H := fun b o h => (hid_some h).2
theorem hid_ex {H H' : Hp} {t : Addr} (g : Ex H H') : Ex (hid H t) (hid H' t) := fun b o h => by
  obtain ⟨e, h⟩ := hid_some h
  rw [hid_ne e]
  exact g b o h
theorem hid_upd {H : Hp} {t : Addr} {o : HO} : hid (upd H t o) t = hid H t := by
  funext b
  by_cases e : b = t
  · rw [e, hid_same, hid_same]
  · rw [hid_ne e, hid_ne e, upd_ne e]
theorem hid_of {H : Hp} {t : Addr} (h : H t = none) : hid H t = H := by
  funext b
  by_cases e : b = t
  · rw [e, hid_same, h]
  · rw [hid_ne e]
/-- a promise, or the same beside a list that it doesn't speak of -/
def frm (sp : Sp) : Sp := fun vs H Q E => sp vs H Q E ∨ ∃ (t : Addr) (xs : List V), H t = some (.lst xs) ∧ sp vs (hid H t) (fun v H' => H' t = none → Q v (upd H' t (.lst xs))) E
theorem frame {f : Addr} {fd : FuncData} {k : Nat} {ps : List Str} {sp : Sp} (F : FnOk P w K mg base CX0 k f fd ps sp) : FnOk P w K mg base CX0 k f fd ps (frm sp) := by
  refine ⟨fun vs H Q E h => ?_, fun A outer s H args us vs Q E hr e0 hb r h => ?_⟩
  · rcases h with h | ⟨t, xs, _, h⟩
    · exact F.len _ _ _ _ h
    · exact F.len _ _ _ _ h
  · rcases h with h | ⟨t, xs, ht, h⟩
    · exact F.run A outer s H args us vs Q E hr e0 hb r h
    have hn : ∀ {b : Addr}, H b = none → hid H t b = none := fun {b} h => by
      by_cases e : b = t
      · rw [e]
        exact hid_same
      · rw [hid_ne e]
        exact h
    have htO : ObjOk P w H s.heap t (.lst xs) := e0.hok t _ ht
    obtain ⟨hz, its, m, hv, hg⟩ := htO
    have e1 : Env0 P w K mg base A outer s (hid H t) := by
      refine ⟨e0.frames, e0.mod, fun b o e => ⟨(e0.bs b o e).1, hn (e0.bs b o e).2⟩, e0.bsz, e0.funs, fun b hb => hn (e0.frf b hb), fun b o e => ?_, e0.bare⟩
      obtain ⟨e2, e3⟩ := hid_some e
      refine (e0.hok b o e3).stay (fun c u _ q => q) (fun c q => ?_) fun c ys q => ?_
      · rw [hid_ne (ne_of q ht (by intro z; cases z))]
        exact q
      · rw [hid_ne (ne_of q ht (by intro z; cases z))]
        exact q
    refine codeAny_mono (F.run A outer s (hid H t) args us vs _ E hr e1 hb r h) fun r' s' hq => ?_
    cases r' with
    | error e => exact hq
    | ok fl =>
      cases fl with
      | next => exact hq
      | brk => exact hq
      | cont => exact hq
      | ret u =>
        obtain ⟨v, H', os, bare, un, hok, rv, q⟩ := hq
        have tfs : t ∉ frs outer := fun z => by
          rw [e0.frf t z] at ht
          cases ht
        have t0 : H' t = none := un.free t _ hg hid_same (by simp)
        have tg : s'.heap.get? t = some _ := un.keep t _ hg hid_same tfs (by simp)
        have ne : ∀ {b : Addr} {o : HO}, H' b = some o → b ≠ t := fun {b o} e z => by
          rw [z, t0] at e
          cases e
        refine ⟨v, upd H' t (.lst xs), os, bare, ⟨fun b o e n hb hx => un.keep b o e (hn n) hb hx, fun b o e n hb hx => un.slot b o e (hn n) hb hx, fun b o e n hx => ?_, un.there, fun b ys e => ?_, fun b o ys e => ?_, fun b ps e => ?_⟩, fun b o e => ?_, rv, q t0⟩
        · rw [upd_ne (fun z => by rw [z, ht] at n; cases n)]
          exact un.free b o e (hn n) hx
        · have q1 : b ≠ t := ne_of e ht (by intro z; cases z)
          rw [upd_ne q1]
          exact un.tups b ys (by rw [hid_ne q1]; exact e)
        · have q1 : b ≠ t := ne_of e ht (by intro z; cases z)
          rw [upd_ne q1]
          exact un.frzs b o ys (by rw [hid_ne q1]; exact e)
        · have q1 : b ≠ t := ne_of e ht (by intro z; cases z)
          rw [upd_ne q1]
          exact un.tbls b ps (by rw [hid_ne q1]; exact e)
        · by_cases hb : b = t
          · subst hb
            rw [upd_same] at e
            cases e
            exact ⟨hz, its, m, hv, tg⟩
          · rw [upd_ne hb] at e
            refine (hok b o e).stay (fun c u _ q => q) (fun c q => ?_) fun c ys q => ?_
            · rw [upd_ne (ne q)]
              exact q
            · rw [upd_ne (ne q)]
              exact q
/-- the argument stands: of the written part, or no list of ours -/
def Fixed (K : PySem.W.Frag) (c : Addr) (xs : List V) (H : Hp) (t : Addr) : Prop := (∀ H', SqL K H' c xs) ∨ (Rd H c (.lst xs) ∧ c ≠ t)
theorem Fixed.sq {c t : Addr} {xs : List V} {H : Hp} (h : Fixed K c xs H t) : SqL K H c xs := by
  rcases h with h | ⟨h, _⟩
  · exact h H
  · exact .inl h
theorem Fixed.ex {c t : Addr} {xs : List V} {H H' : Hp} (g : Ex H H') (h : Fixed K c xs H t) : Fixed K c xs H' t := by
  rcases h with h | ⟨h, e⟩
  · exact .inl h
  · exact .inr ⟨ex_rd g h, e⟩
theorem Fixed.exc {c t n dx C : Addr} {fs : List (Str × V)} {xs : List V} {H H' : Hp} (hn : H n = some (.ins C dx fs)) (g : Exc n H H') (h : Fixed K c xs H t) : Fixed K c xs H' t := by
  rcases h with h | ⟨h | ⟨o, h⟩, e⟩
  · exact .inl h
  · exact .inr ⟨.inl (g _ _ (ne_of h hn (by intro z; cases z)) h), e⟩
  · exact .inr ⟨.inr ⟨o, g _ _ (ne_of h hn (by intro z; cases z)) h⟩, e⟩
theorem Fixed.upd {c t : Addr} {xs : List V} {H : Hp} {o : HO} (h : Fixed K c xs H t) : Fixed K c xs (upd H t o) t := by
  rcases h with h | ⟨h | ⟨u, h⟩, e⟩
  · exact .inl h
  · exact .inr ⟨.inl (by rw [upd_ne e]; exact h), e⟩
  · exact .inr ⟨.inr ⟨u, by rw [upd_ne e]; exact h⟩, e⟩
theorem Fixed.hid {c t : Addr} {xs : List V} {H : Hp} (h : Fixed K c xs H t) : Fixed K c xs (hid H t) t := by
  rcases h with h | ⟨h | ⟨u, h⟩, e⟩
  · exact .inl h
  · exact .inr ⟨.inl (by rw [hid_ne e]; exact h), e⟩
  · exact .inr ⟨.inr ⟨u, by rw [hid_ne e]; exact h⟩, e⟩
/-- between two turns: what is told, what is to come -/
structure Mid (K : PySem.W.Frag) (a : Adr) (c t : Addr) (l all : List Int) (σ : L2.St) (H : Hp) (done : List Int) (ys : List Sy69.Call) (s : Sy69.St) (n : Addr) (i : Nat) (y4 y5 : Option V) : Prop where
  slots : σ = [some (.ref c), some (.ref n), some (.ref t), some (.int (i : Int)), y4, y5]
  rest : l.drop i = (ys.map flat).flatten
  at_ : i + ((ys.map flat).flatten).length = l.length
  due : done ++ tell s ys = all
  wf : Wf s
  fin : ∀ y ∈ ys, fine y
  arg : Fixed K c (vI l) H t
  out : H t = some (.lst (vI done))
  bn : BnAt a s (hid H t) n
/-- name = f(..), a call that may change objects -/
theorem s_asgC {σ : L2.St} {H : Hp} {D : Ends} {sp : Sp} {vs : List V} {E : XK} {ta : TA} {i : Nat} (hA : EvA ta σ H vs) (hs : ∀ H1, Ex H H1 → ∀ E : XK, sp (vs ++ []) H1 (fun v H2 => D.nx (σ.set i (some v)) H2) E) : tAsg (tCall sp [] E ta) (gName i) D σ H :=
  hA H (Ex.refl H) _ fun H1 e1 => hs H1 e1 E
theorem line7 {n : Nat} (h : n ≤ 10000000) : n < sizeLine := by
  rw [sizeLine_eq]
  omega
theorem init_sp {p dx : Addr} {d : Nat} {H0 H : Hp} {Q : VK} {E : XK} (h1 : 1 ≤ d) (h3 : d ≤ 3) (np : H0 p = none) (g : Ex H0 H) (hp : H p = some (.ins a.N dx [])) (k : ∀ H', Ex H0 H' → BnAt a ⟨d, []⟩ H' p → Q .non H') : spBnInit a [.ref p, .int (d : Int)] H Q E := ⟨p, dx, d, H0, rfl, h1, h3, np, g, hp, k⟩
theorem ok_answers {f : Addr} {fd : FuncData} (F : Fun K "answers" "answers" st_answers f fd) (T : Txt K mg a) (c_Bench_init : MakeC P w K mg base "Bench" a.N 5 ["self", "digits"] (frm (spBnInit a))) (c_call_size : Callee P w K mg base "call_size" 1 ["calls", "at"] (spCallSize K))
    (c_ask : Callee P w K mg base "ask" 7 ["bench", "call"] (frm (spAsk a))) (c_numbers_of : Callee P w K mg base "numbers_of" 1 ["digits"] spNumbers) : FnOk P w K mg base CX0 8 f fd ["calls"] (spAnswers K) := by
  refine F.ok sc_answers (fun vs H Q E h => ?_) (fun cdv A outer s H vs Q E hr h => ?_)
  · obtain ⟨c, l, rfl, _⟩ := h
    rfl
  · obtain ⟨c, l, rfl, hc, hask, k⟩ := h
    obtain ⟨xs, hl, hfin, hans, hlen⟩ := line hask
    refine ⟨_, (pss_cons (ps_set (i := 1) sc_answers.nd rfl (Or.inl rfl) (pe_mkc c_Bench_init (hr.mono (by decide)) (by rfl) (pa_cons (pe_int) pa_nil)))
      (pss_cons (ps_set (i := 2) sc_answers.nd rfl (Or.inl rfl) (pe_lst pa_nil))
      (pss_cons (ps_set (i := 3) sc_answers.nd rfl (Or.inl rfl) (pe_int))
      (pss_cons (ps_while PassesOwn.never (pt_cmpR op_lt (pv 3) (pe_callB (call_len_seq) (by rfl) T.n_len PySem.boot_len (pa_cons (pv 0) pa_nil)) (nomark _)) (pss_cons (ps_set (i := 4) sc_answers.nd rfl (Or.inl rfl) (pe_slice sl_list (pv 0) (po_some (pv 3)) (po_some (pe_op op_add (pv 3) (pe_cal c_call_size (hr.mono (by decide)) (by rfl) (pa_cons (pv 0) (pa_cons (pv 3) pa_nil)))))))
      (pss_cut (ps_if (pt_cmpR op_ne (pe_ix (ix_listK K rfl) (pv 4) (pe_int) (fun _ _ => rfl)) (pe_gi (by rfl) T.g_BEGINS) (nomark _)) (pss_one (ps_set (i := 5) sc_answers.nd rfl (Or.inl rfl) (pe_cal c_ask hr (by rfl) (pa_cons (pv 1) (pa_cons (pv 4) pa_nil))))) (pss_one (ps_if (pt_chain op_le op_le (pe_int) (pe_ix (ix_listK K rfl) (pv 4) (pe_int) (fun _ _ => rfl)) (pe_gi (by rfl) T.g_DIGITS_AT_MOST)) (pss_cons (ps_set (i := 1) sc_answers.nd rfl (Or.inl rfl) (pe_mkc c_Bench_init (hr.mono (by decide)) (by rfl) (pa_cons (pe_ix (ix_listK K rfl) (pv 4) (pe_int) (fun _ _ => rfl)) pa_nil)))
      (pss_one (ps_set (i := 5) sc_answers.nd rfl (Or.inl rfl) (pe_lst (pa_cons (pe_cal c_numbers_of (hr.mono (by decide)) (by rfl) (pa_cons (pe_ix (ix_listK K rfl) (pv 4) (pe_int) (fun _ _ => rfl)) pa_nil)) pa_nil))))) (pss_one (ps_set (i := 5) sc_answers.nd rfl (Or.inl rfl) (pe_lst (pa_cons (pe_gi (by rfl) T.g_BAD_NUMBER) pa_nil)))))))
      (pss_cons (ps_expr (pe_bm PySem.F.plainAttrs_list PySem.F.slot_list_append PySem.F.type_list_append mt_append (pv 2) (pa_cons (pe_callB (call_len_seq) (by rfl) T.n_len PySem.boot_len (pa_cons (pv 5) pa_nil)) pa_nil)))
      (pss_cons (ps_expr (pe_bm PySem.F.plainAttrs_list PySem.F.slot_list_extend PySem.F.type_list_extend mt_extend (pv 2) (pa_cons (pv 5) pa_nil)))
      (pss_one (ps_aug (i := 3) sc_answers.nd rfl (Or.inl rfl) (pe_callB (call_len_seq) (by rfl) T.n_len PySem.boot_len (pa_cons (pv 4) pa_nil)) ip_add)))))))
      (pss_one (ps_ret (pv 2))))))), ?_⟩
    -- the first bench
    refine q_asgP (ep_make (P := fun x H' => BnAt a ⟨1, []⟩ H' x) (ea_cons ev_c ea_nil) fun x dx H1 e1 nx H2 e2 hx Q E kq => .inl (init_sp (d := 1) (by decide) (by decide) nx e2 hx fun H' gg hh => kq H' gg hh)) ?_
    rintro _ H1 e1 ⟨n, rfl, hB⟩
    -- the list of answers
    refine q_asgL (el_lst ea_nil (Nat.zero_le _)) fun t H2 nt e2 ht => ?_
    refine q_asg ev_c fun H3 e3 => ?_
    have g3 := (e1.trans e2).trans e3
    have fix : Fixed K c (vI l) H3 t := by
      rcases hc with hc | hc
      · refine .inr ⟨ex_rd g3 hc, ?_⟩
        rcases hc with hc | ⟨o, hc⟩
        · exact ne_of_none (e1 _ _ hc) nt
        · exact ne_of_none (e1 _ _ hc) nt
      · exact .inl fun H' => .inr hc
    refine q_while (W := fun m σ H' => ∃ done ys s n i y4 y5, m = ys.length ∧ Mid K a c t l (tell Sy69.init xs) σ H' done ys s n i y4 y5) (m0 := xs.length) ⟨[], xs, Sy69.init, n, 0, none, none, rfl, ⟨rfl, by rw [List.drop_zero]; exact hl, by rw [Nat.zero_add, ← hl], rfl, wf_new (by decide) (by decide), hfin, fix, e3 _ _ ht, ?_⟩⟩ ?_
    · refine BnAt.mono (fun b o h => ?_) hB
      rw [hid_ne (ne_of_none h nt)]
      exact e3 _ _ (e2 _ _ h)
    rintro m σ' H4 ⟨done, ys, st, n, i, y4, y5, rfl, M⟩
    obtain ⟨rfl, hrest, hat, hdue, W, hfine, harg, hout, hbn⟩ := M
    refine ⟨decide ((i : Int) < ((vI l).length : Int)), et_test (ev_op (ev_var rfl) (ev_len (ev_var rfl) harg.sq) rv_I0), fun hb H5 e5 => ?_, fun hb H5 e5 => ?_⟩
    · -- a turn
      have hlt : i < l.length := by
        have := of_decide_eq_true hb
        rw [vI_len] at this
        omega
      cases ys with
      | nil =>
        rw [List.map_nil, List.flatten_nil, List.length_nil] at hat
        omega
      | cons y r =>
        have hy := hfine y List.mem_cons_self
        rw [List.map_cons, List.flatten_cons] at hrest hat
        rw [List.length_append] at hat
        have harg5 := harg.ex e5
        have hout5 : H5 t = some (.lst (vI done)) := e5 _ _ hout
        have hbn5 : BnAt a st (hid H5 t) n := hbn.mono (hid_ex e5)
        refine ⟨fun σ2 H6 => ∃ done ys s n i y4 y5, r.length = ys.length ∧ Mid K a c t l (tell Sy69.init xs) σ2 H6 done ys s n i y4 y5, fun σ2 H6 hw => ⟨r.length, Nat.lt_succ_self _, hw⟩, ?_⟩
        -- the call is cut out
        refine q_asgL (el_is (el_sl (ev_var rfl) (eo_some (ev_var rfl)) (eo_some (ev_add (ev_var rfl) (ev_call (ea_cons (ev_var rfl) (ea_cons (ev_var rfl) ea_nil)) (spv_of fun H6 e6 Q6 E6 k6 => ⟨c, l, (r.map flat).flatten, i, y, rfl, (harg5.ex e6).sq, hrest, k6⟩)))) harg5.sq) (cut_mid hrest (by omega))) fun q H6 nq e6 hq => ?_
        have qt : q ≠ t := (ne_of_none hout5 nq).symm
        have harg6 := harg5.ex e6
        have hout6 : H6 t = some (.lst (vI done)) := e6 _ _ hout5
        have hbn6 : BnAt a st (hid H6 t) n := hbn5.mono (hid_ex e6)
        have hq0 : (vI (flat y))[0]? = some (.int (code y : Int)) := vI_get (by
          have := flat_head y []
          rw [List.append_nil] at this
          exact this)
        refine q_cut (M := fun σ H' => ∃ n' rr, σ = [some (.ref c), some (.ref n'), some (.ref t), some (.int (i : Int)), some (.ref q), some (.ref rr)] ∧ Fixed K c (vI l) H' t ∧ H' t = some (.lst (vI done)) ∧ H' q = some (.lst (vI (flat y))) ∧ rr ≠ t ∧ H' rr = some (.lst (vI (ans st y))) ∧ BnAt a (Sy69.step st y).1 (hid H' t) n') ?_ ?_
        · refine s_if (et_test (ev_op (ev_op (ev_var rfl) ev_c (rv_ixL (sq_of hq) (atI_nat (j := 0) hq0))) ev_c (rv_ne rfl))) (fun hc1 H7 e7 => ?_) (fun hc1 H7 e7 => ?_)
          · -- any call but begins
            have hcode : code y ≠ 0 := fun e => by
              rw [e] at hc1
              exact absurd hc1 (by decide)
            have hbn7 : BnAt a st (hid H7 t) n := hbn6.mono (hid_ex e7)
            have hout7 : H7 t = some (.lst (vI done)) := e7 _ _ hout6
            refine s_asgC (ea_cons (ev_var rfl) (ea_cons (ev_var rfl) ea_nil)) fun H8 e8 E8 => .inr ⟨t, vI done, e8 _ _ hout7, n, q, st, y, rfl, W, hy, hcode, hbn7.mono (hid_ex e8), ?_, ?_⟩
            · rw [hid_ne qt]
              exact e8 _ _ (e7 _ _ hq)
            · intro rr H9 nr xx hr9 hb9 t9
              obtain ⟨dx, ls, le, i1, _⟩ := hbn7.mono (hid_ex e8)
              have rt : rr ≠ t := fun z => by
                rw [z, t9] at hr9
                cases hr9
              refine ⟨n, rr, rfl, (Fixed.exc i1 xx ((harg6.ex (e7.trans e8)).hid)).upd, upd_same, ?_, rt, ?_, ?_⟩
              · rw [upd_ne qt]
                refine xx q _ (ne_of (show hid H8 t q = some (.lst (vI (flat y))) from ?_) i1 (by intro z; cases z)) ?_
                · rw [hid_ne qt]
                  exact e8 _ _ (e7 _ _ hq)
                · rw [hid_ne qt]
                  exact e8 _ _ (e7 _ _ hq)
              · rw [upd_ne rt]
                exact hr9
              · rw [hid_upd, hid_of t9]
                exact hb9
          · have hcode : code y = 0 := by simpa using hc1
            obtain ⟨m, rfl⟩ : ∃ m, y = .begins m := by
              cases y <;> first | exact ⟨_, rfl⟩ | exact absurd hcode (by simp [code])
            have hq7 : H7 q = some (.lst (vI [(0 : Int), (m : Int)])) := e7 _ _ hq
            have hout7 : H7 t = some (.lst (vI done)) := e7 _ _ hout6
            have hix : ∀ {σ : L2.St} {H' : Hp} {ta : TE}, Ex H7 H' → Ev ta σ H' (.ref q) → Ev (tOp (rIxL K) ta (tC (.int 1))) σ H' (.int (m : Int)) := fun e h => ev_op h ev_c (rv_ixL (sq_of (e _ _ hq7)) (atI_nat (j := 1) rfl))
            refine s_if (et_test (ev_chain ev_c (hix (Ex.refl H7) (ev_var rfl)) ev_c rv_I0 rv_I0)) (fun hc2 H8 e8 => ?_) (fun hc2 H8 e8 => ?_)
            · have hm : 1 ≤ m ∧ m ≤ 3 := by
                obtain ⟨q1, q2⟩ := Bool.and_eq_true_iff.mp hc2
                have := of_decide_eq_true q1
                have := of_decide_eq_true q2
                omega
              have hs := step_begins (s := st) hm.1 hm.2
              have hout8 : H8 t = some (.lst (vI done)) := e8 _ _ hout7
              refine q_asgP (P := fun v H' => ∃ x, v = .ref x ∧ BnAt a ⟨m, []⟩ (hid H' t) x) (ep_imp (P := fun v H' => ∃ x, v = .ref x ∧ BnAt a ⟨m, []⟩ (hid H' t) x) (ep_make (P := fun x H' => BnAt a ⟨m, []⟩ (hid H' t) x) (ea_cons (hix e8 (ev_var rfl)) ea_nil) fun x dx H9 e9 nx H10 e10 hx Q9 E9 k9 => .inr ⟨t, vI done, e10 _ _ (e9 _ _ hout8), ?_⟩) fun v H' _ h => h) ?_
              · have xt : x ≠ t := fun z => by
                  rw [z, e9 _ _ hout8] at nx
                  cases nx
                refine init_sp (H0 := hid H9 t) hm.1 hm.2 (by rw [hid_ne xt]; exact nx) (hid_ex e10) (by rw [hid_ne xt]; exact hx) fun H' gg hh t' => k9 _ (fun b o hb => ?_) ?_
                · by_cases e : b = t
                  · rw [e] at hb ⊢
                    rw [e9 _ _ hout8] at hb
                    rw [upd_same]
                    exact hb
                  · rw [upd_ne e]
                    exact gg b o (by rw [hid_ne e]; exact hb)
                · rw [hid_upd, hid_of t']
                  exact hh
              · rintro _ H9 e9 ⟨n', rfl, hb9⟩
                have g9 := e8.trans e9
                refine s_asgL (el_lst (ea_cons (ev_call (ea_cons (hix g9 (ev_var rfl)) ea_nil) (sv_numbers hm.2)) ea_nil) (by show 1 ≤ 100000; decide)) fun rr H10 nr e10 hr10 => ⟨n', rr, rfl, harg6.ex ((e7.trans g9).trans e10), e10 _ _ (e9 _ _ hout8), e10 _ _ (g9 _ _ hq7), (ne_of_none (e9 _ _ hout8) nr).symm, ?_, ?_⟩
                · rw [ans_of hs, hr10]
                  rfl
                · rw [hs]
                  exact hb9.mono (hid_ex e10)
            · have hm : ¬ (1 ≤ m ∧ m ≤ 3) := by
                rintro ⟨q1, q2⟩
                have a1 : decide ((1 : Int) ≤ (m : Int)) = true := decide_eq_true (by omega)
                have a2 : decide ((m : Int) ≤ (3 : Int)) = true := decide_eq_true (by omega)
                have hc2 : (decide ((1 : Int) ≤ (m : Int)) && decide ((m : Int) ≤ (3 : Int))) = false := hc2
                rw [a1, a2] at hc2
                cases hc2
              have hs := step_begins0 (s := st) hm
              refine s_asgL (el_lst (ea_cons ev_c ea_nil) (by show 1 ≤ 100000; decide)) fun rr H9 nr e9 hr9 => ⟨n, rr, rfl, harg6.ex ((e7.trans e8).trans e9), e9 _ _ (e8 _ _ hout7), e9 _ _ (e8 _ _ hq7), (ne_of_none (e8 _ _ hout7) nr).symm, ?_, ?_⟩
              · rw [ans_of hs, hr9]
                rfl
              · rw [hs]
                exact hbn6.mono (hid_ex ((e7.trans e8).trans e9))
        · rintro σ' H7 ⟨n', rr, rfl, harg7, hout7, hq7, rt, hrr, hbn7⟩
          rw [tell_cons] at hdue
          have htot : done.length + ((told (ans st y)).length + (tell (Sy69.step st y).1 r).length) = (tell Sy69.init xs).length := by
            rw [← hdue, List.length_append, List.length_append]
          rw [told_len] at htot
          -- how many numbers are told
          refine q_appZ hout7 (ev_var rfl) (ev_len (ev_var rfl) (sq_of hrr)) (by rw [vI_len]; exact line7 (by omega)) fun H8 e8 => ?_
          -- they themselves
          refine q_ext upd_same (by rw [upd_ne rt]; exact e8 _ _ hrr) (ev_var rfl) (ev_var rfl) (by rw [List.length_append, vI_len, vI_len]; exact Nat.le_of_lt (line7 (by show (done.length + 1) + _ ≤ _; omega))) fun H9 e9 => ?_
          -- the place goes on
          have hq9 : (upd H9 t (.lst ((vI done ++ [.int ((vI (ans st y)).length : Int)]) ++ vI (ans st y)))) q = some (.lst (vI (flat y))) := by
            rw [upd_ne qt]
            refine e9 _ _ ?_
            rw [upd_ne qt]
            exact e8 _ _ hq7
          refine s_aug rfl (ev_len (ev_var rfl) (sq_of hq9)) fun H10 e10 => ⟨done ++ told (ans st y), r, (Sy69.step st y).1, n', i + (flat y).length, some (.ref q), some (.ref rr), rfl, ?_⟩
          refine ⟨?_, ?_, by omega, ?_, wf_step W y, fun z hz => hfine z (List.mem_cons_of_mem _ hz), Fixed.ex e10 (Fixed.upd (Fixed.ex e9 (Fixed.upd (Fixed.ex e8 harg7)))), ?_, ?_⟩
          · show [_, _, _, some (V.int ((i : Int) + ((vI (flat y)).length : Int))), _, _] = _
            rw [vI_len, ← Int.natCast_add]
          · rw [← List.drop_drop, hrest, List.drop_left']
            rfl
          · rw [List.append_assoc]
            exact hdue
          · refine e10 _ _ (upd_same.trans ?_)
            rw [vI_append, vI_len, List.append_assoc]
            rfl
          · refine BnAt.mono ?_ hbn7
            intro b o hb
            obtain ⟨q1, q2⟩ := hid_some hb
            rw [hid_ne q1]
            refine e10 _ _ ?_
            rw [upd_ne q1]
            refine e9 _ _ ?_
            rw [upd_ne q1]
            exact e8 _ _ q2
    · -- behind the last call
      have hge : l.length ≤ i := by
        have := of_decide_eq_false hb
        rw [vI_len] at this
        omega
      have hys := flats_nil (ys := ys) (by omega)
      subst hys
      have hd : done = tell Sy69.init xs := by
        rw [← hdue]
        exact (List.append_nil _).symm
      refine s_ret (ev_var rfl) fun H6 e6 => k H6 t ?_
      rw [hans, ← hd]
      exact e6 _ _ (e5 _ _ hout)
end
end Bs
/-! The end: what the top has written, every address a letter. -/
namespace Bs
open PySem PySem.Spec PyProof.Rows L2 Evl
theorem meth_of {P : Program} {w : World} {K : PySem.W.Frag} {mg : Str → Option Value} {base : Heap} {C f : Addr} {m : Str} {k : Nat} {ps : List Str} {sp : Sp} {fd : FuncData} (h : FnOk P w K mg base CX0 k f fd ps sp) (h1 : PySem.W.findIn K (.ref C) m = some (some (.ref f))) (h2 : PySem.W.isFn K (.ref f) = true) (h3 : PySem.W.keepIn K (.ref f) = true) (b : Binds K fd ps []) : MethC P w K mg base C m k ps sp := ⟨f, fd, h, ⟨h1, h2, h3⟩, b⟩
theorem make_of {P : Program} {w : World} {K : PySem.W.Frag} {mg : Str → Option Value} {base : Heap} {C f : Addr} {x : Str} {k : Nat} {ps : List Str} {sp : Sp} {fd : FuncData} (h : FnOk P w K mg base CX0 k f fd ps sp) (h0 : mg x = some (.ref C)) (h1 : PySem.W.findIn K (.ref C) "__init__" = some (some (.ref f))) (h2 : PySem.W.isFn K (.ref f) = true) (h3 : PySem.W.makesIn K C = true) (h4 : PySem.W.keepIn K (.ref C) = true) (b : Binds K fd ps []) : MakeC P w K mg base x C k ps sp := ⟨f, fd, ⟨h3, h1, h2, h4⟩, h, h0, b⟩
theorem all_mk {P : Program} {w : World} {K : PySem.W.Frag} {h : Heap} {mg : Str → Option Value} {fa CS CB CE CN CSh CCz f0 f1 f2 f3 f4 f5 f6 f7 f8 f9 f10 f11 f12 f13 f14 f15 f16 f17 f18 f19 f20 f21 f22 f23 f24 f25 f26 f27 f28 f29 f30 f31 f32 f33 f34 f35 f36 f37 : Addr} (X : K.In h) (G : h.Ns mainGlobals mg) (hfa : mg "answers" = some (.ref fa))
    {tSTROKES tALL tBAD_NUMBER tNOT_THERE tNO_SIGHT tNO_ROOM tNO_EXPLANATION tDIGITS_AT_MOST tSECONDS_AT_MOST tSIGHTS_AT_MOST tBEGINS tSEES tUNDO tMAY tLIKELY tGUESS tSTROKE tSURE tNEXT tAPART tSHOWN : Tok} {odSh odCz : Option Addr} {itsSh itsCz : Array Value} {nnSh nnCz : Nat} {slSh slCz : Array (Option Value)}
    {od0 od1 od2 od3 od4 od5 od6 od7 od8 od9 od10 od11 od12 od13 od14 od15 od16 od17 od18 od19 od20 od21 od22 od23 od24 od25 od26 od27 od28 od29 od30 od31 od32 od33 od34 od35 od36 od37 an0 an1 an2 an3 an4 an5 an6 an7 an8 an9 an10 an11 an12 an13 an14 an15 an16 an17 an18 an19 an20 an21 an22 an23 an24 an25 an26 an27 an28 an29 an30 an31 an32 an33 an34 an35 an36 an37 : Option Addr} {sl0 sl1 sl2 sl3 sl4 sl5 sl6 sl7 sl8 sl9 sl10 sl11 sl12 sl13 sl14 sl15 sl16 sl17 sl18 sl19 sl20 sl21 sl22 sl23 sl24 sl25 sl26 sl27 sl28 sl29 sl30 sl31 sl32 sl33 sl34 sl35 sl36 sl37 : Array (Option Value)} {oc0 oc1 oc2 oc3 oc4 oc5 oc6 oc7 oc8 oc9 oc10 oc11 oc12 oc13 oc14 oc15 oc16 oc17 oc18 oc19 oc20 oc21 oc22 oc23 oc24 oc25 oc26 oc27 oc28 oc29 oc30 oc31 oc32 oc33 oc34 oc35 oc36 oc37 kV0 kV1 kV2 kV3 kV4 kV5 kV6 kV7 kV8 kV9 kV10 kV11 kV12 kV13 kV14 kV15 kV16 kV17 kV18 kV19 kV20 kV21 kV22 kV23 kV24 kV25 kV26 kV27 kV28 kV29 kV30 kV31 kV32 kV33 kV34 kV35 kV36 kV37 dc0 dc1 dc2 dc3 dc4 dc5 dc6 dc7 dc8 dc9 dc10 dc11 dc12 dc13 dc14 dc15 dc16 dc17 dc18 dc19 dc20 dc21 dc22 dc23 dc24 dc25 dc26 dc27 dc28 dc29 dc30 dc31 dc32 dc33 dc34 dc35 dc36 dc37 pm0 pm1 pm2 pm3 pm4 pm5 pm6 pm7 pm8 pm9 pm10 pm11 pm12 pm13 pm14 pm15 pm16 pm17 pm18 pm19 pm20 pm21 pm22 pm23 pm24 pm25 pm26 pm27 pm28 pm29 pm30 pm31 pm32 pm33 pm34 pm35 pm36 pm37 cd0 cd1 cd2 cd3 cd4 cd5 cd6 cd7 cd8 cd9 cd10 cd11 cd12 cd13 cd14 cd15 cd16 cd17 cd18 cd19 cd20 cd21 cd22 cd23 cd24 cd25 cd26 cd27 cd28 cd29 cd30 cd31 cd32 cd33 cd34 cd35 cd36 cd37 ct0 ct1 ct2 ct3 ct4 ct5 ct6 ct7 ct8 ct9 ct10 ct11 ct12 ct13 ct14 ct15 ct16 ct17 ct18 ct19 ct20 ct21 ct22 ct23 ct24 ct25 ct26 ct27 ct28 ct29 ct30 ct31 ct32 ct33 ct34 ct35 ct36 ct37 : Value}
    (aS : PySem.W.nsIn K mainGlobals "Sight" = some (some (.ref CS)))
    (aB : PySem.W.nsIn K mainGlobals "Beginning" = some (some (.ref CB)))
    (aE : PySem.W.nsIn K mainGlobals "Evidence" = some (some (.ref CE)))
    (aN : PySem.W.nsIn K mainGlobals "Bench" = some (some (.ref CN)))
    (gSTROKES : PySem.W.nsIn K mainGlobals "STROKES" = some (some (.int (7) tSTROKES)))
    (gALL : PySem.W.nsIn K mainGlobals "ALL" = some (some (.int (127) tALL)))
    (gBAD_NUMBER : PySem.W.nsIn K mainGlobals "BAD_NUMBER" = some (some (.int (-1) tBAD_NUMBER)))
    (gNOT_THERE : PySem.W.nsIn K mainGlobals "NOT_THERE" = some (some (.int (-2) tNOT_THERE)))
    (gNO_SIGHT : PySem.W.nsIn K mainGlobals "NO_SIGHT" = some (some (.int (-4) tNO_SIGHT)))
    (gNO_ROOM : PySem.W.nsIn K mainGlobals "NO_ROOM" = some (some (.int (-5) tNO_ROOM)))
    (gNO_EXPLANATION : PySem.W.nsIn K mainGlobals "NO_EXPLANATION" = some (some (.int (-6) tNO_EXPLANATION)))
    (gDIGITS_AT_MOST : PySem.W.nsIn K mainGlobals "DIGITS_AT_MOST" = some (some (.int (3) tDIGITS_AT_MOST)))
    (gSECONDS_AT_MOST : PySem.W.nsIn K mainGlobals "SECONDS_AT_MOST" = some (some (.int (10000) tSECONDS_AT_MOST)))
    (gSIGHTS_AT_MOST : PySem.W.nsIn K mainGlobals "SIGHTS_AT_MOST" = some (some (.int (8) tSIGHTS_AT_MOST)))
    (gBEGINS : PySem.W.nsIn K mainGlobals "BEGINS" = some (some (.int (0) tBEGINS)))
    (gSEES : PySem.W.nsIn K mainGlobals "SEES" = some (some (.int (1) tSEES)))
    (gUNDO : PySem.W.nsIn K mainGlobals "UNDO" = some (some (.int (2) tUNDO)))
    (gMAY : PySem.W.nsIn K mainGlobals "MAY" = some (some (.int (3) tMAY)))
    (gLIKELY : PySem.W.nsIn K mainGlobals "LIKELY" = some (some (.int (4) tLIKELY)))
    (gGUESS : PySem.W.nsIn K mainGlobals "GUESS" = some (some (.int (5) tGUESS)))
    (gSTROKE : PySem.W.nsIn K mainGlobals "STROKE" = some (some (.int (6) tSTROKE)))
    (gSURE : PySem.W.nsIn K mainGlobals "SURE" = some (some (.int (7) tSURE)))
    (gNEXT : PySem.W.nsIn K mainGlobals "NEXT" = some (some (.int (8) tNEXT)))
    (gAPART : PySem.W.nsIn K mainGlobals "APART" = some (some (.int (9) tAPART)))
    (gSHOWN : PySem.W.nsIn K mainGlobals "SHOWN" = some (some (.int (10) tSHOWN)))
    (gSHOULD : PySem.W.nsIn K mainGlobals "SHOULD" = some (some (.ref CSh)))
    (lSHOULD : K.lookup CSh = some ⟨.type "tuple", odSh, .seq itsSh nnSh, slSh⟩)
    (gCALL_SIZES : PySem.W.nsIn K mainGlobals "CALL_SIZES" = some (some (.ref CCz)))
    (lCALL_SIZES : K.lookup CCz = some ⟨.type "tuple", odCz, .seq itsCz nnCz, slCz⟩)
    (zlen : PySem.W.nsIn K mainGlobals "len" = some none)
    (zrange : PySem.W.nsIn K mainGlobals "range" = some none)
    (zsum : PySem.W.nsIn K mainGlobals "sum" = some none)
    (zmin : PySem.W.nsIn K mainGlobals "min" = some none)
    (zmax : PySem.W.nsIn K mainGlobals "max" = some none)
    (zall : PySem.W.nsIn K mainGlobals "all" = some none)
    (zany : PySem.W.nsIn K mainGlobals "any" = some none)
    (a_count_of : PySem.W.nsIn K mainGlobals "count_of" = some (some (.ref f0)))
    (l_count_of : K.lookup f0 = some ⟨oc0, od0, .func (PySem.W.fnOf "count_of" "count_of" (defArgs st_count_of) (defBody st_count_of) (defScope st_count_of) .none kV0 dc0 pm0 an0 cd0 ct0), sl0⟩)
    (c_count_of : PySem.W.codeIn K cd0 "count_of" = true)
    (k_count_of : PySem.W.keepIn K (.ref f0) = true)
    (a_count_of_all : PySem.W.nsIn K mainGlobals "count_of_all" = some (some (.ref f1)))
    (l_count_of_all : K.lookup f1 = some ⟨oc1, od1, .func (PySem.W.fnOf "count_of_all" "count_of_all" (defArgs st_count_of_all) (defBody st_count_of_all) (defScope st_count_of_all) .none kV1 dc1 pm1 an1 cd1 ct1), sl1⟩)
    (c_count_of_all : PySem.W.codeIn K cd1 "count_of_all" = true)
    (k_count_of_all : PySem.W.keepIn K (.ref f1) = true)
    (a_numbers_of : PySem.W.nsIn K mainGlobals "numbers_of" = some (some (.ref f2)))
    (l_numbers_of : K.lookup f2 = some ⟨oc2, od2, .func (PySem.W.fnOf "numbers_of" "numbers_of" (defArgs st_numbers_of) (defBody st_numbers_of) (defScope st_numbers_of) .none kV2 dc2 pm2 an2 cd2 ct2), sl2⟩)
    (c_numbers_of : PySem.W.codeIn K cd2 "numbers_of" = true)
    (k_numbers_of : PySem.W.keepIn K (.ref f2) = true)
    (a_should_light : PySem.W.nsIn K mainGlobals "should_light" = some (some (.ref f3)))
    (l_should_light : K.lookup f3 = some ⟨oc3, od3, .func (PySem.W.fnOf "should_light" "should_light" (defArgs st_should_light) (defBody st_should_light) (defScope st_should_light) .none kV3 dc3 pm3 an3 cd3 ct3), sl3⟩)
    (c_should_light : PySem.W.codeIn K cd3 "should_light" = true)
    (k_should_light : PySem.W.keepIn K (.ref f3) = true)
    (a_Sight_init : PySem.W.findIn K (.ref CS) "__init__" = some (some (.ref f4)))
    (i_Sight_init : PySem.W.isFn K (.ref f4) = true)
    (l_Sight_init : K.lookup f4 = some ⟨oc4, od4, .func (PySem.W.fnOf "__init__" "Sight.__init__" (defArgs st_Sight_init) (defBody st_Sight_init) (defScope st_Sight_init) .none kV4 dc4 pm4 an4 cd4 ct4), sl4⟩)
    (c_Sight_init : PySem.W.codeIn K cd4 "Sight.__init__" = true)
    (k_Sight_init : PySem.W.keepIn K (.ref f4) = true)
    (a_Beginning_init : PySem.W.findIn K (.ref CB) "__init__" = some (some (.ref f5)))
    (i_Beginning_init : PySem.W.isFn K (.ref f5) = true)
    (l_Beginning_init : K.lookup f5 = some ⟨oc5, od5, .func (PySem.W.fnOf "__init__" "Beginning.__init__" (defArgs st_Beginning_init) (defBody st_Beginning_init) (defScope st_Beginning_init) .none kV5 dc5 pm5 an5 cd5 ct5), sl5⟩)
    (c_Beginning_init : PySem.W.codeIn K cd5 "Beginning.__init__" = true)
    (k_Beginning_init : PySem.W.keepIn K (.ref f5) = true)
    (a_Beginning_broken : PySem.W.findIn K (.ref CB) "broken" = some (some (.ref f6)))
    (i_Beginning_broken : PySem.W.isFn K (.ref f6) = true)
    (l_Beginning_broken : K.lookup f6 = some ⟨oc6, od6, .func (PySem.W.fnOf "broken" "Beginning.broken" (defArgs st_Beginning_broken) (defBody st_Beginning_broken) (defScope st_Beginning_broken) .none kV6 dc6 pm6 an6 cd6 ct6), sl6⟩)
    (c_Beginning_broken : PySem.W.codeIn K cd6 "Beginning.broken" = true)
    (k_Beginning_broken : PySem.W.keepIn K (.ref f6) = true)
    (a_working : PySem.W.nsIn K mainGlobals "working" = some (some (.ref f7)))
    (l_working : K.lookup f7 = some ⟨oc7, od7, .func (PySem.W.fnOf "working" "working" (defArgs st_working) (defBody st_working) (defScope st_working) .none kV7 dc7 pm7 an7 cd7 ct7), sl7⟩)
    (c_working : PySem.W.codeIn K cd7 "working" = true)
    (k_working : PySem.W.keepIn K (.ref f7) = true)
    (a_Evidence_init : PySem.W.findIn K (.ref CE) "__init__" = some (some (.ref f8)))
    (i_Evidence_init : PySem.W.isFn K (.ref f8) = true)
    (l_Evidence_init : K.lookup f8 = some ⟨oc8, od8, .func (PySem.W.fnOf "__init__" "Evidence.__init__" (defArgs st_Evidence_init) (defBody st_Evidence_init) (defScope st_Evidence_init) .none kV8 dc8 pm8 an8 cd8 ct8), sl8⟩)
    (c_Evidence_init : PySem.W.codeIn K cd8 "Evidence.__init__" = true)
    (k_Evidence_init : PySem.W.keepIn K (.ref f8) = true)
    (a_Evidence_explains : PySem.W.findIn K (.ref CE) "explains" = some (some (.ref f9)))
    (i_Evidence_explains : PySem.W.isFn K (.ref f9) = true)
    (l_Evidence_explains : K.lookup f9 = some ⟨oc9, od9, .func (PySem.W.fnOf "explains" "Evidence.explains" (defArgs st_Evidence_explains) (defBody st_Evidence_explains) (defScope st_Evidence_explains) .none kV9 dc9 pm9 an9 cd9 ct9), sl9⟩)
    (c_Evidence_explains : PySem.W.codeIn K cd9 "Evidence.explains" = true)
    (k_Evidence_explains : PySem.W.keepIn K (.ref f9) = true)
    (a_Evidence_beginning : PySem.W.findIn K (.ref CE) "beginning" = some (some (.ref f10)))
    (i_Evidence_beginning : PySem.W.isFn K (.ref f10) = true)
    (l_Evidence_beginning : K.lookup f10 = some ⟨oc10, od10, .func (PySem.W.fnOf "beginning" "Evidence.beginning" (defArgs st_Evidence_beginning) (defBody st_Evidence_beginning) (defScope st_Evidence_beginning) .none kV10 dc10 pm10 an10 cd10 ct10), sl10⟩)
    (c_Evidence_beginning : PySem.W.codeIn K cd10 "Evidence.beginning" = true)
    (k_Evidence_beginning : PySem.W.keepIn K (.ref f10) = true)
    (a_Evidence_least_broken : PySem.W.findIn K (.ref CE) "least_broken" = some (some (.ref f11)))
    (i_Evidence_least_broken : PySem.W.isFn K (.ref f11) = true)
    (l_Evidence_least_broken : K.lookup f11 = some ⟨oc11, od11, .func (PySem.W.fnOf "least_broken" "Evidence.least_broken" (defArgs st_Evidence_least_broken) (defBody st_Evidence_least_broken) (defScope st_Evidence_least_broken) .none kV11 dc11 pm11 an11 cd11 ct11), sl11⟩)
    (c_Evidence_least_broken : PySem.W.codeIn K cd11 "Evidence.least_broken" = true)
    (k_Evidence_least_broken : PySem.W.keepIn K (.ref f11) = true)
    (a_Evidence_likely : PySem.W.findIn K (.ref CE) "likely" = some (some (.ref f12)))
    (i_Evidence_likely : PySem.W.isFn K (.ref f12) = true)
    (l_Evidence_likely : K.lookup f12 = some ⟨oc12, od12, .func (PySem.W.fnOf "likely" "Evidence.likely" (defArgs st_Evidence_likely) (defBody st_Evidence_likely) (defScope st_Evidence_likely) .none kV12 dc12 pm12 an12 cd12 ct12), sl12⟩)
    (c_Evidence_likely : PySem.W.codeIn K cd12 "Evidence.likely" = true)
    (k_Evidence_likely : PySem.W.keepIn K (.ref f12) = true)
    (a_Evidence_states_of : PySem.W.findIn K (.ref CE) "states_of" = some (some (.ref f13)))
    (i_Evidence_states_of : PySem.W.isFn K (.ref f13) = true)
    (l_Evidence_states_of : K.lookup f13 = some ⟨oc13, od13, .func (PySem.W.fnOf "states_of" "Evidence.states_of" (defArgs st_Evidence_states_of) (defBody st_Evidence_states_of) (defScope st_Evidence_states_of) .none kV13 dc13 pm13 an13 cd13 ct13), sl13⟩)
    (c_Evidence_states_of : PySem.W.codeIn K cd13 "Evidence.states_of" = true)
    (k_Evidence_states_of : PySem.W.keepIn K (.ref f13) = true)
    (a_Evidence_surely_broken : PySem.W.findIn K (.ref CE) "surely_broken" = some (some (.ref f14)))
    (i_Evidence_surely_broken : PySem.W.isFn K (.ref f14) = true)
    (l_Evidence_surely_broken : K.lookup f14 = some ⟨oc14, od14, .func (PySem.W.fnOf "surely_broken" "Evidence.surely_broken" (defArgs st_Evidence_surely_broken) (defBody st_Evidence_surely_broken) (defScope st_Evidence_surely_broken) .none kV14 dc14 pm14 an14 cd14 ct14), sl14⟩)
    (c_Evidence_surely_broken : PySem.W.codeIn K cd14 "Evidence.surely_broken" = true)
    (k_Evidence_surely_broken : PySem.W.keepIn K (.ref f14) = true)
    (a_Evidence_surely_working : PySem.W.findIn K (.ref CE) "surely_working" = some (some (.ref f15)))
    (i_Evidence_surely_working : PySem.W.isFn K (.ref f15) = true)
    (l_Evidence_surely_working : K.lookup f15 = some ⟨oc15, od15, .func (PySem.W.fnOf "surely_working" "Evidence.surely_working" (defArgs st_Evidence_surely_working) (defBody st_Evidence_surely_working) (defScope st_Evidence_surely_working) .none kV15 dc15 pm15 an15 cd15 ct15), sl15⟩)
    (c_Evidence_surely_working : PySem.W.codeIn K cd15 "Evidence.surely_working" = true)
    (k_Evidence_surely_working : PySem.W.keepIn K (.ref f15) = true)
    (a_Evidence_may_light : PySem.W.findIn K (.ref CE) "may_light" = some (some (.ref f16)))
    (i_Evidence_may_light : PySem.W.isFn K (.ref f16) = true)
    (l_Evidence_may_light : K.lookup f16 = some ⟨oc16, od16, .func (PySem.W.fnOf "may_light" "Evidence.may_light" (defArgs st_Evidence_may_light) (defBody st_Evidence_may_light) (defScope st_Evidence_may_light) .none kV16 dc16 pm16 an16 cd16 ct16), sl16⟩)
    (c_Evidence_may_light : PySem.W.codeIn K cd16 "Evidence.may_light" = true)
    (k_Evidence_may_light : PySem.W.keepIn K (.ref f16) = true)
    (a_Evidence_may_be_dark : PySem.W.findIn K (.ref CE) "may_be_dark" = some (some (.ref f17)))
    (i_Evidence_may_be_dark : PySem.W.isFn K (.ref f17) = true)
    (l_Evidence_may_be_dark : K.lookup f17 = some ⟨oc17, od17, .func (PySem.W.fnOf "may_be_dark" "Evidence.may_be_dark" (defArgs st_Evidence_may_be_dark) (defBody st_Evidence_may_be_dark) (defScope st_Evidence_may_be_dark) .none kV17 dc17 pm17 an17 cd17 ct17), sl17⟩)
    (c_Evidence_may_be_dark : PySem.W.codeIn K cd17 "Evidence.may_be_dark" = true)
    (k_Evidence_may_be_dark : PySem.W.keepIn K (.ref f17) = true)
    (a_Evidence_told_apart : PySem.W.findIn K (.ref CE) "told_apart" = some (some (.ref f18)))
    (i_Evidence_told_apart : PySem.W.isFn K (.ref f18) = true)
    (l_Evidence_told_apart : K.lookup f18 = some ⟨oc18, od18, .func (PySem.W.fnOf "told_apart" "Evidence.told_apart" (defArgs st_Evidence_told_apart) (defBody st_Evidence_told_apart) (defScope st_Evidence_told_apart) .none kV18 dc18 pm18 an18 cd18 ct18), sl18⟩)
    (c_Evidence_told_apart : PySem.W.codeIn K cd18 "Evidence.told_apart" = true)
    (k_Evidence_told_apart : PySem.W.keepIn K (.ref f18) = true)
    (a_told_row : PySem.W.nsIn K mainGlobals "told_row" = some (some (.ref f19)))
    (l_told_row : K.lookup f19 = some ⟨oc19, od19, .func (PySem.W.fnOf "told_row" "told_row" (defArgs st_told_row) (defBody st_told_row) (defScope st_told_row) .none kV19 dc19 pm19 an19 cd19 ct19), sl19⟩)
    (c_told_row : PySem.W.codeIn K cd19 "told_row" = true)
    (k_told_row : PySem.W.keepIn K (.ref f19) = true)
    (a_Bench_init : PySem.W.findIn K (.ref CN) "__init__" = some (some (.ref f20)))
    (i_Bench_init : PySem.W.isFn K (.ref f20) = true)
    (l_Bench_init : K.lookup f20 = some ⟨oc20, od20, .func (PySem.W.fnOf "__init__" "Bench.__init__" (defArgs st_Bench_init) (defBody st_Bench_init) (defScope st_Bench_init) .none kV20 dc20 pm20 an20 cd20 ct20), sl20⟩)
    (c_Bench_init : PySem.W.codeIn K cd20 "Bench.__init__" = true)
    (k_Bench_init : PySem.W.keepIn K (.ref f20) = true)
    (a_Bench_now : PySem.W.findIn K (.ref CN) "now" = some (some (.ref f21)))
    (i_Bench_now : PySem.W.isFn K (.ref f21) = true)
    (l_Bench_now : K.lookup f21 = some ⟨oc21, od21, .func (PySem.W.fnOf "now" "Bench.now" (defArgs st_Bench_now) (defBody st_Bench_now) (defScope st_Bench_now) .none kV21 dc21 pm21 an21 cd21 ct21), sl21⟩)
    (c_Bench_now : PySem.W.codeIn K cd21 "Bench.now" = true)
    (k_Bench_now : PySem.W.keepIn K (.ref f21) = true)
    (a_Bench_set_sights : PySem.W.findIn K (.ref CN) "set_sights" = some (some (.ref f22)))
    (i_Bench_set_sights : PySem.W.isFn K (.ref f22) = true)
    (l_Bench_set_sights : K.lookup f22 = some ⟨oc22, od22, .func (PySem.W.fnOf "set_sights" "Bench.set_sights" (defArgs st_Bench_set_sights) (defBody st_Bench_set_sights) (defScope st_Bench_set_sights) .none kV22 dc22 pm22 an22 cd22 ct22), sl22⟩)
    (c_Bench_set_sights : PySem.W.codeIn K cd22 "Bench.set_sights" = true)
    (k_Bench_set_sights : PySem.W.keepIn K (.ref f22) = true)
    (a_Bench_sees : PySem.W.findIn K (.ref CN) "sees" = some (some (.ref f23)))
    (i_Bench_sees : PySem.W.isFn K (.ref f23) = true)
    (l_Bench_sees : K.lookup f23 = some ⟨oc23, od23, .func (PySem.W.fnOf "sees" "Bench.sees" (defArgs st_Bench_sees) (defBody st_Bench_sees) (defScope st_Bench_sees) .none kV23 dc23 pm23 an23 cd23 ct23), sl23⟩)
    (c_Bench_sees : PySem.W.codeIn K cd23 "Bench.sees" = true)
    (k_Bench_sees : PySem.W.keepIn K (.ref f23) = true)
    (a_Bench_undo : PySem.W.findIn K (.ref CN) "undo" = some (some (.ref f24)))
    (i_Bench_undo : PySem.W.isFn K (.ref f24) = true)
    (l_Bench_undo : K.lookup f24 = some ⟨oc24, od24, .func (PySem.W.fnOf "undo" "Bench.undo" (defArgs st_Bench_undo) (defBody st_Bench_undo) (defScope st_Bench_undo) .none kV24 dc24 pm24 an24 cd24 ct24), sl24⟩)
    (c_Bench_undo : PySem.W.codeIn K cd24 "Bench.undo" = true)
    (k_Bench_undo : PySem.W.keepIn K (.ref f24) = true)
    (a_Bench_kth : PySem.W.findIn K (.ref CN) "kth" = some (some (.ref f25)))
    (i_Bench_kth : PySem.W.isFn K (.ref f25) = true)
    (l_Bench_kth : K.lookup f25 = some ⟨oc25, od25, .func (PySem.W.fnOf "kth" "Bench.kth" (defArgs st_Bench_kth) (defBody st_Bench_kth) (defScope st_Bench_kth) .none kV25 dc25 pm25 an25 cd25 ct25), sl25⟩)
    (c_Bench_kth : PySem.W.codeIn K cd25 "Bench.kth" = true)
    (k_Bench_kth : PySem.W.keepIn K (.ref f25) = true)
    (a_Bench_may : PySem.W.findIn K (.ref CN) "may" = some (some (.ref f26)))
    (i_Bench_may : PySem.W.isFn K (.ref f26) = true)
    (l_Bench_may : K.lookup f26 = some ⟨oc26, od26, .func (PySem.W.fnOf "may" "Bench.may" (defArgs st_Bench_may) (defBody st_Bench_may) (defScope st_Bench_may) .none kV26 dc26 pm26 an26 cd26 ct26), sl26⟩)
    (c_Bench_may : PySem.W.codeIn K cd26 "Bench.may" = true)
    (k_Bench_may : PySem.W.keepIn K (.ref f26) = true)
    (a_Bench_likely : PySem.W.findIn K (.ref CN) "likely" = some (some (.ref f27)))
    (i_Bench_likely : PySem.W.isFn K (.ref f27) = true)
    (l_Bench_likely : K.lookup f27 = some ⟨oc27, od27, .func (PySem.W.fnOf "likely" "Bench.likely" (defArgs st_Bench_likely) (defBody st_Bench_likely) (defScope st_Bench_likely) .none kV27 dc27 pm27 an27 cd27 ct27), sl27⟩)
    (c_Bench_likely : PySem.W.codeIn K cd27 "Bench.likely" = true)
    (k_Bench_likely : PySem.W.keepIn K (.ref f27) = true)
    (a_Bench_guess : PySem.W.findIn K (.ref CN) "guess" = some (some (.ref f28)))
    (i_Bench_guess : PySem.W.isFn K (.ref f28) = true)
    (l_Bench_guess : K.lookup f28 = some ⟨oc28, od28, .func (PySem.W.fnOf "guess" "Bench.guess" (defArgs st_Bench_guess) (defBody st_Bench_guess) (defScope st_Bench_guess) .none kV28 dc28 pm28 an28 cd28 ct28), sl28⟩)
    (c_Bench_guess : PySem.W.codeIn K cd28 "Bench.guess" = true)
    (k_Bench_guess : PySem.W.keepIn K (.ref f28) = true)
    (a_Bench_stroke : PySem.W.findIn K (.ref CN) "stroke" = some (some (.ref f29)))
    (i_Bench_stroke : PySem.W.isFn K (.ref f29) = true)
    (l_Bench_stroke : K.lookup f29 = some ⟨oc29, od29, .func (PySem.W.fnOf "stroke" "Bench.stroke" (defArgs st_Bench_stroke) (defBody st_Bench_stroke) (defScope st_Bench_stroke) .none kV29 dc29 pm29 an29 cd29 ct29), sl29⟩)
    (c_Bench_stroke : PySem.W.codeIn K cd29 "Bench.stroke" = true)
    (k_Bench_stroke : PySem.W.keepIn K (.ref f29) = true)
    (a_Bench_sure : PySem.W.findIn K (.ref CN) "sure" = some (some (.ref f30)))
    (i_Bench_sure : PySem.W.isFn K (.ref f30) = true)
    (l_Bench_sure : K.lookup f30 = some ⟨oc30, od30, .func (PySem.W.fnOf "sure" "Bench.sure" (defArgs st_Bench_sure) (defBody st_Bench_sure) (defScope st_Bench_sure) .none kV30 dc30 pm30 an30 cd30 ct30), sl30⟩)
    (c_Bench_sure : PySem.W.codeIn K cd30 "Bench.sure" = true)
    (k_Bench_sure : PySem.W.keepIn K (.ref f30) = true)
    (a_Bench_show_next : PySem.W.findIn K (.ref CN) "show_next" = some (some (.ref f31)))
    (i_Bench_show_next : PySem.W.isFn K (.ref f31) = true)
    (l_Bench_show_next : K.lookup f31 = some ⟨oc31, od31, .func (PySem.W.fnOf "show_next" "Bench.show_next" (defArgs st_Bench_show_next) (defBody st_Bench_show_next) (defScope st_Bench_show_next) .none kV31 dc31 pm31 an31 cd31 ct31), sl31⟩)
    (c_Bench_show_next : PySem.W.codeIn K cd31 "Bench.show_next" = true)
    (k_Bench_show_next : PySem.W.keepIn K (.ref f31) = true)
    (a_Bench_apart : PySem.W.findIn K (.ref CN) "apart" = some (some (.ref f32)))
    (i_Bench_apart : PySem.W.isFn K (.ref f32) = true)
    (l_Bench_apart : K.lookup f32 = some ⟨oc32, od32, .func (PySem.W.fnOf "apart" "Bench.apart" (defArgs st_Bench_apart) (defBody st_Bench_apart) (defScope st_Bench_apart) .none kV32 dc32 pm32 an32 cd32 ct32), sl32⟩)
    (c_Bench_apart : PySem.W.codeIn K cd32 "Bench.apart" = true)
    (k_Bench_apart : PySem.W.keepIn K (.ref f32) = true)
    (a_Bench_shown : PySem.W.findIn K (.ref CN) "shown" = some (some (.ref f33)))
    (i_Bench_shown : PySem.W.isFn K (.ref f33) = true)
    (l_Bench_shown : K.lookup f33 = some ⟨oc33, od33, .func (PySem.W.fnOf "shown" "Bench.shown" (defArgs st_Bench_shown) (defBody st_Bench_shown) (defScope st_Bench_shown) .none kV33 dc33 pm33 an33 cd33 ct33), sl33⟩)
    (c_Bench_shown : PySem.W.codeIn K cd33 "Bench.shown" = true)
    (k_Bench_shown : PySem.W.keepIn K (.ref f33) = true)
    (a_Bench_state : PySem.W.findIn K (.ref CN) "state" = some (some (.ref f34)))
    (i_Bench_state : PySem.W.isFn K (.ref f34) = true)
    (l_Bench_state : K.lookup f34 = some ⟨oc34, od34, .func (PySem.W.fnOf "state" "Bench.state" (defArgs st_Bench_state) (defBody st_Bench_state) (defScope st_Bench_state) .none kV34 dc34 pm34 an34 cd34 ct34), sl34⟩)
    (c_Bench_state : PySem.W.codeIn K cd34 "Bench.state" = true)
    (k_Bench_state : PySem.W.keepIn K (.ref f34) = true)
    (a_call_size : PySem.W.nsIn K mainGlobals "call_size" = some (some (.ref f35)))
    (l_call_size : K.lookup f35 = some ⟨oc35, od35, .func (PySem.W.fnOf "call_size" "call_size" (defArgs st_call_size) (defBody st_call_size) (defScope st_call_size) .none kV35 dc35 pm35 an35 cd35 ct35), sl35⟩)
    (c_call_size : PySem.W.codeIn K cd35 "call_size" = true)
    (k_call_size : PySem.W.keepIn K (.ref f35) = true)
    (a_ask : PySem.W.nsIn K mainGlobals "ask" = some (some (.ref f36)))
    (l_ask : K.lookup f36 = some ⟨oc36, od36, .func (PySem.W.fnOf "ask" "ask" (defArgs st_ask) (defBody st_ask) (defScope st_ask) .none kV36 dc36 pm36 an36 cd36 ct36), sl36⟩)
    (c_ask : PySem.W.codeIn K cd36 "ask" = true)
    (k_ask : PySem.W.keepIn K (.ref f36) = true)
    (a_answers : PySem.W.nsIn K mainGlobals "answers" = some (some (.ref f37)))
    (l_answers : K.lookup f37 = some ⟨oc37, od37, .func (PySem.W.fnOf "answers" "answers" (defArgs st_answers) (defBody st_answers) (defScope st_answers) .none kV37 dc37 pm37 an37 cd37 ct37), sl37⟩)
    (c_answers : PySem.W.codeIn K cd37 "answers" = true)
    (k_answers : PySem.W.keepIn K (.ref f37) = true)
    (pgS : PySem.W.plainGet K CS Str.empty = true)
    (hdS : PySem.W.hasDictIn K CS = true)
    (poS : PySem.W.plainOver K CS = true)
    (saS : PySem.W.findIn K (.ref CS) "__setattr__" = some (some (.builtin "object.__setattr__")))
    (mkS : PySem.W.makesIn K CS = true)
    (kcS : PySem.W.keepIn K (.ref CS) = true)
    (naS_time : PySem.W.findIn K (.ref CS) "time" = some none)
    (naS_lit : PySem.W.findIn K (.ref CS) "lit" = some none)
    (pgB : PySem.W.plainGet K CB Str.empty = true)
    (hdB : PySem.W.hasDictIn K CB = true)
    (poB : PySem.W.plainOver K CB = true)
    (saB : PySem.W.findIn K (.ref CB) "__setattr__" = some (some (.builtin "object.__setattr__")))
    (mkB : PySem.W.makesIn K CB = true)
    (kcB : PySem.W.keepIn K (.ref CB) = true)
    (naB_number : PySem.W.findIn K (.ref CB) "number" = some none)
    (naB_works : PySem.W.findIn K (.ref CB) "works" = some none)
    (pgE : PySem.W.plainGet K CE Str.empty = true)
    (hdE : PySem.W.hasDictIn K CE = true)
    (poE : PySem.W.plainOver K CE = true)
    (saE : PySem.W.findIn K (.ref CE) "__setattr__" = some (some (.builtin "object.__setattr__")))
    (mkE : PySem.W.makesIn K CE = true)
    (kcE : PySem.W.keepIn K (.ref CE) = true)
    (naE_digits : PySem.W.findIn K (.ref CE) "digits" = some none)
    (naE_dark : PySem.W.findIn K (.ref CE) "dark" = some none)
    (naE_lit : PySem.W.findIn K (.ref CE) "lit" = some none)
    (naE_beginnings : PySem.W.findIn K (.ref CE) "beginnings" = some none)
    (pgN : PySem.W.plainGet K CN Str.empty = true)
    (hdN : PySem.W.hasDictIn K CN = true)
    (poN : PySem.W.plainOver K CN = true)
    (saN : PySem.W.findIn K (.ref CN) "__setattr__" = some (some (.builtin "object.__setattr__")))
    (mkN : PySem.W.makesIn K CN = true)
    (kcN : PySem.W.keepIn K (.ref CN) = true)
    (naN_digits : PySem.W.findIn K (.ref CN) "digits" = some none)
    (naN_sights : PySem.W.findIn K (.ref CN) "sights" = some none)
    (naN_evidence : PySem.W.findIn K (.ref CN) "evidence" = some none)
    (vSh : Vals (vN Sy69.DIGITS) itsSh.toList) (zSh : itsSh.size ≤ sizeLine) (vCz : Vals (vN sizes) itsCz.toList) (zCz : itsCz.size ≤ sizeLine) :
    ∃ fd : FuncData, (∀ (s : Shared) (us : List Value), us.length = (["calls"] : List Str).length → BindsTo s fd ⟨us, []⟩ ((["calls"] : List Str).zip us)) ∧ ∀ base : Heap, K.In base → base.Ns mainGlobals mg → FnOk P w K mg base CX0 8 fa fd ["calls"] (spAnswers K) := by
  have e := hfa.symm.trans (PySem.W.mg_of X G a_answers)
  cases e
  have T : Txt K mg ⟨CS, CB, CE, CN, CSh, CCz⟩ := ⟨⟨pgS, hdS, poS, saS⟩, ⟨pgB, hdB, poB, saB⟩, ⟨pgE, hdE, poE, saE⟩, ⟨pgN, hdN, poN, saN⟩, naS_time, naS_lit, naB_number, naB_works, naE_digits, naE_dark, naE_lit, naE_beginnings, naN_digits, naN_sights, naN_evidence, ⟨_, PySem.W.mg_of X G gSTROKES⟩, ⟨_, PySem.W.mg_of X G gALL⟩, ⟨_, PySem.W.mg_of X G gBAD_NUMBER⟩, ⟨_, PySem.W.mg_of X G gNOT_THERE⟩, ⟨_, PySem.W.mg_of X G gNO_SIGHT⟩, ⟨_, PySem.W.mg_of X G gNO_ROOM⟩, ⟨_, PySem.W.mg_of X G gNO_EXPLANATION⟩, ⟨_, PySem.W.mg_of X G gDIGITS_AT_MOST⟩, ⟨_, PySem.W.mg_of X G gSECONDS_AT_MOST⟩, ⟨_, PySem.W.mg_of X G gSIGHTS_AT_MOST⟩, ⟨_, PySem.W.mg_of X G gBEGINS⟩, ⟨_, PySem.W.mg_of X G gSEES⟩, ⟨_, PySem.W.mg_of X G gUNDO⟩, ⟨_, PySem.W.mg_of X G gMAY⟩, ⟨_, PySem.W.mg_of X G gLIKELY⟩, ⟨_, PySem.W.mg_of X G gGUESS⟩, ⟨_, PySem.W.mg_of X G gSTROKE⟩, ⟨_, PySem.W.mg_of X G gSURE⟩, ⟨_, PySem.W.mg_of X G gNEXT⟩, ⟨_, PySem.W.mg_of X G gAPART⟩, ⟨_, PySem.W.mg_of X G gSHOWN⟩, PySem.W.mg_of X G gSHOULD, PySem.W.mg_of X G gCALL_SIZES, fun H => .inr ⟨_, itsSh, nnSh, lSHOULD, rfl, rfl, zSh, vSh⟩, fun H => .inr ⟨_, itsCz, nnCz, lCALL_SIZES, rfl, rfl, zCz, vCz⟩, PySem.W.mg_none_of X G zlen, PySem.W.mg_none_of X G zrange, PySem.W.mg_none_of X G zsum, PySem.W.mg_none_of X G zmin, PySem.W.mg_none_of X G zmax, PySem.W.mg_none_of X G zall, PySem.W.mg_none_of X G zany⟩
  have F0 := fun_mk (st := st_count_of) l_count_of c_count_of k_count_of
  have b0 := F0.binds (ps := ["strokes"]) fun _ _ _ _ _ _ us hl => match us, hl with | [_], _ => rfl
  have F1 := fun_mk (st := st_count_of_all) l_count_of_all c_count_of_all k_count_of_all
  have b1 := F1.binds (ps := ["places"]) fun _ _ _ _ _ _ us hl => match us, hl with | [_], _ => rfl
  have F2 := fun_mk (st := st_numbers_of) l_numbers_of c_numbers_of k_numbers_of
  have b2 := F2.binds (ps := ["digits"]) fun _ _ _ _ _ _ us hl => match us, hl with | [_], _ => rfl
  have F3 := fun_mk (st := st_should_light) l_should_light c_should_light k_should_light
  have b3 := F3.binds (ps := ["number", "digits"]) fun _ _ _ _ _ _ us hl => match us, hl with | [_, _], _ => rfl
  have F4 := fun_mk (st := st_Sight_init) l_Sight_init c_Sight_init k_Sight_init
  have b4 := F4.binds (ps := ["self", "time", "lit"]) fun _ _ _ _ _ _ us hl => match us, hl with | [_, _, _], _ => rfl
  have F5 := fun_mk (st := st_Beginning_init) l_Beginning_init c_Beginning_init k_Beginning_init
  have b5 := F5.binds (ps := ["self", "number", "works"]) fun _ _ _ _ _ _ us hl => match us, hl with | [_, _, _], _ => rfl
  have F6 := fun_mk (st := st_Beginning_broken) l_Beginning_broken c_Beginning_broken k_Beginning_broken
  have b6 := F6.binds (ps := ["self"]) fun _ _ _ _ _ _ us hl => match us, hl with | [_], _ => rfl
  have F7 := fun_mk (st := st_working) l_working c_working k_working
  have b7 := F7.binds (ps := ["number", "digits", "sights"]) fun _ _ _ _ _ _ us hl => match us, hl with | [_, _, _], _ => rfl
  have F8 := fun_mk (st := st_Evidence_init) l_Evidence_init c_Evidence_init k_Evidence_init
  have b8 := F8.binds (ps := ["self", "digits", "sights"]) fun _ _ _ _ _ _ us hl => match us, hl with | [_, _, _], _ => rfl
  have F9 := fun_mk (st := st_Evidence_explains) l_Evidence_explains c_Evidence_explains k_Evidence_explains
  have b9 := F9.binds (ps := ["self", "works"]) fun _ _ _ _ _ _ us hl => match us, hl with | [_, _], _ => rfl
  have F10 := fun_mk (st := st_Evidence_beginning) l_Evidence_beginning c_Evidence_beginning k_Evidence_beginning
  have b10 := F10.binds (ps := ["self", "number"]) fun _ _ _ _ _ _ us hl => match us, hl with | [_, _], _ => rfl
  have F11 := fun_mk (st := st_Evidence_least_broken) l_Evidence_least_broken c_Evidence_least_broken k_Evidence_least_broken
  have b11 := F11.binds (ps := ["self"]) fun _ _ _ _ _ _ us hl => match us, hl with | [_], _ => rfl
  have F12 := fun_mk (st := st_Evidence_likely) l_Evidence_likely c_Evidence_likely k_Evidence_likely
  have b12 := F12.binds (ps := ["self"]) fun _ _ _ _ _ _ us hl => match us, hl with | [_], _ => rfl
  have F13 := fun_mk (st := st_Evidence_states_of) l_Evidence_states_of c_Evidence_states_of k_Evidence_states_of
  have b13 := F13.binds (ps := ["self", "place", "stroke"]) fun _ _ _ _ _ _ us hl => match us, hl with | [_, _, _], _ => rfl
  have F14 := fun_mk (st := st_Evidence_surely_broken) l_Evidence_surely_broken c_Evidence_surely_broken k_Evidence_surely_broken
  have b14 := F14.binds (ps := ["self"]) fun _ _ _ _ _ _ us hl => match us, hl with | [_], _ => rfl
  have F15 := fun_mk (st := st_Evidence_surely_working) l_Evidence_surely_working c_Evidence_surely_working k_Evidence_surely_working
  have b15 := F15.binds (ps := ["self"]) fun _ _ _ _ _ _ us hl => match us, hl with | [_], _ => rfl
  have F16 := fun_mk (st := st_Evidence_may_light) l_Evidence_may_light c_Evidence_may_light k_Evidence_may_light
  have b16 := F16.binds (ps := ["self", "beginning", "time"]) fun _ _ _ _ _ _ us hl => match us, hl with | [_, _, _], _ => rfl
  have F17 := fun_mk (st := st_Evidence_may_be_dark) l_Evidence_may_be_dark c_Evidence_may_be_dark k_Evidence_may_be_dark
  have b17 := F17.binds (ps := ["self", "beginning", "time"]) fun _ _ _ _ _ _ us hl => match us, hl with | [_, _, _], _ => rfl
  have F18 := fun_mk (st := st_Evidence_told_apart) l_Evidence_told_apart c_Evidence_told_apart k_Evidence_told_apart
  have b18 := F18.binds (ps := ["self", "first", "second", "time"]) fun _ _ _ _ _ _ us hl => match us, hl with | [_, _, _, _], _ => rfl
  have F19 := fun_mk (st := st_told_row) l_told_row c_told_row k_told_row
  have b19 := F19.binds (ps := ["row"]) fun _ _ _ _ _ _ us hl => match us, hl with | [_], _ => rfl
  have F20 := fun_mk (st := st_Bench_init) l_Bench_init c_Bench_init k_Bench_init
  have b20 := F20.binds (ps := ["self", "digits"]) fun _ _ _ _ _ _ us hl => match us, hl with | [_, _], _ => rfl
  have F21 := fun_mk (st := st_Bench_now) l_Bench_now c_Bench_now k_Bench_now
  have b21 := F21.binds (ps := ["self"]) fun _ _ _ _ _ _ us hl => match us, hl with | [_], _ => rfl
  have F22 := fun_mk (st := st_Bench_set_sights) l_Bench_set_sights c_Bench_set_sights k_Bench_set_sights
  have b22 := F22.binds (ps := ["self", "sights"]) fun _ _ _ _ _ _ us hl => match us, hl with | [_, _], _ => rfl
  have F23 := fun_mk (st := st_Bench_sees) l_Bench_sees c_Bench_sees k_Bench_sees
  have b23 := F23.binds (ps := ["self", "seconds", "lit"]) fun _ _ _ _ _ _ us hl => match us, hl with | [_, _, _], _ => rfl
  have F24 := fun_mk (st := st_Bench_undo) l_Bench_undo c_Bench_undo k_Bench_undo
  have b24 := F24.binds (ps := ["self"]) fun _ _ _ _ _ _ us hl => match us, hl with | [_], _ => rfl
  have F25 := fun_mk (st := st_Bench_kth) l_Bench_kth c_Bench_kth k_Bench_kth
  have b25 := F25.binds (ps := ["self", "beginnings", "k"]) fun _ _ _ _ _ _ us hl => match us, hl with | [_, _, _], _ => rfl
  have F26 := fun_mk (st := st_Bench_may) l_Bench_may c_Bench_may k_Bench_may
  have b26 := F26.binds (ps := ["self", "k"]) fun _ _ _ _ _ _ us hl => match us, hl with | [_, _], _ => rfl
  have F27 := fun_mk (st := st_Bench_likely) l_Bench_likely c_Bench_likely k_Bench_likely
  have b27 := F27.binds (ps := ["self", "k"]) fun _ _ _ _ _ _ us hl => match us, hl with | [_, _], _ => rfl
  have F28 := fun_mk (st := st_Bench_guess) l_Bench_guess c_Bench_guess k_Bench_guess
  have b28 := F28.binds (ps := ["self", "number"]) fun _ _ _ _ _ _ us hl => match us, hl with | [_, _], _ => rfl
  have F29 := fun_mk (st := st_Bench_stroke) l_Bench_stroke c_Bench_stroke k_Bench_stroke
  have b29 := F29.binds (ps := ["self", "place", "stroke"]) fun _ _ _ _ _ _ us hl => match us, hl with | [_, _, _], _ => rfl
  have F30 := fun_mk (st := st_Bench_sure) l_Bench_sure c_Bench_sure k_Bench_sure
  have b30 := F30.binds (ps := ["self"]) fun _ _ _ _ _ _ us hl => match us, hl with | [_], _ => rfl
  have F31 := fun_mk (st := st_Bench_show_next) l_Bench_show_next c_Bench_show_next k_Bench_show_next
  have b31 := F31.binds (ps := ["self", "seconds"]) fun _ _ _ _ _ _ us hl => match us, hl with | [_, _], _ => rfl
  have F32 := fun_mk (st := st_Bench_apart) l_Bench_apart c_Bench_apart k_Bench_apart
  have b32 := F32.binds (ps := ["self", "number", "other", "seconds"]) fun _ _ _ _ _ _ us hl => match us, hl with | [_, _, _, _], _ => rfl
  have F33 := fun_mk (st := st_Bench_shown) l_Bench_shown c_Bench_shown k_Bench_shown
  have b33 := F33.binds (ps := ["self", "number", "seconds"]) fun _ _ _ _ _ _ us hl => match us, hl with | [_, _, _], _ => rfl
  have F34 := fun_mk (st := st_Bench_state) l_Bench_state c_Bench_state k_Bench_state
  have b34 := F34.binds (ps := ["self"]) fun _ _ _ _ _ _ us hl => match us, hl with | [_], _ => rfl
  have F35 := fun_mk (st := st_call_size) l_call_size c_call_size k_call_size
  have b35 := F35.binds (ps := ["calls", "at"]) fun _ _ _ _ _ _ us hl => match us, hl with | [_, _], _ => rfl
  have F36 := fun_mk (st := st_ask) l_ask c_ask k_ask
  have b36 := F36.binds (ps := ["bench", "call"]) fun _ _ _ _ _ _ us hl => match us, hl with | [_, _], _ => rfl
  have F37 := fun_mk (st := st_answers) l_answers c_answers k_answers
  have b37 := F37.binds (ps := ["calls"]) fun _ _ _ _ _ _ us hl => match us, hl with | [_], _ => rfl
  refine ⟨PySem.W.fnOf "answers" "answers" (defArgs st_answers) (defBody st_answers) (defScope st_answers) .none kV37 dc37 pm37 an37 cd37 ct37, fun s us hu => match us, hu with | [_], _ => .of_eq rfl, fun base KB GB => ?_⟩
  have o_count_of := ok_count_of (P := P) (w := w) (base := base) F0 T
  have u_count_of := callee_of o_count_of F0 (PySem.W.mg_of X G a_count_of) b0
  have o_count_of_all := ok_count_of_all (P := P) (w := w) (base := base) F1 T u_count_of
  have u_count_of_all := callee_of o_count_of_all F1 (PySem.W.mg_of X G a_count_of_all) b1
  have o_numbers_of := ok_numbers_of (P := P) (w := w) (base := base) F2 T
  have u_numbers_of := callee_of o_numbers_of F2 (PySem.W.mg_of X G a_numbers_of) b2
  have o_should_light := ok_should_light (P := P) (w := w) (base := base) F3 T
  have u_should_light := callee_of o_should_light F3 (PySem.W.mg_of X G a_should_light) b3
  have o_Sight_init := ok_Sight_init (P := P) (w := w) (base := base) F4 T
  have u_Sight_init := make_of o_Sight_init (PySem.W.mg_of X G aS) a_Sight_init i_Sight_init mkS kcS b4
  have o_Beginning_init := ok_Beginning_init (P := P) (w := w) (base := base) F5 T
  have u_Beginning_init := make_of o_Beginning_init (PySem.W.mg_of X G aB) a_Beginning_init i_Beginning_init mkB kcB b5
  have o_Beginning_broken := ok_Beginning_broken (P := P) (w := w) (base := base) F6 T
  have u_Beginning_broken := meth_of o_Beginning_broken a_Beginning_broken i_Beginning_broken k_Beginning_broken b6
  have o_working := ok_working (P := P) (w := w) (base := base) F7 T u_numbers_of u_should_light
  have u_working := callee_of o_working F7 (PySem.W.mg_of X G a_working) b7
  have o_Evidence_explains := ok_Evidence_explains (P := P) (w := w) (base := base) F9 T
  have u_Evidence_explains := meth_of o_Evidence_explains a_Evidence_explains i_Evidence_explains k_Evidence_explains b9
  have o_Evidence_init := ok_Evidence_init (P := P) (w := w) (base := base) F8 T u_numbers_of u_working u_Evidence_explains u_Beginning_init
  have u_Evidence_init := make_of o_Evidence_init (PySem.W.mg_of X G aE) a_Evidence_init i_Evidence_init mkE kcE b8
  have o_Evidence_beginning := ok_Evidence_beginning (P := P) (w := w) (base := base) F10 T
  have u_Evidence_beginning := meth_of o_Evidence_beginning a_Evidence_beginning i_Evidence_beginning k_Evidence_beginning b10
  have o_Evidence_least_broken := ok_Evidence_least_broken (P := P) (w := w) (base := base) F11 T u_count_of_all u_Beginning_broken
  have u_Evidence_least_broken := meth_of o_Evidence_least_broken a_Evidence_least_broken i_Evidence_least_broken k_Evidence_least_broken b11
  have o_Evidence_likely := ok_Evidence_likely (P := P) (w := w) (base := base) F12 T u_count_of_all u_Beginning_broken u_Evidence_least_broken
  have u_Evidence_likely := meth_of o_Evidence_likely a_Evidence_likely i_Evidence_likely k_Evidence_likely b12
  have o_Evidence_states_of := ok_Evidence_states_of (P := P) (w := w) (base := base) F13 T
  have u_Evidence_states_of := meth_of o_Evidence_states_of a_Evidence_states_of i_Evidence_states_of k_Evidence_states_of b13
  have o_Evidence_surely_broken := ok_Evidence_surely_broken (P := P) (w := w) (base := base) F14 T
  have u_Evidence_surely_broken := meth_of o_Evidence_surely_broken a_Evidence_surely_broken i_Evidence_surely_broken k_Evidence_surely_broken b14
  have o_Evidence_surely_working := ok_Evidence_surely_working (P := P) (w := w) (base := base) F15 T
  have u_Evidence_surely_working := meth_of o_Evidence_surely_working a_Evidence_surely_working i_Evidence_surely_working k_Evidence_surely_working b15
  have o_Evidence_may_light := ok_Evidence_may_light (P := P) (w := w) (base := base) F16 T u_numbers_of u_should_light
  have u_Evidence_may_light := meth_of o_Evidence_may_light a_Evidence_may_light i_Evidence_may_light k_Evidence_may_light b16
  have o_Evidence_may_be_dark := ok_Evidence_may_be_dark (P := P) (w := w) (base := base) F17 T u_numbers_of u_should_light
  have u_Evidence_may_be_dark := meth_of o_Evidence_may_be_dark a_Evidence_may_be_dark i_Evidence_may_be_dark k_Evidence_may_be_dark b17
  have o_Evidence_told_apart := ok_Evidence_told_apart (P := P) (w := w) (base := base) F18 T u_Evidence_may_light u_Evidence_may_be_dark
  have u_Evidence_told_apart := meth_of o_Evidence_told_apart a_Evidence_told_apart i_Evidence_told_apart k_Evidence_told_apart b18
  have o_told_row := ok_told_row (P := P) (w := w) (base := base) F19 T
  have u_told_row := callee_of o_told_row F19 (PySem.W.mg_of X G a_told_row) b19
  have o_Bench_init := ok_Bench_init (P := P) (w := w) (base := base) F20 T u_Evidence_init
  have u_Bench_init := make_of (frame o_Bench_init) (PySem.W.mg_of X G aN) a_Bench_init i_Bench_init mkN kcN b20
  have o_Bench_now := ok_Bench_now (P := P) (w := w) (base := base) F21 T
  have u_Bench_now := meth_of o_Bench_now a_Bench_now i_Bench_now k_Bench_now b21
  have o_Bench_set_sights := ok_Bench_set_sights (P := P) (w := w) (base := base) F22 T u_Evidence_init
  have u_Bench_set_sights := meth_of o_Bench_set_sights a_Bench_set_sights i_Bench_set_sights k_Bench_set_sights b22
  have o_Bench_sees := ok_Bench_sees (P := P) (w := w) (base := base) F23 T u_Sight_init u_Bench_now u_Bench_set_sights
  have u_Bench_sees := meth_of o_Bench_sees a_Bench_sees i_Bench_sees k_Bench_sees b23
  have o_Bench_undo := ok_Bench_undo (P := P) (w := w) (base := base) F24 T u_Bench_set_sights
  have u_Bench_undo := meth_of o_Bench_undo a_Bench_undo i_Bench_undo k_Bench_undo b24
  have o_Bench_kth := ok_Bench_kth (P := P) (w := w) (base := base) F25 T
  have u_Bench_kth := meth_of o_Bench_kth a_Bench_kth i_Bench_kth k_Bench_kth b25
  have o_Bench_may := ok_Bench_may (P := P) (w := w) (base := base) F26 T u_told_row u_Bench_kth
  have u_Bench_may := meth_of o_Bench_may a_Bench_may i_Bench_may k_Bench_may b26
  have o_Bench_likely := ok_Bench_likely (P := P) (w := w) (base := base) F27 T u_told_row u_Bench_kth u_Evidence_likely u_Evidence_least_broken
  have u_Bench_likely := meth_of o_Bench_likely a_Bench_likely i_Bench_likely k_Bench_likely b27
  have o_Bench_guess := ok_Bench_guess (P := P) (w := w) (base := base) F28 T u_numbers_of u_count_of_all u_told_row u_Evidence_beginning u_Beginning_broken
  have u_Bench_guess := meth_of o_Bench_guess a_Bench_guess i_Bench_guess k_Bench_guess b28
  have o_Bench_stroke := ok_Bench_stroke (P := P) (w := w) (base := base) F29 T u_told_row u_Evidence_states_of
  have u_Bench_stroke := meth_of o_Bench_stroke a_Bench_stroke i_Bench_stroke k_Bench_stroke b29
  have o_Bench_sure := ok_Bench_sure (P := P) (w := w) (base := base) F30 T u_count_of_all u_told_row u_Evidence_surely_broken u_Evidence_surely_working
  have u_Bench_sure := meth_of o_Bench_sure a_Bench_sure i_Bench_sure k_Bench_sure b30
  have o_Bench_show_next := ok_Bench_show_next (P := P) (w := w) (base := base) F31 T u_count_of_all u_told_row u_Bench_now u_Evidence_may_light u_Evidence_may_be_dark
  have u_Bench_show_next := meth_of o_Bench_show_next a_Bench_show_next i_Bench_show_next k_Bench_show_next b31
  have o_Bench_apart := ok_Bench_apart (P := P) (w := w) (base := base) F32 T u_numbers_of u_Bench_now u_Evidence_beginning u_Evidence_told_apart
  have u_Bench_apart := meth_of o_Bench_apart a_Bench_apart i_Bench_apart k_Bench_apart b32
  have o_Bench_shown := ok_Bench_shown (P := P) (w := w) (base := base) F33 T u_numbers_of u_should_light u_told_row u_Bench_now
  have u_Bench_shown := meth_of o_Bench_shown a_Bench_shown i_Bench_shown k_Bench_shown b33
  have o_Bench_state := ok_Bench_state (P := P) (w := w) (base := base) F34 T u_told_row u_Bench_now
  have u_Bench_state := meth_of o_Bench_state a_Bench_state i_Bench_state k_Bench_state b34
  have o_call_size := ok_call_size (P := P) (w := w) (base := base) F35 T
  have u_call_size := callee_of o_call_size F35 (PySem.W.mg_of X G a_call_size) b35
  have o_ask := ok_ask (P := P) (w := w) (base := base) F36 T u_Bench_sees u_Bench_undo u_Bench_may u_Bench_likely u_Bench_guess u_Bench_stroke u_Bench_sure u_Bench_show_next u_Bench_apart u_Bench_shown u_Bench_state
  have u_ask := callee_of (frame o_ask) F36 (PySem.W.mg_of X G a_ask) b36
  exact ok_answers F37 T u_Bench_init u_call_size u_ask u_numbers_of
end Bs
open PySem PySem.W PyProof.Rows
set_option maxRecDepth 100000 in
set_option maxHeartbeats 8000000 in
theorem PySem.Challenge.cw_brokenstrokes_s01_answers_holds : PySem.Challenge.rw_brokenstrokes_s01_answers.Holds := by
  w_on; k_headS; (case hw => exact ⟨[.list [.int 11]], by decide +kernel, by decide +kernel⟩)
  k_fillS
  refine L2.walk_specK (r := PySem.Challenge.rw_brokenstrokes_s01_answers) (k := 8) (CX := L2.CX0) (ps := ["calls"]) (sp := Bs.spAnswers) (by decide +kernel) rfl rfl ⟨rfl, by decide, by decide⟩ (fun w h Y => PySem.W.kIn_of Y) ?F ?S (fun _ _ _ _ z => z)
  case F =>
    intro w mg fa h Y KX G hmg
    refine' Bs.all_mk KX G hmg ?aS ?aB ?aE ?aN ?gSTROKES ?gALL ?gBAD_NUMBER ?gNOT_THERE ?gNO_SIGHT ?gNO_ROOM ?gNO_EXPLANATION ?gDIGITS_AT_MOST ?gSECONDS_AT_MOST ?gSIGHTS_AT_MOST ?gBEGINS ?gSEES ?gUNDO ?gMAY ?gLIKELY ?gGUESS ?gSTROKE ?gSURE ?gNEXT ?gAPART ?gSHOWN ?gSHOULD ?lSHOULD ?gCALL_SIZES ?lCALL_SIZES ?zlen ?zrange ?zsum ?zmin ?zmax ?zall ?zany ?a_count_of ?l_count_of ?c_count_of ?k_count_of ?a_count_of_all ?l_count_of_all ?c_count_of_all ?k_count_of_all ?a_numbers_of ?l_numbers_of ?c_numbers_of ?k_numbers_of ?a_should_light ?l_should_light ?c_should_light ?k_should_light ?a_Sight_init ?i_Sight_init ?l_Sight_init ?c_Sight_init ?k_Sight_init ?a_Beginning_init ?i_Beginning_init ?l_Beginning_init ?c_Beginning_init ?k_Beginning_init ?a_Beginning_broken ?i_Beginning_broken ?l_Beginning_broken ?c_Beginning_broken ?k_Beginning_broken ?a_working ?l_working ?c_working ?k_working ?a_Evidence_init ?i_Evidence_init ?l_Evidence_init ?c_Evidence_init ?k_Evidence_init ?a_Evidence_explains ?i_Evidence_explains ?l_Evidence_explains ?c_Evidence_explains ?k_Evidence_explains ?a_Evidence_beginning ?i_Evidence_beginning ?l_Evidence_beginning ?c_Evidence_beginning ?k_Evidence_beginning ?a_Evidence_least_broken ?i_Evidence_least_broken ?l_Evidence_least_broken ?c_Evidence_least_broken ?k_Evidence_least_broken ?a_Evidence_likely ?i_Evidence_likely ?l_Evidence_likely ?c_Evidence_likely ?k_Evidence_likely ?a_Evidence_states_of ?i_Evidence_states_of ?l_Evidence_states_of ?c_Evidence_states_of ?k_Evidence_states_of ?a_Evidence_surely_broken ?i_Evidence_surely_broken ?l_Evidence_surely_broken ?c_Evidence_surely_broken ?k_Evidence_surely_broken ?a_Evidence_surely_working ?i_Evidence_surely_working ?l_Evidence_surely_working ?c_Evidence_surely_working ?k_Evidence_surely_working ?a_Evidence_may_light ?i_Evidence_may_light ?l_Evidence_may_light ?c_Evidence_may_light ?k_Evidence_may_light ?a_Evidence_may_be_dark ?i_Evidence_may_be_dark ?l_Evidence_may_be_dark ?c_Evidence_may_be_dark ?k_Evidence_may_be_dark ?a_Evidence_told_apart ?i_Evidence_told_apart ?l_Evidence_told_apart ?c_Evidence_told_apart ?k_Evidence_told_apart ?a_told_row ?l_told_row ?c_told_row ?k_told_row ?a_Bench_init ?i_Bench_init ?l_Bench_init ?c_Bench_init ?k_Bench_init ?a_Bench_now ?i_Bench_now ?l_Bench_now ?c_Bench_now ?k_Bench_now ?a_Bench_set_sights ?i_Bench_set_sights ?l_Bench_set_sights ?c_Bench_set_sights ?k_Bench_set_sights ?a_Bench_sees ?i_Bench_sees ?l_Bench_sees ?c_Bench_sees ?k_Bench_sees ?a_Bench_undo ?i_Bench_undo ?l_Bench_undo ?c_Bench_undo ?k_Bench_undo ?a_Bench_kth ?i_Bench_kth ?l_Bench_kth ?c_Bench_kth ?k_Bench_kth ?a_Bench_may ?i_Bench_may ?l_Bench_may ?c_Bench_may ?k_Bench_may ?a_Bench_likely ?i_Bench_likely ?l_Bench_likely ?c_Bench_likely ?k_Bench_likely ?a_Bench_guess ?i_Bench_guess ?l_Bench_guess ?c_Bench_guess ?k_Bench_guess ?a_Bench_stroke ?i_Bench_stroke ?l_Bench_stroke ?c_Bench_stroke ?k_Bench_stroke ?a_Bench_sure ?i_Bench_sure ?l_Bench_sure ?c_Bench_sure ?k_Bench_sure ?a_Bench_show_next ?i_Bench_show_next ?l_Bench_show_next ?c_Bench_show_next ?k_Bench_show_next ?a_Bench_apart ?i_Bench_apart ?l_Bench_apart ?c_Bench_apart ?k_Bench_apart ?a_Bench_shown ?i_Bench_shown ?l_Bench_shown ?c_Bench_shown ?k_Bench_shown ?a_Bench_state ?i_Bench_state ?l_Bench_state ?c_Bench_state ?k_Bench_state ?a_call_size ?l_call_size ?c_call_size ?k_call_size ?a_ask ?l_ask ?c_ask ?k_ask ?a_answers ?l_answers ?c_answers ?k_answers ?pgS ?hdS ?poS ?saS ?mkS ?kcS ?naS_time ?naS_lit ?pgB ?hdB ?poB ?saB ?mkB ?kcB ?naB_number ?naB_works ?pgE ?hdE ?poE ?saE ?mkE ?kcE ?naE_digits ?naE_dark ?naE_lit ?naE_beginnings ?pgN ?hdN ?poN ?saN ?mkN ?kcN ?naN_digits ?naN_sights ?naN_evidence ?vSh ?zSh ?vCz ?zCz
    (case aS => k_is)
    (case aB => k_is)
    (case aE => k_is)
    (case aN => k_is)
    (case gSTROKES => k_is)
    (case gALL => k_is)
    (case gBAD_NUMBER => k_is)
    (case gNOT_THERE => k_is)
    (case gNO_SIGHT => k_is)
    (case gNO_ROOM => k_is)
    (case gNO_EXPLANATION => k_is)
    (case gDIGITS_AT_MOST => k_is)
    (case gSECONDS_AT_MOST => k_is)
    (case gSIGHTS_AT_MOST => k_is)
    (case gBEGINS => k_is)
    (case gSEES => k_is)
    (case gUNDO => k_is)
    (case gMAY => k_is)
    (case gLIKELY => k_is)
    (case gGUESS => k_is)
    (case gSTROKE => k_is)
    (case gSURE => k_is)
    (case gNEXT => k_is)
    (case gAPART => k_is)
    (case gSHOWN => k_is)
    (case gSHOULD => k_is)
    (case lSHOULD => k_is)
    (case gCALL_SIZES => k_is)
    (case lCALL_SIZES => k_is)
    (case zlen => k_is)
    (case zrange => k_is)
    (case zsum => k_is)
    (case zmin => k_is)
    (case zmax => k_is)
    (case zall => k_is)
    (case zany => k_is)
    (case a_count_of => k_is)
    (case l_count_of => k_is)
    (case c_count_of => k_is)
    (case k_count_of => k_is)
    (case a_count_of_all => k_is)
    (case l_count_of_all => k_is)
    (case c_count_of_all => k_is)
    (case k_count_of_all => k_is)
    (case a_numbers_of => k_is)
    (case l_numbers_of => k_is)
    (case c_numbers_of => k_is)
    (case k_numbers_of => k_is)
    (case a_should_light => k_is)
    (case l_should_light => k_is)
    (case c_should_light => k_is)
    (case k_should_light => k_is)
    (case a_Sight_init => k_is)
    (case i_Sight_init => k_is)
    (case l_Sight_init => k_is)
    (case c_Sight_init => k_is)
    (case k_Sight_init => k_is)
    (case a_Beginning_init => k_is)
    (case i_Beginning_init => k_is)
    (case l_Beginning_init => k_is)
    (case c_Beginning_init => k_is)
    (case k_Beginning_init => k_is)
    (case a_Beginning_broken => k_is)
    (case i_Beginning_broken => k_is)
    (case l_Beginning_broken => k_is)
    (case c_Beginning_broken => k_is)
    (case k_Beginning_broken => k_is)
    (case a_working => k_is)
    (case l_working => k_is)
    (case c_working => k_is)
    (case k_working => k_is)
    (case a_Evidence_init => k_is)
    (case i_Evidence_init => k_is)
    (case l_Evidence_init => k_is)
    (case c_Evidence_init => k_is)
    (case k_Evidence_init => k_is)
    (case a_Evidence_explains => k_is)
    (case i_Evidence_explains => k_is)
    (case l_Evidence_explains => k_is)
    (case c_Evidence_explains => k_is)
    (case k_Evidence_explains => k_is)
    (case a_Evidence_beginning => k_is)
    (case i_Evidence_beginning => k_is)
    (case l_Evidence_beginning => k_is)
    (case c_Evidence_beginning => k_is)
    (case k_Evidence_beginning => k_is)
    (case a_Evidence_least_broken => k_is)
    (case i_Evidence_least_broken => k_is)
    (case l_Evidence_least_broken => k_is)
    (case c_Evidence_least_broken => k_is)
    (case k_Evidence_least_broken => k_is)
    (case a_Evidence_likely => k_is)
    (case i_Evidence_likely => k_is)
    (case l_Evidence_likely => k_is)
    (case c_Evidence_likely => k_is)
    (case k_Evidence_likely => k_is)
    (case a_Evidence_states_of => k_is)
    (case i_Evidence_states_of => k_is)
    (case l_Evidence_states_of => k_is)
    (case c_Evidence_states_of => k_is)
    (case k_Evidence_states_of => k_is)
    (case a_Evidence_surely_broken => k_is)
    (case i_Evidence_surely_broken => k_is)
    (case l_Evidence_surely_broken => k_is)
    (case c_Evidence_surely_broken => k_is)
    (case k_Evidence_surely_broken => k_is)
    (case a_Evidence_surely_working => k_is)
    (case i_Evidence_surely_working => k_is)
    (case l_Evidence_surely_working => k_is)
    (case c_Evidence_surely_working => k_is)
    (case k_Evidence_surely_working => k_is)
    (case a_Evidence_may_light => k_is)
    (case i_Evidence_may_light => k_is)
    (case l_Evidence_may_light => k_is)
    (case c_Evidence_may_light => k_is)
    (case k_Evidence_may_light => k_is)
    (case a_Evidence_may_be_dark => k_is)
    (case i_Evidence_may_be_dark => k_is)
    (case l_Evidence_may_be_dark => k_is)
    (case c_Evidence_may_be_dark => k_is)
    (case k_Evidence_may_be_dark => k_is)
    (case a_Evidence_told_apart => k_is)
    (case i_Evidence_told_apart => k_is)
    (case l_Evidence_told_apart => k_is)
    (case c_Evidence_told_apart => k_is)
    (case k_Evidence_told_apart => k_is)
    (case a_told_row => k_is)
    (case l_told_row => k_is)
    (case c_told_row => k_is)
    (case k_told_row => k_is)
    (case a_Bench_init => k_is)
    (case i_Bench_init => k_is)
    (case l_Bench_init => k_is)
    (case c_Bench_init => k_is)
    (case k_Bench_init => k_is)
    (case a_Bench_now => k_is)
    (case i_Bench_now => k_is)
    (case l_Bench_now => k_is)
    (case c_Bench_now => k_is)
    (case k_Bench_now => k_is)
    (case a_Bench_set_sights => k_is)
    (case i_Bench_set_sights => k_is)
    (case l_Bench_set_sights => k_is)
    (case c_Bench_set_sights => k_is)
    (case k_Bench_set_sights => k_is)
    (case a_Bench_sees => k_is)
    (case i_Bench_sees => k_is)
    (case l_Bench_sees => k_is)
    (case c_Bench_sees => k_is)
    (case k_Bench_sees => k_is)
    (case a_Bench_undo => k_is)
    (case i_Bench_undo => k_is)
    (case l_Bench_undo => k_is)
    (case c_Bench_undo => k_is)
    (case k_Bench_undo => k_is)
    (case a_Bench_kth => k_is)
    (case i_Bench_kth => k_is)
    (case l_Bench_kth => k_is)
    (case c_Bench_kth => k_is)
    (case k_Bench_kth => k_is)
    (case a_Bench_may => k_is)
    (case i_Bench_may => k_is)
    (case l_Bench_may => k_is)
    (case c_Bench_may => k_is)
    (case k_Bench_may => k_is)
    (case a_Bench_likely => k_is)
    (case i_Bench_likely => k_is)
    (case l_Bench_likely => k_is)
    (case c_Bench_likely => k_is)
    (case k_Bench_likely => k_is)
    (case a_Bench_guess => k_is)
    (case i_Bench_guess => k_is)
    (case l_Bench_guess => k_is)
    (case c_Bench_guess => k_is)
    (case k_Bench_guess => k_is)
    (case a_Bench_stroke => k_is)
    (case i_Bench_stroke => k_is)
    (case l_Bench_stroke => k_is)
    (case c_Bench_stroke => k_is)
    (case k_Bench_stroke => k_is)
    (case a_Bench_sure => k_is)
    (case i_Bench_sure => k_is)
    (case l_Bench_sure => k_is)
    (case c_Bench_sure => k_is)
    (case k_Bench_sure => k_is)
    (case a_Bench_show_next => k_is)
    (case i_Bench_show_next => k_is)
    (case l_Bench_show_next => k_is)
    (case c_Bench_show_next => k_is)
    (case k_Bench_show_next => k_is)
    (case a_Bench_apart => k_is)
    (case i_Bench_apart => k_is)
    (case l_Bench_apart => k_is)
    (case c_Bench_apart => k_is)
    (case k_Bench_apart => k_is)
    (case a_Bench_shown => k_is)
    (case i_Bench_shown => k_is)
    (case l_Bench_shown => k_is)
    (case c_Bench_shown => k_is)
    (case k_Bench_shown => k_is)
    (case a_Bench_state => k_is)
    (case i_Bench_state => k_is)
    (case l_Bench_state => k_is)
    (case c_Bench_state => k_is)
    (case k_Bench_state => k_is)
    (case a_call_size => k_is)
    (case l_call_size => k_is)
    (case c_call_size => k_is)
    (case k_call_size => k_is)
    (case a_ask => k_is)
    (case l_ask => k_is)
    (case c_ask => k_is)
    (case k_ask => k_is)
    (case a_answers => k_is)
    (case l_answers => k_is)
    (case c_answers => k_is)
    (case k_answers => k_is)
    (case pgS => k_is)
    (case hdS => k_is)
    (case poS => k_is)
    (case saS => k_is)
    (case mkS => k_is)
    (case kcS => k_is)
    (case naS_time => k_is)
    (case naS_lit => k_is)
    (case pgB => k_is)
    (case hdB => k_is)
    (case poB => k_is)
    (case saB => k_is)
    (case mkB => k_is)
    (case kcB => k_is)
    (case naB_number => k_is)
    (case naB_works => k_is)
    (case pgE => k_is)
    (case hdE => k_is)
    (case poE => k_is)
    (case saE => k_is)
    (case mkE => k_is)
    (case kcE => k_is)
    (case naE_digits => k_is)
    (case naE_dark => k_is)
    (case naE_lit => k_is)
    (case naE_beginnings => k_is)
    (case pgN => k_is)
    (case hdN => k_is)
    (case poN => k_is)
    (case saN => k_is)
    (case mkN => k_is)
    (case kcN => k_is)
    (case naN_digits => k_is)
    (case naN_sights => k_is)
    (case naN_evidence => k_is)
    (case vSh => exact (.cons ⟨_, rfl⟩ (.cons ⟨_, rfl⟩ (.cons ⟨_, rfl⟩ (.cons ⟨_, rfl⟩ (.cons ⟨_, rfl⟩ (.cons ⟨_, rfl⟩ (.cons ⟨_, rfl⟩ (.cons ⟨_, rfl⟩ (.cons ⟨_, rfl⟩ (.cons ⟨_, rfl⟩ (.nil))))))))))))
    (case zSh => exact Nat.le_of_lt (L2.small1000 (show 10 ≤ 1000 by decide)))
    (case vCz => exact (.cons ⟨_, rfl⟩ (.cons ⟨_, rfl⟩ (.cons ⟨_, rfl⟩ (.cons ⟨_, rfl⟩ (.cons ⟨_, rfl⟩ (.cons ⟨_, rfl⟩ (.cons ⟨_, rfl⟩ (.cons ⟨_, rfl⟩ (.cons ⟨_, rfl⟩ (.cons ⟨_, rfl⟩ (.cons ⟨_, rfl⟩ (.cons ⟨_, rfl⟩ (.nil))))))))))))))
    (case zCz => exact Nat.le_of_lt (L2.small1000 (show 12 ≤ 1000 by decide)))
  case S =>
    intro K H xs a hO hwi hask hx
    cases hx with
    | cons h1 h2 =>
      cases h2
      cases h1 with
      | lst hs ha =>
        have e := L2.ints_dw a.1 _ ha
        subst e
        exact ⟨_, a.1, rfl, hs, hask, fun H' p hp => .lst (L2.SqL.of hp) (L2.dw_ints _)⟩
#print axioms PySem.Challenge.cw_brokenstrokes_s01_answers_holds
