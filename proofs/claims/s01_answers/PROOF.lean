import PyProof.Rows.All
import VbptaoSpec
import VbptaoNeutral
import PyVbptao
import PyFlatLaws
import Wide.All
import OpenK.AllK
import Wide.FinOn
import PyProof.EqAt
import PyProof.EqKinds
import PyProof.TupleCall
import Open.SpecLaws
import KE.OsGo
import HandS.ForSpec
import HandS.ForMost
import HandS.Evl
import HandS.Walk
import HandS.More
import HandS.Conv
import HandS.Style
import HandS.SortInts
import HandS.Zip
import HandS.WideBits
import PySem.Challenge.RW_royaltypools_s01_answers
set_option linter.all false
namespace My
open Vbptao

/-! sets of owners -/
theorem bits_ext {a b : Nat} (h : ∀ i, a.testBit i = b.testBit i) : a = b := Nat.eq_of_testBit_eq h
theorem inside_iff {a b : Nat} : inside a b = true ↔ ∀ i, a.testBit i = true → b.testBit i = true := by
  unfold inside
  rw [beq_iff_eq]
  constructor
  · intro e i h
    have h2 : (a &&& b).testBit i = true := by rw [e]; exact h
    rw [Nat.testBit_and, Bool.and_eq_true] at h2
    exact h2.2
  · intro h
    apply bits_ext
    intro i
    rw [Nat.testBit_and]
    cases e : a.testBit i with
    | false => rfl
    | true => rw [h i e]; rfl
theorem tb_full {n i : Nat} : (full n).testBit i = decide (i < n) := by
  unfold full
  exact Nat.testBit_two_pow_sub_one n i
theorem full_lt (n : Nat) : full n < 2 ^ n := by
  unfold full
  have := Nat.two_pow_pos n
  omega
theorem lt_bits {m n : Nat} (h : m < 2 ^ n) {i : Nat} (hi : m.testBit i = true) : i < n := by
  by_cases c : i < n
  · exact c
  · have h2 : m < 2 ^ i := Nat.lt_of_lt_of_le h (Nat.pow_le_pow_right (by decide) (by omega))
    rw [Nat.testBit_lt_two_pow h2] at hi
    cases hi
theorem bits_lt {m n : Nat} (h : ∀ i, m.testBit i = true → i < n) : m < 2 ^ n := by
  have e : m = m % 2 ^ n := by
    apply bits_ext
    intro i
    rw [Nat.testBit_mod_two_pow]
    cases c : m.testBit i with
    | false => simp
    | true => simp [h i c]
  rw [e]
  exact Nat.mod_lt _ (Nat.two_pow_pos n)
theorem lt_iff_full {m n : Nat} : m < 2 ^ n ↔ m ≤ full n := by
  unfold full
  have := Nat.two_pow_pos n
  omega
theorem and_add_or (a b : Nat) : (a &&& b) + (a ||| b) = a + b := by
  induction a using Nat.strongRecOn generalizing b with
  | ind a ih =>
    by_cases ha : a = 0
    · subst ha
      simp
    · have h := ih (a / 2) (by omega) (b / 2)
      have e1 : (a &&& b) / 2 = a / 2 &&& b / 2 := Nat.and_div_two
      have e2 : (a ||| b) / 2 = a / 2 ||| b / 2 := Nat.or_div_two
      have m1 : (a &&& b) % 2 = (a % 2) &&& (b % 2) := Nat.and_mod_two_pow (n := 1)
      have m2 : (a ||| b) % 2 = (a % 2) ||| (b % 2) := Nat.or_mod_two_pow (n := 1)
      have c1 : a % 2 = 0 ∨ a % 2 = 1 := by omega
      have c2 : b % 2 = 0 ∨ b % 2 = 1 := by omega
      rcases c1 with c1 | c1 <;> rcases c2 with c2 | c2 <;> rw [c1, c2] at m1 m2 <;> simp only [Nat.and_self, Nat.or_self, Nat.and_zero, Nat.zero_and, Nat.or_zero, Nat.zero_or] at m1 m2 <;> omega
theorem add_or {a b : Nat} (h : a &&& b = 0) : a + b = a ||| b := by
  have := and_add_or a b
  omega
theorem and_zero_of {a b : Nat} (h : ∀ i, a.testBit i = true → b.testBit i = false) : a &&& b = 0 := by
  apply bits_ext
  intro i
  rw [Nat.testBit_and, Nat.zero_testBit]
  cases c : a.testBit i with
  | false => rfl
  | true => rw [h i c]; rfl
theorem tb_two (i j : Nat) : (2 ^ i).testBit j = decide (i = j) := Nat.testBit_two_pow
theorem add_two {m i : Nat} (h : m.testBit i = false) : m + 2 ^ i = m ||| 2 ^ i := by
  apply add_or
  apply and_zero_of
  intro j hj
  rw [tb_two]
  by_cases c : i = j
  · subst c
    rw [h] at hj
    cases hj
  · simp [c]
theorem tb_or_two {m i j : Nat} : (m ||| 2 ^ i).testBit j = (m.testBit j || decide (i = j)) := by
  rw [Nat.testBit_or, tb_two]
theorem tb_add_two {m i : Nat} (h : m.testBit i = false) (j : Nat) : (m + 2 ^ i).testBit j = (m.testBit j || decide (i = j)) := by
  rw [add_two h, tb_or_two]
/-- a part taken out of a set -/
theorem sub_add {a b : Nat} (h : ∀ i, b.testBit i = true → a.testBit i = true) : b + (a ^^^ b) = a := by
  have e : b &&& (a ^^^ b) = 0 := by
    apply and_zero_of
    intro i hi
    rw [Nat.testBit_xor, hi, h i hi]
    rfl
  rw [add_or e]
  apply bits_ext
  intro i
  rw [Nat.testBit_or, Nat.testBit_xor]
  cases c : b.testBit i with
  | false => simp
  | true => rw [h i c]; rfl
theorem sub_eq_xor {a b : Nat} (h : ∀ i, b.testBit i = true → a.testBit i = true) : a - b = a ^^^ b := by
  have := sub_add h
  omega
theorem sub_le {a b : Nat} (h : ∀ i, b.testBit i = true → a.testBit i = true) : b ≤ a := by
  have := sub_add h
  omega
theorem tb_sub {a b : Nat} (h : ∀ i, b.testBit i = true → a.testBit i = true) (i : Nat) : (a - b).testBit i = (a.testBit i && !b.testBit i) := by
  rw [sub_eq_xor h, Nat.testBit_xor]
  cases c : b.testBit i with
  | false => simp
  | true => rw [h i c]; rfl
theorem two_sub {m i : Nat} (h : m.testBit i = true) : ∀ j, (2 ^ i).testBit j = true → m.testBit j = true := by
  intro j hj
  rw [tb_two] at hj
  have : i = j := by simpa using hj
  subst this
  exact h
theorem tb_sub_two {m i : Nat} (h : m.testBit i = true) (j : Nat) : (m - 2 ^ i).testBit j = (m.testBit j && !decide (i = j)) := by
  rw [tb_sub (two_sub h), tb_two]
theorem two_le {m i : Nat} (h : m.testBit i = true) : 2 ^ i ≤ m := sub_le (two_sub h)
theorem full_two {n i : Nat} (h : i < n) : (full n).testBit i = true := by rw [tb_full]; simpa using h
theorem full_sub {n m : Nat} (h : m < 2 ^ n) (i : Nat) : (full n - m).testBit i = (decide (i < n) && !m.testBit i) := by
  rw [tb_sub (fun i hi => full_two (lt_bits h hi)), tb_full]
theorem rest_or {n i : Nat} (h : i < n) : (full n - 2 ^ i) ||| 2 ^ i = full n := by
  apply bits_ext
  intro j
  rw [tb_or_two, tb_sub_two (full_two h)]
  by_cases c : i = j
  · subst c
    simp [full_two h]
  · simp [c]
theorem two_lt {n i : Nat} (h : i < n) : 2 ^ i < 2 ^ n := Nat.pow_lt_pow_right (by decide) h
theorem or_lt {a b n : Nat} (ha : a < 2 ^ n) (hb : b < 2 ^ n) : a ||| b < 2 ^ n := Nat.or_lt_two_pow ha hb
/-- has -/
theorem has_eq (m i : Nat) : decide (((m / 2 ^ i) &&& 1) = 1) = m.testBit i := by
  rw [Nat.testBit_eq_decide_div_mod_eq]
  congr 1
  rw [Nat.and_one_is_mod]
/-! members -/
theorem mem_members {n m i : Nat} : i ∈ members n m ↔ i < n ∧ m.testBit i = true := by
  unfold members
  rw [List.mem_filter, List.mem_range]
theorem members_nodup (n m : Nat) : (members n m).Nodup := by
  unfold members
  exact List.Nodup.sublist List.filter_sublist List.nodup_range
theorem members_sorted (n m : Nat) : (members n m).Pairwise (· < ·) := by
  unfold members
  exact List.Pairwise.sublist List.filter_sublist List.pairwise_lt_range
theorem size_le (n m : Nat) : size n m ≤ n := by
  unfold size members
  have := List.length_filter_le (fun i => m.testBit i) (List.range n)
  rwa [List.length_range] at this
theorem members_nil {n m : Nat} (h : m < 2 ^ n) : members n m = [] ↔ m = 0 := by
  constructor
  · intro e
    apply bits_ext
    intro i
    rw [Nat.zero_testBit]
    cases c : m.testBit i with
    | false => rfl
    | true =>
      have : i ∈ members n m := mem_members.mpr ⟨lt_bits h c, c⟩
      rw [e] at this
      cases this
  · rintro rfl
    unfold members
    rw [List.filter_eq_nil_iff]
    intro i _
    simp
theorem size_pos {n m : Nat} (h : m < 2 ^ n) (h0 : m ≠ 0) : 0 < size n m := by
  unfold size
  cases e : members n m with
  | nil => exact absurd ((members_nil h).mp e) h0
  | cons a l => simp
/-- the first member taken away -/
theorem members_tail {n m i : Nat} {l : List Nat} (h : m < 2 ^ n) (e : members n m = i :: l) : members n (m - 2 ^ i) = l ∧ m.testBit i = true ∧ m - 2 ^ i < 2 ^ n := by
  have hi : i ∈ members n m := by rw [e]; exact List.mem_cons_self
  have ht := (mem_members.mp hi).2
  refine ⟨?_, ht, Nat.lt_of_le_of_lt (Nat.sub_le _ _) h⟩
  have e2 : members n (m - 2 ^ i) = (members n m).filter fun j => !decide (i = j) := by
    unfold members
    rw [List.filter_filter]
    apply List.filter_congr
    intro j _
    rw [tb_sub_two ht, Bool.and_comm]
  rw [e2, e]
  have nd := members_nodup n m
  rw [e, List.nodup_cons] at nd
  rw [List.filter_cons]
  simp only [decide_true, Bool.not_true, Bool.false_eq_true, if_false]
  rw [List.filter_eq_self]
  intro j hj
  have : i ≠ j := fun q => nd.1 (q ▸ hj)
  simp [this]
/-! sums -/
theorem foldl_addN (l : List Nat) (a : Nat) : l.foldl (fun a b => a + b) a = a + l.sum := by
  induction l generalizing a with
  | nil => simp
  | cons x l ih => rw [List.foldl_cons, ih, List.sum_cons]; omega
theorem foldl_addI (l : List Int) (a : Int) : l.foldl (fun a b => a + b) a = a + l.sum := by
  induction l generalizing a with
  | nil => simp
  | cons x l ih => rw [List.foldl_cons, ih, List.sum_cons]; omega
theorem sumNat_eq (l : List Nat) : sumNat l = l.sum := by
  unfold sumNat
  rw [foldl_addN]
  omega
theorem sumInt_eq (l : List Int) : sumInt l = l.sum := by
  unfold sumInt
  rw [foldl_addI]
  omega
theorem value_eq (ps : List Product) (m : Nat) : value ps m = ((ps.filter fun p => inside p.need m).map fun p => p.worth).sum := by
  unfold value
  exact sumNat_eq _
theorem value_nil (m : Nat) : value [] m = 0 := rfl
theorem value_cons (p : Product) (ps : List Product) (m : Nat) : value (p :: ps) m = (if inside p.need m = true then p.worth else 0) + value ps m := by
  rw [value_eq, value_eq, List.filter_cons]
  split
  · rw [List.map_cons, List.sum_cons]
  · omega
theorem value_int (ps : List Product) (m : Nat) : ((ps.filter fun p => inside p.need m).map fun p => (p.worth : Int)).sum = (value ps m : Int) := by
  induction ps with
  | nil => rfl
  | cons p ps ih =>
    rw [value_cons, List.filter_cons]
    by_cases c : inside p.need m = true
    · rw [if_pos c, if_pos c, List.map_cons, List.sum_cons, ih]
      omega
    · rw [if_neg c, if_neg c, ih]
      omega
theorem value_mono {ps : List Product} {a b : Nat} (h : ∀ i, a.testBit i = true → b.testBit i = true) : value ps a ≤ value ps b := by
  induction ps with
  | nil => exact Nat.le_refl _
  | cons p ps ih =>
    rw [value_cons, value_cons]
    by_cases c : inside p.need a = true
    · have c2 : inside p.need b = true := inside_iff.mpr fun i hi => h i (inside_iff.mp c i hi)
      rw [if_pos c, if_pos c2]
      omega
    · rw [if_neg c]
      split <;> omega
theorem value_or {ps : List Product} {a b : Nat} : value ps a ≤ value ps (a ||| b) := value_mono fun i hi => by rw [Nat.testBit_or, hi]; rfl
theorem value_zero {ps : List Product} (h : ∀ p ∈ ps, p.need ≠ 0) : value ps 0 = 0 := by
  induction ps with
  | nil => rfl
  | cons p ps ih =>
    rw [value_cons, ih fun q hq => h q (List.mem_cons_of_mem _ hq)]
    have c : ¬ inside p.need 0 = true := by
      intro c
      apply h p List.mem_cons_self
      apply bits_ext
      intro i
      rw [Nat.zero_testBit]
      cases e : p.need.testBit i with
      | false => rfl
      | true =>
        have := inside_iff.mp c i e
        rw [Nat.zero_testBit] at this
        cases this
    rw [if_neg c]
theorem value_le {ps : List Product} {W : Nat} (h : ∀ p ∈ ps, p.worth ≤ W) (m : Nat) : value ps m ≤ ps.length * W := by
  induction ps with
  | nil => simp [value_nil]
  | cons p ps ih =>
    have h1 := ih fun q hq => h q (List.mem_cons_of_mem _ hq)
    have h2 := h p List.mem_cons_self
    rw [value_cons, List.length_cons, Nat.succ_mul]
    split <;> omega
/-- what two sets have alone is never more than what they have together and what their common part has -/
theorem value_super (ps : List Product) (a b : Nat) : value ps a + value ps b ≤ value ps (a ||| b) + value ps (a &&& b) := by
  induction ps with
  | nil => simp [value_nil]
  | cons p ps ih =>
    rw [value_cons, value_cons, value_cons, value_cons]
    by_cases ca : inside p.need a = true
    · have co : inside p.need (a ||| b) = true := inside_iff.mpr fun i hi => by rw [Nat.testBit_or, inside_iff.mp ca i hi]; rfl
      by_cases cb : inside p.need b = true
      · have cc : inside p.need (a &&& b) = true := inside_iff.mpr fun i hi => by rw [Nat.testBit_and, inside_iff.mp ca i hi, inside_iff.mp cb i hi]; rfl
        rw [if_pos ca, if_pos cb, if_pos co, if_pos cc]
        omega
      · rw [if_pos ca, if_neg cb, if_pos co]
        split <;> omega
    · by_cases cb : inside p.need b = true
      · have co : inside p.need (a ||| b) = true := inside_iff.mpr fun i hi => by rw [Nat.testBit_or, inside_iff.mp cb i hi]; simp
        rw [if_neg ca, if_pos cb, if_pos co]
        split <;> omega
      · rw [if_neg ca, if_neg cb]
        split <;> split <;> omega
end My

set_option linter.all false
namespace My
open Vbptao

/-! what a set has by shares -/
theorem sum_ite_filter (l : List Nat) (p : Nat → Bool) (g : Nat → Int) : ((l.filter p).map g).sum = (l.map fun i => if p i = true then g i else 0).sum := by
  induction l with
  | nil => rfl
  | cons a l ih =>
    rw [List.filter_cons, List.map_cons, List.sum_cons]
    by_cases c : p a = true
    · rw [if_pos c, if_pos c, List.map_cons, List.sum_cons, ih]
    · rw [if_neg c, if_neg c, ih]
      omega
theorem share_eq (n : Nat) (x : List Int) (m : Nat) : shareOf n x m = ((List.range n).map fun i => if m.testBit i = true then x.getD i 0 else 0).sum := by
  unfold shareOf members
  rw [sumInt_eq, sum_ite_filter]
theorem sum_add (l : List Nat) (f g : Nat → Int) : (l.map f).sum + (l.map g).sum = (l.map fun i => f i + g i).sum := by
  induction l with
  | nil => rfl
  | cons a l ih =>
    rw [List.map_cons, List.map_cons, List.map_cons, List.sum_cons, List.sum_cons, List.sum_cons, ← ih]
    omega
theorem share_or_and (n : Nat) (x : List Int) (a b : Nat) : shareOf n x a + shareOf n x b = shareOf n x (a ||| b) + shareOf n x (a &&& b) := by
  rw [share_eq, share_eq, share_eq, share_eq, sum_add, sum_add]
  congr 1
  apply List.map_congr_left
  intro i _
  rw [Nat.testBit_or, Nat.testBit_and]
  cases a.testBit i <;> cases b.testBit i <;> simp
theorem sum_single (l : List Nat) (nd : l.Nodup) (i : Nat) (t : Int) : (l.map fun j => if i = j then t else 0).sum = if i ∈ l then t else 0 := by
  induction l with
  | nil => rfl
  | cons a l ih =>
    rw [List.nodup_cons] at nd
    rw [List.map_cons, List.sum_cons, ih nd.2]
    by_cases c : i = a
    · subst c
      rw [if_pos rfl, if_neg nd.1, if_pos List.mem_cons_self]
      omega
    · rw [if_neg c]
      by_cases d : i ∈ l
      · rw [if_pos d, if_pos (List.mem_cons_of_mem _ d)]
        omega
      · rw [if_neg d, if_neg (fun q => (List.mem_cons.mp q).elim c d)]
        omega
theorem share_set {n : Nat} {x : List Int} {i : Nat} (hn : i < n) (hx : i < x.length) (t : Int) (m : Nat) :
    shareOf n (x.set i (x.getD i 0 - t)) m = shareOf n x m - if m.testBit i = true then t else 0 := by
  have e : shareOf n (x.set i (x.getD i 0 - t)) m + (if m.testBit i = true then t else 0) = shareOf n x m := by
    have h1 := sum_single (List.range n) List.nodup_range i (if m.testBit i = true then t else 0)
    rw [if_pos (List.mem_range.mpr hn)] at h1
    rw [← h1, share_eq, share_eq, sum_add]
    congr 1
    apply List.map_congr_left
    intro j _
    by_cases c : i = j
    · subst c
      rw [if_pos rfl]
      have : (x.set i (x.getD i 0 - t)).getD i 0 = x.getD i 0 - t := by
        rw [List.getD_eq_getElem?_getD, List.getElem?_set_self hx]
        rfl
      rw [this]
      split <;> omega
    · rw [if_neg c]
      have : (x.set i (x.getD i 0 - t)).getD j 0 = x.getD j 0 := by
        rw [List.getD_eq_getElem?_getD, List.getElem?_set_ne c, List.getD_eq_getElem?_getD]
      rw [this]
      omega
  omega
/-! the least part -/
theorem foldl_max {α : Type} (l : List α) (g : α → Int) (a : Nat) :
    l.foldl (fun (t : Int) m => if g m > t then g m else t) (a : Int) = ((l.foldl (fun (t : Nat) m => max t (g m).toNat) a : Nat) : Int) := by
  induction l generalizing a with
  | nil => rfl
  | cons m l ih =>
    rw [List.foldl_cons, List.foldl_cons, ← ih]
    congr 1
    by_cases c : g m > (a : Int)
    · rw [if_pos c]
      have : a ≤ (g m).toNat := by omega
      rw [Nat.max_eq_right this]
      omega
    · rw [if_neg c]
      have : (g m).toNat ≤ a := by omega
      rw [Nat.max_eq_left this]
theorem foldl_max_le {α : Type} (l : List α) (g : α → Nat) (a B : Nat) (ha : a ≤ B) (h : ∀ m ∈ l, g m ≤ B) : l.foldl (fun (t : Nat) m => max t (g m)) a ≤ B := by
  induction l generalizing a with
  | nil => exact ha
  | cons m l ih =>
    rw [List.foldl_cons]
    exact ih (max a (g m)) (Nat.max_le.mpr ⟨ha, h m List.mem_cons_self⟩) fun q hq => h q (List.mem_cons_of_mem _ hq)
theorem le_foldl_max0 {α : Type} (l : List α) (g : α → Nat) (a : Nat) : a ≤ l.foldl (fun (t : Nat) m => max t (g m)) a := by
  induction l generalizing a with
  | nil => exact Nat.le_refl _
  | cons m l ih =>
    rw [List.foldl_cons]
    exact Nat.le_trans (Nat.le_max_left _ _) (ih _)
theorem le_foldl_max {α : Type} (l : List α) (g : α → Nat) (a : Nat) {m : α} (h : m ∈ l) : g m ≤ l.foldl (fun (t : Nat) m => max t (g m)) a := by
  induction l generalizing a with
  | nil => cases h
  | cons q l ih =>
    rw [List.foldl_cons]
    rcases List.mem_cons.mp h with e | e
    · subst e
      exact Nat.le_trans (Nat.le_max_right _ _) (le_foldl_max0 _ _ _)
    · exact ih _ e
/-- no set has less than what is left needs only the set for -/
def Stab (n : Nat) (others : List Product) (need w : Nat) (x : List Int) : Prop := ∀ m, m < 2 ^ n → (value others m : Int) + (if inside need m = true then (w : Int) else 0) ≤ shareOf n x m
theorem Stab.base {n : Nat} {others : List Product} {need w : Nat} {x : List Int} (h : Stab n others need w x) {m : Nat} (hm : m < 2 ^ n) : (value others m : Int) ≤ shareOf n x m := by
  have := h m hm
  split at this <;> omega
theorem Stab.more {n : Nat} {others : List Product} {need w : Nat} {x : List Int} (h : Stab n others need w x) {m : Nat} (hm : m < 2 ^ n) (hi : inside need m = true) : (value others m : Int) + (w : Int) ≤ shareOf n x m := by
  have := h m hm
  rwa [if_pos hi] at this
theorem in_sets {n m : Nat} {i rest : Nat} (hm : m < 2 ^ n) (h1 : m.testBit i = false) (h2 : inside rest m = true) : m ∈ (sets n).filter fun m => !m.testBit i && inside rest m := by
  rw [List.mem_filter]
  refine ⟨List.mem_range.mpr hm, ?_⟩
  rw [h1, h2]
  rfl
theorem of_in_sets {n m : Nat} {i rest : Nat} (h : m ∈ (sets n).filter fun m => !m.testBit i && inside rest m) : m < 2 ^ n ∧ m.testBit i = false ∧ inside rest m = true := by
  rw [List.mem_filter] at h
  refine ⟨List.mem_range.mp h.1, ?_⟩
  simpa using h.2
theorem need_split {need i : Nat} (hi : need.testBit i = true) {m : Nat} : inside need m = true ↔ m.testBit i = true ∧ inside (need - 2 ^ i) m = true := by
  rw [inside_iff, inside_iff]
  constructor
  · intro h
    refine ⟨h i hi, fun j hj => ?_⟩
    rw [tb_sub_two hi] at hj
    rw [Bool.and_eq_true] at hj
    exact h j hj.1
  · rintro ⟨h1, h2⟩ j hj
    by_cases c : i = j
    · subst c
      exact h1
    · apply h2
      rw [tb_sub_two hi, hj]
      simp [c]
/-- an owner's part -/
def part (n : Nat) (others : List Product) (x : List Int) (i need w : Nat) : Nat := if need - 2 ^ i = 0 then w else leastPart n others x i (need - 2 ^ i) w
theorem part_le {n : Nat} {others : List Product} {need w : Nat} {x : List Int} {i : Nat} (h : Stab n others need w x) : part n others x i need w ≤ w := by
  unfold part
  split
  · exact Nat.le_refl _
  · unfold leastPart
    refine foldl_max_le _ (fun m => ((value others m : Int) + (w : Int) - shareOf n x m).toNat) 0 w (Nat.zero_le _) fun m hm => ?_
    have hm' := of_in_sets hm
    have := h.base hm'.1
    omega
theorem part_step {n : Nat} {others : List Product} {need w : Nat} {x : List Int} {i : Nat} (h : Stab n others need w x) (hn : need < 2 ^ n) (hi : need.testBit i = true) (hx : x.length = n) :
    Stab n others (need - 2 ^ i) (w - part n others x i need w) (x.set i (x.getD i 0 - (part n others x i need w : Int))) := by
  have hin : i < n := lt_bits hn hi
  have hle := part_le (i := i) h
  intro m hm
  rw [share_set hin (by omega)]
  by_cases c0 : need - 2 ^ i = 0
  · have ep : part n others x i need w = w := by unfold part; rw [if_pos c0]
    rw [ep]
    have hz : inside (need - 2 ^ i) m = true := by
      rw [c0, inside_iff]
      intro j hj
      rw [Nat.zero_testBit] at hj
      cases hj
    rw [if_pos hz]
    by_cases c1 : m.testBit i = true
    · have := h.more hm ((need_split hi).mpr ⟨c1, hz⟩)
      rw [if_pos c1]
      omega
    · have := h.base hm
      rw [if_neg c1]
      omega
  · have ep : part n others x i need w = leastPart n others x i (need - 2 ^ i) w := by unfold part; rw [if_neg c0]
    by_cases c1 : m.testBit i = true
    · by_cases c2 : inside (need - 2 ^ i) m = true
      · have := h.more hm ((need_split hi).mpr ⟨c1, c2⟩)
        rw [if_pos c1, if_pos c2]
        omega
      · rw [if_pos c1, if_neg c2]
        have hb := h.base hm
        have hB : leastPart n others x i (need - 2 ^ i) w ≤ (shareOf n x m - (value others m : Int)).toNat := by
          unfold leastPart
          refine foldl_max_le _ (fun m => ((value others m : Int) + (w : Int) - shareOf n x m).toNat) 0 _ (Nat.zero_le _) fun m' hm' => ?_
          obtain ⟨k1, k2, k3⟩ := of_in_sets hm'
          have sv := value_super others m m'
          have sx := share_or_and n x m m'
          have ho : inside need (m ||| m') = true := by
            refine (need_split hi).mpr ⟨by rw [Nat.testBit_or, c1]; rfl, ?_⟩
            rw [inside_iff] at k3 ⊢
            intro j hj
            rw [Nat.testBit_or, k3 j hj]
            simp
          have q1 := h.more (or_lt hm k1) ho
          have q2 := h.base (m := m &&& m') (Nat.and_lt_two_pow m k1)
          omega
        rw [ep]
        omega
    · by_cases c2 : inside (need - 2 ^ i) m = true
      · rw [if_neg c1, if_pos c2]
        have c1' : m.testBit i = false := by simpa using c1
        have := le_foldl_max ((sets n).filter fun m => !m.testBit i && inside (need - 2 ^ i) m) (fun m => ((value others m : Int) + (w : Int) - shareOf n x m).toNat) 0 (in_sets hm c1' c2)
        have e2 : leastPart n others x i (need - 2 ^ i) w = ((sets n).filter fun m => !m.testBit i && inside (need - 2 ^ i) m).foldl (fun (t : Nat) m => max t ((value others m : Int) + (w : Int) - shareOf n x m).toNat) 0 := rfl
        rw [← e2, ← ep] at this
        omega
      · rw [if_neg c1, if_neg c2]
        have := h.base hm
        omega
/-- one owner more -/
theorem parts_step {n : Nat} {others : List Product} {need w : Nat} {x : List Int} {i : Nat} {l : List Nat} (h : Stab n others need w x) (hn : need < 2 ^ n) (hl : members n need = i :: l) :
    parts n others (i :: l) need w x = ((i, part n others x i need w) :: (parts n others l (need - 2 ^ i) (w - part n others x i need w) (x.set i (x.getD i 0 - (part n others x i need w : Int)))).1,
      (parts n others l (need - 2 ^ i) (w - part n others x i need w) (x.set i (x.getD i 0 - (part n others x i need w : Int)))).2) := by
  have mt := members_tail hn hl
  have e : (if l.isEmpty = true then w else min w (leastPart n others x i (need - 2 ^ i) w)) = part n others x i need w := by
    have hle := part_le (i := i) h
    unfold part at hle ⊢
    by_cases c : need - 2 ^ i = 0
    · have : l = [] := by rw [← mt.1]; exact (members_nil mt.2.2).mpr c
      rw [if_pos c, if_pos (by rw [this]; rfl)]
    · have : ¬ l.isEmpty = true := by
        intro q
        rw [List.isEmpty_iff] at q
        exact c ((members_nil mt.2.2).mp (by rw [mt.1, q]))
      rw [if_neg c] at hle ⊢
      rw [if_neg this]
      exact Nat.min_eq_right hle
  show ((i, if l.isEmpty = true then w else min w (leastPart n others x i (need - 2 ^ i) w)) :: _, _) = _
  rw [e]
theorem stab_next {n : Nat} {p : Product} {ps : List Product} {x : List Int} : (∀ m, m < 2 ^ n → (value (p :: ps) m : Int) ≤ shareOf n x m) → Stab n ps p.need p.worth x := by
  intro h m hm
  have := h m hm
  rw [value_cons] at this
  split at this <;> rename_i c
  · rw [if_pos c]
    omega
  · rw [if_neg c]
    omega
theorem core_stab {n : Nat} {ps : List Product} {x : List Int} (h : inCore n ps x = true) : ∀ m, m < 2 ^ n → (value ps m : Int) ≤ shareOf n x m := by
  unfold inCore objects at h
  rw [Bool.and_eq_true] at h
  intro m hm
  have h2 := h.2
  rw [Option.isNone_iff_eq_none, List.find?_eq_none] at h2
  have := h2 m (List.mem_range.mpr hm)
  simp only [decide_eq_true_eq] at this
  omega
end My

set_option linter.all false
namespace My
open Vbptao

/-! equal parts of one product -/
/-- behind u units: each place's part -/
def unitsAt (num part k u : Nat) : List Nat := (List.range k).map fun j => part + (if (j + k - num % k) % k < u then 1 else 0)
theorem unitsAt_len (num part k u : Nat) : (unitsAt num part k u).length = k := by
  unfold unitsAt
  rw [List.length_map, List.length_range]
theorem unitsAt_zero (num part k : Nat) : unitsAt num part k 0 = (List.range k).map fun _ => part := by
  unfold unitsAt
  apply List.map_congr_left
  intro j _
  rw [if_neg (by omega)]
  rfl
theorem turn_place {num k j : Nat} (hj : j < k) (u : Nat) (hu : u < k) : (j + k - num % k) % k = u ↔ j = (num + u) % k := by
  have hk : 0 < k := by omega
  have h1 : num % k < k := Nat.mod_lt _ hk
  have e2 : (num + u) % k = (num % k + u) % k := by rw [Nat.add_mod, Nat.mod_eq_of_lt hu]
  rw [e2]
  generalize num % k = r at *
  by_cases c : j < r
  · have a1 : (j + k - r) % k = j + k - r := Nat.mod_eq_of_lt (by omega)
    rw [a1]
    by_cases d : r + u < k
    · have a2 : (r + u) % k = r + u := Nat.mod_eq_of_lt d
      rw [a2]
      omega
    · have a2 : (r + u) % k = r + u - k := by
        rw [Nat.mod_eq_sub_mod (by omega), Nat.mod_eq_of_lt (by omega)]
      rw [a2]
      omega
  · have a1 : (j + k - r) % k = j - r := by
      have : j + k - r = (j - r) + k := by omega
      rw [this, Nat.add_mod_right, Nat.mod_eq_of_lt (by omega)]
    rw [a1]
    by_cases d : r + u < k
    · have a2 : (r + u) % k = r + u := Nat.mod_eq_of_lt d
      rw [a2]
      omega
    · have a2 : (r + u) % k = r + u - k := by
        rw [Nat.mod_eq_sub_mod (by omega), Nat.mod_eq_of_lt (by omega)]
      rw [a2]
      omega
theorem unitsAt_step {num part k u : Nat} (hu : u < k) : (unitsAt num part k u).set ((num + u) % k) ((unitsAt num part k u).getD ((num + u) % k) 0 + 1) = unitsAt num part k (u + 1) := by
  have hp : (num + u) % k < k := Nat.mod_lt _ (by omega)
  apply List.ext_getElem?
  intro j
  by_cases hj : j < k
  · have e0 : (unitsAt num part k (u + 1))[j]? = some (part + (if (j + k - num % k) % k < u + 1 then 1 else 0)) := by
      unfold unitsAt
      rw [List.getElem?_map, List.getElem?_range hj]
      rfl
    have e1 : ∀ i, i < k → (unitsAt num part k u)[i]? = some (part + (if (i + k - num % k) % k < u then 1 else 0)) := by
      intro i hi
      unfold unitsAt
      rw [List.getElem?_map, List.getElem?_range hi]
      rfl
    rw [e0]
    have tp := turn_place (num := num) hj u hu
    by_cases c : (num + u) % k = j
    · subst c
      rw [List.getElem?_set_self (by rw [unitsAt_len]; exact hp), List.getD_eq_getElem?_getD, e1 _ hp]
      have := tp.mpr rfl
      rw [this, if_neg (by omega), if_pos (by omega)]
      rfl
    · rw [List.getElem?_set_ne c, e1 j hj]
      have : (j + k - num % k) % k ≠ u := fun q => c (tp.mp q).symm
      congr 2
      by_cases d : (j + k - num % k) % k < u
      · rw [if_pos d, if_pos (by omega)]
      · rw [if_neg d, if_neg (by omega)]
  · rw [List.getElem?_eq_none (by rw [List.length_set, unitsAt_len]; omega), List.getElem?_eq_none (by rw [unitsAt_len]; omega)]
theorem equalParts_eq (n : Nat) (p : Product) : equalParts n p = (members n p.need).zip (unitsAt p.num (p.worth / (members n p.need).length) (members n p.need).length (p.worth % (members n p.need).length)) := by
  unfold equalParts
  apply List.ext_getElem?
  intro j
  rw [List.zip_eq_zipWith, List.getElem?_zipWith]
  by_cases hj : j < (members n p.need).length
  · unfold unitsAt
    rw [List.getElem?_map, List.getElem?_map, List.getElem?_range hj, List.getElem?_eq_getElem hj]
    simp only [Option.map_some, List.getD_eq_getElem?_getD, List.getElem?_eq_getElem hj, Option.getD_some]
  · rw [List.getElem?_eq_none (l := List.map _ _) (by rw [List.length_map, List.length_range]; omega), List.getElem?_eq_none (l := members n p.need) (by omega)]
/-! what is added up -/
def tot (l : List (Nat × Nat)) (i : Nat) : Nat := ((l.filter fun y => y.1 == i).map fun y => y.2).sum
def addedF (n : Nat) (l : List (Nat × Nat)) : List Nat := (List.range n).map fun i => tot l i
theorem tot_nil (i : Nat) : tot [] i = 0 := rfl
theorem tot_append (l m : List (Nat × Nat)) (i : Nat) : tot (l ++ m) i = tot l i + tot m i := by
  unfold tot
  rw [List.filter_append, List.map_append, List.sum_append]
theorem tot_one (o t i : Nat) : tot [(o, t)] i = if o = i then t else 0 := by
  unfold tot
  by_cases c : o = i
  · rw [if_pos c, List.filter_cons, if_pos (by simpa using c)]
    simp
  · rw [if_neg c, List.filter_cons, if_neg (by simpa using c)]
    rfl
theorem addedF_len (n : Nat) (l : List (Nat × Nat)) : (addedF n l).length = n := by
  unfold addedF
  rw [List.length_map, List.length_range]
theorem addedF_get {n i : Nat} (l : List (Nat × Nat)) (h : i < n) : (addedF n l)[i]? = some (tot l i) := by
  unfold addedF
  rw [List.getElem?_map, List.getElem?_range h]
  rfl
theorem addedF_nil (n : Nat) : addedF n [] = (List.range n).map fun _ => 0 := rfl
theorem addedF_step {n : Nat} (l : List (Nat × Nat)) {o : Nat} (t : Nat) (h : o < n) : (addedF n l).set o (tot l o + t) = addedF n (l ++ [(o, t)]) := by
  apply List.ext_getElem?
  intro j
  by_cases hj : j < n
  · rw [addedF_get _ hj, tot_append, tot_one]
    by_cases c : o = j
    · subst c
      rw [List.getElem?_set_self (by rw [addedF_len]; exact h), if_pos rfl]
    · rw [List.getElem?_set_ne c, addedF_get _ hj, if_neg c]
      rfl
  · rw [List.getElem?_eq_none (by rw [List.length_set, addedF_len]; omega), List.getElem?_eq_none (by rw [addedF_len]; omega)]
theorem tot_zero {l : List (Nat × Nat)} {i : Nat} (h : ∀ y ∈ l, y.1 ≠ i) : tot l i = 0 := by
  unfold tot
  have : (l.filter fun y => y.1 == i) = [] := by
    rw [List.filter_eq_nil_iff]
    intro y hy
    simpa using h y hy
  rw [this]
  rfl
theorem added_eq (n : Nat) (L : List (List (Nat × Nat))) : added n L = addedF n L.flatten := by
  unfold added addedF
  apply List.map_congr_left
  intro i _
  rw [sumNat_eq]
  induction L with
  | nil => rfl
  | cons a L ih =>
    rw [List.map_cons, List.sum_cons, ih, List.flatten_cons, tot_append, sumNat_eq]
    rfl
theorem equal_eq (s : State) : Vbptao.equal s = addedF s.n (s.products.map (equalParts s.n)).flatten := added_eq _ _
theorem tot_le {l : List (Nat × Nat)} {W : Nat} (h : ∀ y ∈ l, y.2 ≤ W) (i : Nat) : tot l i ≤ l.length * W := by
  induction l with
  | nil => simp [tot_nil]
  | cons a l ih =>
    have h1 := ih fun q hq => h q (List.mem_cons_of_mem _ hq)
    have h2 := h a List.mem_cons_self
    have e : tot (a :: l) i = tot [a] i + tot l i := tot_append [a] l i
    rw [e, List.length_cons, Nat.succ_mul]
    have : tot [a] i ≤ a.2 := by
      obtain ⟨o, t⟩ := a
      rw [tot_one]
      split <;> simp
    omega
/-! by an order -/
theorem byOrder_fst (ps : List Product) : ∀ (l : List Nat) (m : Nat), (byOrder ps m l).map (·.1) = l
  | [], _ => rfl
  | i :: l, m => by
    show i :: (byOrder ps (m + 2 ^ i) l).map (·.1) = _
    rw [byOrder_fst ps l]
theorem ordered_eq (s : State) (l : List Nat) : ordered s l = addedF s.n (byOrder s.products 0 l) := by
  show added s.n [byOrder s.products 0 l] = _
  rw [added_eq]
  simp
/-! who hangs together -/
def join1 (ps : List Product) (m : Nat) : Nat := ps.foldl (fun a p => if p.need &&& m == 0 then a else a ||| p.need) m
def joinN (ps : List Product) : Nat → Nat → Nat
  | 0, m => m
  | f + 1, m => joinN ps f (join1 ps m)
theorem joined_eq (ps : List Product) : ∀ (f m : Nat), joined ps f m = joinN ps f m
  | 0, _ => rfl
  | f + 1, m => joined_eq ps f (join1 ps m)
theorem joinN_succ (ps : List Product) : ∀ (f m : Nat), joinN ps (f + 1) m = join1 ps (joinN ps f m)
  | 0, _ => rfl
  | f + 1, m => joinN_succ ps f (join1 ps m)
theorem fold_join_mem (ps : List Product) (m a i : Nat) : (ps.foldl (fun a p => if p.need &&& m == 0 then a else a ||| p.need) a).testBit i = true ↔ a.testBit i = true ∨ ∃ p ∈ ps, p.need &&& m ≠ 0 ∧ p.need.testBit i = true := by
  induction ps generalizing a with
  | nil => simp
  | cons p ps ih =>
    rw [List.foldl_cons, ih]
    by_cases c : p.need &&& m = 0
    · rw [if_pos (by simpa using c)]
      constructor
      · rintro (h | ⟨q, h1, h2⟩)
        · exact .inl h
        · exact .inr ⟨q, List.mem_cons_of_mem _ h1, h2⟩
      · rintro (h | ⟨q, h1, h2⟩)
        · exact .inl h
        · rcases List.mem_cons.mp h1 with e | e
          · subst e
            exact absurd c h2.1
          · exact .inr ⟨q, e, h2⟩
    · rw [if_neg (by simpa using c), Nat.testBit_or, Bool.or_eq_true]
      constructor
      · rintro ((h | h) | ⟨q, h1, h2⟩)
        · exact .inl h
        · exact .inr ⟨p, List.mem_cons_self, c, h⟩
        · exact .inr ⟨q, List.mem_cons_of_mem _ h1, h2⟩
      · rintro (h | ⟨q, h1, h2⟩)
        · exact .inl (.inl h)
        · rcases List.mem_cons.mp h1 with e | e
          · subst e
            exact .inl (.inr h2.2)
          · exact .inr ⟨q, e, h2⟩
theorem join1_mem {ps : List Product} {m i : Nat} : (join1 ps m).testBit i = true ↔ m.testBit i = true ∨ ∃ p ∈ ps, p.need &&& m ≠ 0 ∧ p.need.testBit i = true := fold_join_mem ps m m i
theorem join1_sub {ps : List Product} {m i : Nat} (h : m.testBit i = true) : (join1 ps m).testBit i = true := join1_mem.mpr (.inl h)
theorem meet_mono {a b c : Nat} (h : ∀ i, b.testBit i = true → c.testBit i = true) (ne : a &&& b ≠ 0) : a &&& c ≠ 0 := by
  intro e
  apply ne
  apply and_zero_of
  intro i hi
  cases d : b.testBit i with
  | false => rfl
  | true =>
    have : (a &&& c).testBit i = true := by rw [Nat.testBit_and, hi, h i d]; rfl
    rw [e, Nat.zero_testBit] at this
    cases this
theorem join1_mono {ps : List Product} {a b : Nat} (h : ∀ i, a.testBit i = true → b.testBit i = true) : ∀ i, (join1 ps a).testBit i = true → (join1 ps b).testBit i = true := by
  intro i hi
  rcases join1_mem.mp hi with q | ⟨p, h1, h2, h3⟩
  · exact join1_sub (h i q)
  · exact join1_mem.mpr (.inr ⟨p, h1, meet_mono h h2, h3⟩)
theorem joinN_sub {ps : List Product} : ∀ (f : Nat) {m i : Nat}, m.testBit i = true → (joinN ps f m).testBit i = true
  | 0, _, _, h => h
  | f + 1, m, i, h => joinN_sub f (m := join1 ps m) (join1_sub h)
theorem join1_lt {ps : List Product} {n m : Nat} (hp : ∀ p ∈ ps, p.need < 2 ^ n) (hm : m < 2 ^ n) : join1 ps m < 2 ^ n := by
  apply bits_lt
  intro i hi
  rcases join1_mem.mp hi with q | ⟨p, h1, _, h3⟩
  · exact lt_bits hm q
  · exact lt_bits (hp p h1) h3
theorem joinN_lt {ps : List Product} {n : Nat} (hp : ∀ p ∈ ps, p.need < 2 ^ n) : ∀ (f : Nat) {m : Nat}, m < 2 ^ n → joinN ps f m < 2 ^ n
  | 0, _, h => h
  | f + 1, m, h => joinN_lt hp f (join1_lt hp h)
theorem size_lt {n a b : Nat} (hb : b < 2 ^ n) (h : ∀ i, a.testBit i = true → b.testBit i = true) (ne : a ≠ b) : size n a < size n b := by
  have hsub : (members n a).Sublist (members n b) := by
    have e : members n a = (members n b).filter fun i => a.testBit i := by
      unfold members
      rw [List.filter_filter]
      apply List.filter_congr
      intro i _
      cases c : a.testBit i with
      | false => rfl
      | true => rw [h i c]; rfl
    rw [e]
    exact List.filter_sublist
  unfold size
  apply Nat.lt_of_le_of_ne hsub.length_le
  intro e
  have e2 := hsub.eq_of_length e
  apply ne
  apply bits_ext
  intro i
  cases c : b.testBit i with
  | false =>
    cases d : a.testBit i with
    | false => rfl
    | true => rw [h i d] at c; cases c
  | true =>
    have : i ∈ members n b := mem_members.mpr ⟨lt_bits hb c, c⟩
    rw [← e2] at this
    exact (mem_members.mp this).2
theorem joinN_grow {ps : List Product} {n m : Nat} (hp : ∀ p ∈ ps, p.need < 2 ^ n) (hm : m < 2 ^ n) : ∀ f, join1 ps (joinN ps f m) = joinN ps f m ∨ f ≤ size n (joinN ps f m)
  | 0 => .inr (Nat.zero_le _)
  | f + 1 => by
    rw [joinN_succ]
    rcases joinN_grow hp hm f with h | h
    · exact .inl (by rw [h, h])
    · by_cases c : join1 ps (joinN ps f m) = joinN ps f m
      · exact .inl (by rw [c, c])
      · refine .inr ?_
        have := size_lt (n := n) (a := joinN ps f m) (b := join1 ps (joinN ps f m)) (join1_lt hp (joinN_lt hp f hm)) (fun i hi => join1_sub hi) (Ne.symm c)
        omega
theorem size_full {n m : Nat} (hm : m < 2 ^ n) (h : n ≤ size n m) : m = full n := by
  apply bits_ext
  intro i
  rw [tb_full]
  have e : members n m = List.range n := by
    have hs : (members n m).Sublist (List.range n) := List.filter_sublist
    apply hs.eq_of_length
    have := hs.length_le
    unfold size at h
    rw [List.length_range] at this ⊢
    omega
  by_cases c : i < n
  · have : i ∈ members n m := by rw [e]; exact List.mem_range.mpr c
    rw [(mem_members.mp this).2]
    simpa using c
  · cases d : m.testBit i with
    | false => simpa using c
    | true => exact absurd (lt_bits hm d) c
theorem joinN_fix {ps : List Product} {n m : Nat} (hp : ∀ p ∈ ps, p.need < 2 ^ n) (hm : m < 2 ^ n) : join1 ps (joinN ps n m) = joinN ps n m := by
  rcases joinN_grow hp hm n with h | h
  · exact h
  · have e := size_full (joinN_lt hp n hm) h
    apply bits_ext
    intro i
    cases c : (joinN ps n m).testBit i with
    | true => exact join1_sub c
    | false =>
      cases d : (join1 ps (joinN ps n m)).testBit i with
      | false => rfl
      | true =>
        have := lt_bits (join1_lt hp (joinN_lt hp n hm)) d
        rw [e, tb_full] at c
        simp [this] at c
theorem joinN_stay {ps : List Product} {x : Nat} (h : join1 ps x = x) : ∀ f, joinN ps f x = x
  | 0 => rfl
  | f + 1 => by
    show joinN ps f (join1 ps x) = x
    rw [h]
    exact joinN_stay h f
theorem joinN_add (ps : List Product) : ∀ (f g m : Nat), joinN ps (f + g) m = joinN ps g (joinN ps f m)
  | 0, g, m => by rw [Nat.zero_add]; rfl
  | f + 1, g, m => by
    have : f + 1 + g = (f + g) + 1 := by omega
    rw [this]
    exact joinN_add ps f g (join1 ps m)
theorem joinN_any {ps : List Product} {n m k : Nat} (hp : ∀ p ∈ ps, p.need < 2 ^ n) (hm : m < 2 ^ n) (hk : join1 ps (joinN ps k m) = joinN ps k m) : joinN ps k m = joinN ps n m := by
  rcases Nat.le_total k n with h | h
  · obtain ⟨d, rfl⟩ := Nat.le.dest h
    rw [joinN_add, joinN_stay hk]
  · obtain ⟨d, rfl⟩ := Nat.le.dest h
    rw [joinN_add, joinN_stay (joinN_fix hp hm)]
/-- the parts that were found: all owners ahead are in -/
def seenTo (s : State) (i : Nat) : Nat := (List.range i).foldl (fun a j => a ||| partOf s j) 0
theorem seenTo_mem {s : State} {i j : Nat} : (seenTo s i).testBit j = true ↔ ∃ k, k < i ∧ (partOf s k).testBit j = true := by
  unfold seenTo
  induction i with
  | zero => simp
  | succ i ih =>
    rw [List.range_succ, List.foldl_append]
    show ((List.foldl (fun a j => a ||| partOf s j) 0 (List.range i)) ||| partOf s i).testBit j = true ↔ _
    rw [Nat.testBit_or, Bool.or_eq_true, ih]
    constructor
    · rintro (⟨k, h1, h2⟩ | h)
      · exact ⟨k, by omega, h2⟩
      · exact ⟨i, by omega, h⟩
    · rintro ⟨k, h1, h2⟩
      by_cases c : k = i
      · subst c
        exact .inr h2
      · exact .inl ⟨k, by omega, h2⟩
theorem joinN_in {ps : List Product} {m x : Nat} (h : join1 ps x = x) (hm : ∀ i, m.testBit i = true → x.testBit i = true) : ∀ (f i : Nat), (joinN ps f m).testBit i = true → x.testBit i = true := by
  intro f
  induction f generalizing m with
  | zero => exact hm
  | succ f ih =>
    intro i hi
    refine ih (m := join1 ps m) (fun j hj => ?_) i hi
    have := join1_mono hm j hj
    rwa [h] at this
theorem partOf_fix {s : State} (hp : ∀ p ∈ s.products, p.need < 2 ^ s.n) {i : Nat} (hi : i < s.n) : join1 s.products (partOf s i) = partOf s i := by
  unfold partOf
  rw [joined_eq]
  exact joinN_fix hp (two_lt hi)
theorem seen_part {s : State} (hp : ∀ p ∈ s.products, p.need < 2 ^ s.n) {i : Nat} (hi : i < s.n) (h : (seenTo s i).testBit i = true) : seenTo s (i + 1) = seenTo s i := by
  apply bits_ext
  intro j
  have step : (seenTo s (i + 1)).testBit j = true ↔ (seenTo s i).testBit j = true := by
    rw [seenTo_mem, seenTo_mem]
    constructor
    · rintro ⟨k, h1, h2⟩
      by_cases c : k = i
      · subst c
        obtain ⟨q, h3, h4⟩ := seenTo_mem.mp h
        refine ⟨q, h3, ?_⟩
        have hq : q < s.n := by omega
        unfold partOf at h2
        rw [joined_eq] at h2
        exact joinN_in (partOf_fix hp hq) (fun t ht => two_sub h4 t ht) _ _ h2
      · exact ⟨k, by omega, h2⟩
    · rintro ⟨k, h1, h2⟩
      exact ⟨k, by omega, h2⟩
  cases a : (seenTo s (i + 1)).testBit j with
  | true => exact (step.mp a).symm
  | false =>
    cases b : (seenTo s i).testBit j with
    | false => rfl
    | true => rw [step.mpr b] at a; cases a
theorem seen_new {s : State} (i : Nat) : seenTo s (i + 1) = seenTo s i ||| partOf s i := by
  unfold seenTo
  rw [List.range_succ, List.foldl_append]
  rfl
/-- the parts found behind i owners -/
def apartTo (s : State) (i : Nat) : List Nat := ((List.range i).filter fun i => (List.range i).all fun j => !(partOf s j).testBit i).map (partOf s)
theorem first_iff {s : State} {i : Nat} : ((List.range i).all fun j => !(partOf s j).testBit i) = !(seenTo s i).testBit i := by
  rw [Bool.eq_iff_iff]
  rw [List.all_eq_true]
  constructor
  · intro h
    cases c : (seenTo s i).testBit i with
    | false => rfl
    | true =>
      obtain ⟨k, h1, h2⟩ := seenTo_mem.mp c
      have := h k (List.mem_range.mpr h1)
      rw [h2] at this
      cases this
  · intro h j hj
    cases c : (partOf s j).testBit i with
    | false => rfl
    | true =>
      have := seenTo_mem.mpr ⟨j, List.mem_range.mp hj, c⟩
      rw [this] at h
      cases h
theorem apart_new {s : State} {i : Nat} (h : (seenTo s i).testBit i = false) : apartTo s (i + 1) = apartTo s i ++ [partOf s i] := by
  unfold apartTo
  rw [List.range_succ, List.filter_append, List.map_append, List.filter_cons, first_iff, h]
  rfl
theorem apart_old {s : State} {i : Nat} (h : (seenTo s i).testBit i = true) : apartTo s (i + 1) = apartTo s i := by
  unfold apartTo
  rw [List.range_succ, List.filter_append, List.map_append, List.filter_cons, first_iff, h]
  simp
end My

set_option linter.all false
namespace My
open Vbptao

/-! the most even shares -/
/-- whether one set is the better: gain, people against the best so far -/
def better (g k G K : Nat) : Bool := if g * K ≠ G * k then decide (G * k < g * K) else decide (K < k)
/-- one turn of the search -/
def pick (n : Nat) (ps : List Product) (done : Nat) (b : Nat × Nat) (m : Nat) : Nat × Nat :=
  if b.1 = 0 ∨ better (value ps (m + done) - value ps done) (size n m) b.2 (size n b.1) = true then (m, value ps (m + done) - value ps done) else b
def cand (n done : Nat) (m : Nat) : Bool := m != 0 && m &&& done == 0
theorem better_iff {g k G K : Nat} : better g k G K = true ↔ (G * k < g * K ∨ (G * k = g * K ∧ K < k)) := by
  unfold better
  by_cases c : g * K ≠ G * k
  · rw [if_pos c, decide_eq_true_eq]
    omega
  · rw [if_neg c, decide_eq_true_eq]
    omega
theorem ite_of {A B : Prop} [Decidable A] [Decidable B] {α : Type} {x y : α} (h : A ↔ B) : (if A then x else y) = if B then x else y := by
  by_cases c : A
  · rw [if_pos c, if_pos (h.mp c)]
  · rw [if_neg c, if_neg (fun q => c (h.mpr q))]
theorem richest_eq (n : Nat) (ps : List Product) (done : Nat) : richest n ps done = ((sets n).filter (cand n done)).foldl (pick n ps done) (0, 0) := by
  unfold richest
  congr 1
  funext b m
  unfold pick
  exact ite_of (or_congr Iff.rfl better_iff.symm)
theorem pick_fst (n : Nat) (ps : List Product) (done : Nat) : ∀ (l : List Nat) (b : Nat × Nat), (∀ m ∈ l, m ≠ 0) → ((l.foldl (pick n ps done) b).1 = b.1 ∧ (l ≠ [] → b.1 ≠ 0)) ∨ (l.foldl (pick n ps done) b).1 ∈ l
  | [], b, _ => .inl ⟨rfl, fun h => absurd rfl h⟩
  | m :: l, b, h => by
    rw [List.foldl_cons]
    have ih := pick_fst n ps done l (pick n ps done b m) fun q hq => h q (List.mem_cons_of_mem _ hq)
    rcases ih with ⟨e, _⟩ | e
    · rw [e]
      unfold pick
      split
      · exact .inr List.mem_cons_self
      · rename_i c
        exact .inl ⟨rfl, fun _ q => c (.inl q)⟩
    · exact .inr (List.mem_cons_of_mem _ e)
theorem richest_ok {n : Nat} {ps : List Product} {done : Nat} (hd : done < 2 ^ n) (hne : done ≠ full n) : (richest n ps done).1 ≠ 0 ∧ (richest n ps done).1 < 2 ^ n ∧ (richest n ps done).1 &&& done = 0 := by
  rw [richest_eq]
  have hz : ∀ m ∈ (sets n).filter (cand n done), m ≠ 0 ∧ m < 2 ^ n ∧ m &&& done = 0 := by
    intro m hm
    rw [List.mem_filter] at hm
    unfold cand at hm
    have := hm.2
    simp only [Bool.and_eq_true, bne_iff_ne, ne_eq, beq_iff_eq] at this
    exact ⟨this.1, List.mem_range.mp hm.1, this.2⟩
  have hl : (sets n).filter (cand n done) ≠ [] := by
    intro e
    have hin : full n - done ∈ (sets n).filter (cand n done) := by
      rw [List.mem_filter]
      have hlt : full n - done < 2 ^ n := by have := full_lt n; omega
      refine ⟨List.mem_range.mpr hlt, ?_⟩
      unfold cand
      simp only [Bool.and_eq_true, bne_iff_ne, ne_eq, beq_iff_eq]
      have := lt_iff_full.mp hd
      refine ⟨by omega, and_zero_of fun i hi => ?_⟩
      rw [full_sub hd] at hi
      simpa using ((Bool.and_eq_true _ _).mp hi).2
    rw [e] at hin
    cases hin
  rcases pick_fst n ps done _ (0, 0) (fun m hm => (hz m hm).1) with ⟨_, h⟩ | h
  · exact absurd rfl (h hl)
  · exact hz _ h
/-- the gain that the search tells is the set's own -/
theorem pick_snd (n : Nat) (ps : List Product) (done : Nat) : ∀ (l : List Nat) (b : Nat × Nat), (b.1 ≠ 0 → b.2 = value ps (b.1 + done) - value ps done) → (b.1 = 0 → b.2 = 0) →
    ((l.foldl (pick n ps done) b).2 = 0 ∧ (l.foldl (pick n ps done) b).1 = 0 ∨ (l.foldl (pick n ps done) b).2 = value ps ((l.foldl (pick n ps done) b).1 + done) - value ps done)
  | [], b, h, h0 => by
    by_cases c : b.1 = 0
    · exact .inl ⟨h0 c, c⟩
    · exact .inr (h c)
  | m :: l, b, h, h0 => by
    rw [List.foldl_cons]
    refine pick_snd n ps done l (pick n ps done b m) ?_ ?_
    · unfold pick
      split
      · intro _
        rfl
      · exact h
    · unfold pick
      split
      · intro e
        have e' : m = 0 := e
        subst e'
        show value ps (0 + done) - value ps done = 0
        rw [Nat.zero_add]
        omega
      · exact h0
theorem richest_gain {n : Nat} {ps : List Product} {done W : Nat} (hW : ∀ m, value ps m ≤ W) : (richest n ps done).2 ≤ W := by
  rw [richest_eq]
  rcases pick_snd n ps done ((sets n).filter (cand n done)) (0, 0) (fun h => absurd rfl h) (fun _ => rfl) with h | h
  · omega
  · have := hW ((((sets n).filter (cand n done)).foldl (pick n ps done) (0, 0)).1 + done)
    omega
/-- what one has by a list of told shares -/
def cut (y : Nat × Nat × Nat) : Nat × Nat := (y.2.1 / Nat.gcd y.2.1 y.2.2, y.2.2 / Nat.gcd y.2.1 y.2.2)
def toldOf (L : List (Nat × Nat × Nat)) (i : Nat) : Nat × Nat := match L.find? fun y => y.1 == i with
  | none => (0, 1)
  | some y => cut y
theorem evenShares_eq (s : State) : evenShares s = (List.range s.n).map (toldOf (even s.n s.products (s.n + 1) 0)) := rfl
theorem toldOf_old {L M : List (Nat × Nat × Nat)} {i : Nat} (h : ∀ y ∈ M, y.1 ≠ i) : toldOf (L ++ M) i = toldOf L i := by
  unfold toldOf
  rw [List.find?_append]
  have : (M.find? fun y => y.1 == i) = none := by
    rw [List.find?_eq_none]
    intro y hy
    simpa using h y hy
  rw [this]
  simp
theorem toldOf_new {L : List (Nat × Nat × Nat)} {i g k : Nat} (h : ∀ y ∈ L, y.1 ≠ i) : toldOf (L ++ [(i, g, k)]) i = cut (i, g, k) := by
  unfold toldOf
  rw [List.find?_append]
  have : (L.find? fun y => y.1 == i) = none := by
    rw [List.find?_eq_none]
    intro y hy
    simpa using h y hy
  rw [this]
  simp
def toldL (n : Nat) (L : List (Nat × Nat × Nat)) : List (Nat × Nat) := (List.range n).map (toldOf L)
theorem toldL_len (n : Nat) (L : List (Nat × Nat × Nat)) : (toldL n L).length = n := by
  unfold toldL
  rw [List.length_map, List.length_range]
theorem toldL_get {n i : Nat} (L : List (Nat × Nat × Nat)) (h : i < n) : (toldL n L)[i]? = some (toldOf L i) := by
  unfold toldL
  rw [List.getElem?_map, List.getElem?_range h]
  rfl
theorem toldL_step {n o g k : Nat} {L : List (Nat × Nat × Nat)} (ho : o < n) (h : ∀ y ∈ L, y.1 ≠ o) : (toldL n L).set o (cut (o, g, k)) = toldL n (L ++ [(o, g, k)]) := by
  apply List.ext_getElem?
  intro j
  by_cases hj : j < n
  · rw [toldL_get _ hj]
    by_cases c : o = j
    · subst c
      rw [List.getElem?_set_self (by rw [toldL_len]; exact ho), toldOf_new h]
    · rw [List.getElem?_set_ne c, toldL_get _ hj, toldOf_old]
      intro y hy
      rw [List.mem_singleton] at hy
      subst hy
      exact c
  · rw [List.getElem?_eq_none (by rw [List.length_set, toldL_len]; omega), List.getElem?_eq_none (by rw [toldL_len]; omega)]
theorem toldL_nil (n : Nat) : toldL n [] = (List.range n).map fun _ => (0, 1) := rfl
theorem even_step {n : Nat} {ps : List Product} {f done : Nat} (h : done ≠ full n) : even n ps (f + 1) done = (members n (richest n ps done).1).map (fun i => (i, (richest n ps done).2, size n (richest n ps done).1)) ++ even n ps f (done + (richest n ps done).1) := by
  show (if done = full n then [] else _) = _
  rw [if_neg h]
theorem even_full {n : Nat} {ps : List Product} (f : Nat) : even n ps f (full n) = [] := by
  cases f with
  | zero => rfl
  | succ f => exact if_pos rfl
/-- a group joins those who come -/
theorem size_grow {n a b : Nat} (ha : a < 2 ^ n) (hb : b < 2 ^ n) (h : a &&& b = 0) (h0 : a ≠ 0) : size n b < size n (b ||| a) := by
  refine size_lt (or_lt hb ha) (fun i hi => by rw [Nat.testBit_or, hi]; rfl) ?_
  intro e
  apply h0
  apply bits_ext
  intro i
  rw [Nat.zero_testBit]
  cases c : a.testBit i with
  | false => rfl
  | true =>
    have : (b ||| a).testBit i = true := by rw [Nat.testBit_or, c]; simp
    rw [← e] at this
    have h2 : (a &&& b).testBit i = true := by rw [Nat.testBit_and, c, this]; rfl
    rw [h, Nat.zero_testBit] at h2
    cases h2
/-! sets put together -/
theorem tb_squeezed {i j m : Nat} (hij : i < j) (k : Nat) : (squeezed i j m).testBit k = if k = i then m.testBit i || m.testBit j else if k < j then m.testBit k else m.testBit (k + 1) := by
  have hr : ∀ k, (m % 2 ^ j + m / 2 ^ (j + 1) * 2 ^ j).testBit k = if k < j then m.testBit k else m.testBit (k + 1) := by
    intro k
    have e : m % 2 ^ j + m / 2 ^ (j + 1) * 2 ^ j = 2 ^ j * (m / 2 ^ (j + 1)) + m % 2 ^ j := by rw [Nat.mul_comm, Nat.add_comm]
    rw [e, Nat.testBit_two_pow_mul_add _ (Nat.mod_lt _ (Nat.two_pow_pos j))]
    by_cases c : k < j
    · rw [if_pos c, if_pos c, Nat.testBit_mod_two_pow]
      simp [c]
    · rw [if_neg c, if_neg c, Nat.testBit_div_two_pow]
      congr 1
      omega
  unfold squeezed
  simp only
  have hri := hr i
  rw [if_pos hij] at hri
  by_cases c : m.testBit j = true ∧ (m % 2 ^ j + m / 2 ^ (j + 1) * 2 ^ j).testBit i = false
  · rw [if_pos c, tb_add_two c.2, hr k]
    by_cases d : k = i
    · subst d
      rw [if_pos rfl, if_pos hij, c.1]
      simp
    · rw [if_neg d]
      have : decide (i = k) = false := decide_eq_false (fun q => d q.symm)
      rw [this, Bool.or_false]
  · rw [if_neg c, hr k]
    by_cases d : k = i
    · subst d
      rw [if_pos rfl, if_pos hij]
      cases e : m.testBit j with
      | false => simp
      | true =>
        rw [e, hri] at c
        cases f : m.testBit k with
        | true => rfl
        | false => exact absurd ⟨rfl, f⟩ c
    · rw [if_neg d]
/-- merged, as the program reckons it -/
theorem merged_eq {i j m : Nat} (hij : i < j) : (if m.testBit j = true then (m &&& full j) ||| 2 ^ i else m &&& full j) ||| (m / 2 ^ (j + 1)) * 2 ^ j = squeezed i j m := by
  apply bits_ext
  intro k
  rw [tb_squeezed hij, Nat.testBit_or]
  have hh : ((m / 2 ^ (j + 1)) * 2 ^ j).testBit k = (decide (j ≤ k) && m.testBit (k + 1)) := by
    rw [Nat.mul_comm, Nat.testBit_two_pow_mul, Nat.testBit_div_two_pow]
    by_cases c : j ≤ k
    · simp only [c, decide_true, Bool.true_and]
      congr 1
      omega
    · simp [c]
  rw [hh]
  have hl : (m &&& full j).testBit k = (m.testBit k && decide (k < j)) := by rw [Nat.testBit_and, tb_full]
  by_cases c : m.testBit j = true
  · rw [if_pos c, tb_or_two, hl]
    by_cases d : k = i
    · subst d
      rw [if_pos rfl, c]
      simp
    · rw [if_neg d]
      have : decide (i = k) = false := decide_eq_false (fun q => d q.symm)
      rw [this, Bool.or_false]
      by_cases e : k < j
      · have e2 : ¬ j ≤ k := by omega
        simp [e, e2]
      · have e2 : j ≤ k := by omega
        simp [e, e2]
  · rw [if_neg c, hl]
    have c' : m.testBit j = false := by simpa using c
    by_cases d : k = i
    · subst d
      have e2 : ¬ j ≤ k := by omega
      rw [if_pos rfl, c']
      simp [hij, e2]
    · rw [if_neg d]
      by_cases e : k < j
      · have e2 : ¬ j ≤ k := by omega
        simp [e, e2]
      · have e2 : j ≤ k := by omega
        simp [e, e2]
theorem squeezed_lt {n i j m : Nat} (hij : i < j) (hj : j < n) (hm : m < 2 ^ n) : squeezed i j m < 2 ^ (n - 1) := by
  apply bits_lt
  intro k hk
  rw [tb_squeezed hij] at hk
  split at hk
  · omega
  · split at hk
    · omega
    · have := lt_bits hm hk
      omega
theorem squeezed_ne {i j m : Nat} (hij : i < j) (h : m ≠ 0) : squeezed i j m ≠ 0 := by
  intro e
  apply h
  have z : ∀ k, (squeezed i j m).testBit k = false := fun k => by rw [e, Nat.zero_testBit]
  apply bits_ext
  intro k
  rw [Nat.zero_testBit]
  by_cases c : k = j
  · subst c
    have := z i
    rw [tb_squeezed hij, if_pos rfl] at this
    exact ((Bool.or_eq_false_iff).mp this).2
  · by_cases d : k < j
    · by_cases q : k = i
      · subst q
        have := z k
        rw [tb_squeezed hij, if_pos rfl] at this
        exact ((Bool.or_eq_false_iff).mp this).1
      · have := z k
        rw [tb_squeezed hij, if_neg q, if_pos d] at this
        exact this
    · have := z (k - 1)
      rw [tb_squeezed hij] at this
      by_cases q : k - 1 = i
      · omega
      · rw [if_neg q, if_neg (by omega)] at this
        have e2 : k - 1 + 1 = k := by omega
        rwa [e2] at this
end My

set_option linter.all false
namespace My
open Vbptao

def inSet (n : Nat) (m : Int) : Prop := 0 ≤ m ∧ m ≤ (full n : Int)
def inOwn (n : Nat) (i : Int) : Prop := 0 ≤ i ∧ i < (n : Int)
instance (n : Nat) (m : Int) : Decidable (inSet n m) := by unfold inSet; infer_instance
instance (n : Nat) (m : Int) : Decidable (inOwn n m) := by unfold inOwn; infer_instance
theorem num_set (s : State) (m : Int) : setIn s m = if inSet s.n m then .ok m.toNat else .error (-3) := rfl
theorem num_own (s : State) (i : Int) : ownerIn s i = if inOwn s.n i then .ok i.toNat else .error (-3) := by
  unfold ownerIn num inOwn
  exact ite_of ⟨fun h => ⟨h.1, by omega⟩, fun h => ⟨h.1, by omega⟩⟩
def areShares (n : Nat) (x : List Int) : Prop := x.length = n ∧ ∀ y ∈ x, -1000000000000 ≤ y ∧ y ≤ 1000000000000
instance (n : Nat) (x : List Int) : Decidable (areShares n x) := by unfold areShares; infer_instance
theorem shares_in (s : State) (x : List Int) : sharesIn s x = if areShares s.n x then .ok x else .error (-4) := by
  unfold sharesIn areShares
  refine ite_of (and_congr Iff.rfl ?_)
  rw [List.all_eq_true]
  constructor
  · intro h y hy
    have := h y hy
    simpa using this
  · intro h y hy
    have := h y hy
    simpa using this
theorem step_of {s : State} {c : List (List Int)} {k : Vbptao.Call} (h : decode c = some k) : step s c = match act s k with
  | .ok x => x
  | .error e => (s, [e]) := by
  unfold step
  simp only [h]
  cases act s k <;> rfl
theorem step_pool (s : State) (n : Int) : step s [[0, n]] = if 1 ≤ n ∧ n ≤ 8 then ({ n := n.toNat, products := [] }, [0]) else (s, [-3]) := by
  rw [step_of (k := .pool n) rfl]
  by_cases c : 1 ≤ n ∧ n ≤ 8
  · rw [if_pos c]
    simp only [act, num, if_pos c, bind, Except.bind, pure, Except.pure]
  · rw [if_neg c]
    simp only [act, num, if_neg c, bind, Except.bind]
theorem step_product (s : State) (k m w : Int) : step s [[1, k, m, w]] =
    if (1 ≤ k ∧ k ≤ 99) ∧ (1 ≤ m ∧ m ≤ (full s.n : Int)) ∧ (0 ≤ w ∧ w ≤ 1000000000) then
      if (productAt s k.toNat).isNone = true then
        if s.products.length < 16 then ({ s with products := putProduct { num := k.toNat, need := m.toNat, worth := w.toNat } s.products }, [((s.products.length + 1 : Nat) : Int)]) else (s, [-9])
      else (s, [-6])
    else (s, [-3]) := by
  rw [step_of (k := .product k m w) rfl]
  by_cases c1 : 1 ≤ k ∧ k ≤ 99
  · by_cases c2 : 1 ≤ m ∧ m ≤ (full s.n : Int)
    · by_cases c3 : 0 ≤ w ∧ w ≤ 1000000000
      · rw [if_pos ⟨c1, c2, c3⟩]
        by_cases c4 : (productAt s k.toNat).isNone = true
        · rw [if_pos c4]
          by_cases c5 : s.products.length < 16
          · rw [if_pos c5]
            have c5' : decide (s.products.length < PRODUCTS) = true := decide_eq_true c5
            simp only [act, num, if_pos c1, if_pos c2, if_pos c3, bind, Except.bind, pure, Except.pure, need, c4, c5', if_true]
          · rw [if_neg c5]
            have c5' : decide (s.products.length < PRODUCTS) = false := decide_eq_false c5
            simp only [act, num, if_pos c1, if_pos c2, if_pos c3, bind, Except.bind, pure, Except.pure, need, c4, c5', if_true]
            rfl
        · rw [if_neg c4]
          simp only [act, num, if_pos c1, if_pos c2, if_pos c3, bind, Except.bind, pure, Except.pure, need, if_neg c4]
      · rw [if_neg (fun q => c3 q.2.2)]
        simp only [act, num, if_pos c1, if_pos c2, if_neg c3, bind, Except.bind]
    · rw [if_neg (fun q => c2 q.2.1)]
      simp only [act, num, if_pos c1, if_neg c2, bind, Except.bind]
  · rw [if_neg (fun q => c1 q.1)]
    simp only [act, num, if_neg c1, bind, Except.bind]
/-- a product by any number -/
def prodAt (s : State) (k : Int) : Option Product := if k < 0 then none else productAt s k.toNat
theorem productIn_eq (s : State) (k : Int) : productIn s k = match prodAt s k with
  | some p => .ok p
  | none => .error (-5) := rfl
theorem step_drop (s : State) (k : Int) : step s [[2, k]] = match prodAt s k with
    | some p => ({ s with products := s.products.filter fun q => q.num != p.num }, [((s.products.length - 1 : Nat) : Int)])
    | none => (s, [-5]) := by
  rw [step_of (k := .drop k) rfl]
  simp only [act, productIn_eq, bind, Except.bind, pure, Except.pure]
  cases prodAt s k <;> rfl
theorem step_worth (s : State) (m : Int) : step s [[3, m]] = (s, if inSet s.n m then [(value s.products m.toNat : Int)] else [-3]) := by
  rw [step_of (k := .worth m) rfl]
  simp only [act, num_set, bind, Except.bind, pure, Except.pure]
  by_cases c : inSet s.n m
  · rw [if_pos c, if_pos c]
  · rw [if_neg c, if_neg c]
theorem step_comes (s : State) (m i : Int) : step s [[4, m, i]] = (s, if inSet s.n m ∧ inOwn s.n i then
      if m.toNat.testBit i.toNat = true then [-7] else [((value s.products (m.toNat + 2 ^ i.toNat) - value s.products m.toNat : Nat) : Int)]
    else [-3]) := by
  rw [step_of (k := .comes m i) rfl]
  simp only [act, num_set, num_own, bind, Except.bind, pure, Except.pure, need]
  by_cases c : inSet s.n m
  · by_cases d : inOwn s.n i
    · rw [if_pos c, if_pos d, if_pos ⟨c, d⟩]
      cases e : m.toNat.testBit i.toNat <;> simp [e]
    · rw [if_pos c, if_neg d, if_neg (fun q => d q.2)]
  · rw [if_neg c, if_neg (show ¬ (inSet s.n m ∧ inOwn s.n i) from fun q => c q.1)]
theorem step_equal (s : State) : step s [[5]] = (s, 0 :: Vbptao.ints (Vbptao.equal s)) := rfl
theorem step_core (s : State) (x : List Int) : step s [[6], x] = (s, if areShares s.n x then
      if shareOf s.n x (full s.n) ≠ (all s : Int) then [2, (all s : Int)] else match objects s.n s.products x with
        | none => [1]
        | some m => [0, (m : Int)]
    else [-4]) := by
  rw [step_of (k := .core x) rfl]
  simp only [act, shares_in, bind, Except.bind, pure, Except.pure]
  by_cases c : areShares s.n x
  · rw [if_pos c, if_pos c]
    simp only
    by_cases d : shareOf s.n x (full s.n) ≠ (all s : Int)
    · rw [if_pos d, if_pos d]
    · rw [if_neg d, if_neg d]
      cases objects s.n s.products x <;> rfl
  · rw [if_neg c, if_neg c]
theorem step_divide (s : State) (x : List Int) : step s [[7], x] = (s, if areShares s.n x then
      if inCore s.n s.products x = true then 0 :: (division s.n s.products x).flatMap fun l => l.map fun y => (y.2 : Int) else [-8]
    else [-4]) := by
  rw [step_of (k := .divide x) rfl]
  simp only [act, shares_in, bind, Except.bind, pure, Except.pure, need]
  by_cases c : areShares s.n x
  · rw [if_pos c, if_pos c]
    simp only
    by_cases d : inCore s.n s.products x = true
    · rw [if_pos d, if_pos d]
    · rw [if_neg d, if_neg d]
  · rw [if_neg c, if_neg c]
theorem step_even (s : State) : step s [[8]] = (s, 0 :: (evenShares s).flatMap fun y => Vbptao.ints [y.1, y.2]) := rfl
theorem step_range (s : State) (i : Int) : step s [[9, i]] = (s, if inOwn s.n i then Vbptao.ints [value s.products (2 ^ i.toNat), all s - value s.products (full s.n - 2 ^ i.toNat)] else [-3]) := by
  rw [step_of (k := .range i) rfl]
  simp only [act, num_own, bind, Except.bind, pure, Except.pure]
  by_cases c : inOwn s.n i
  · rw [if_pos c, if_pos c]
  · rw [if_neg c, if_neg c]
def isOrder (n : Nat) (l : List Int) : Bool := decide (l.length = n) && (List.range n).all fun (i : Nat) => l.contains (i : Int)
theorem step_order (s : State) (l : List Int) : step s [[10], l] = (s, if isOrder s.n l = true then 0 :: Vbptao.ints (Vbptao.ordered s (l.map Int.toNat)) else [-4]) := by
  rw [step_of (k := .ordered l) rfl]
  simp only [act, bind, Except.bind, pure, Except.pure, need]
  by_cases c : isOrder s.n l = true
  · rw [if_pos c]
    unfold isOrder at c
    rw [if_pos c]
  · rw [if_neg c]
    unfold isOrder at c
    rw [if_neg c]
theorem step_merge (s : State) (i j : Int) : step s [[11, i, j]] = if inOwn s.n i ∧ inOwn s.n j then
      if i < j then (merged s i.toNat j.toNat, [((s.n - 1 : Nat) : Int)]) else (s, [-7])
    else (s, [-3]) := by
  rw [step_of (k := .merge i j) rfl]
  simp only [act, num_own, bind, Except.bind, pure, Except.pure, need]
  by_cases c : inOwn s.n i
  · by_cases d : inOwn s.n j
    · rw [if_pos c, if_pos d, if_pos ⟨c, d⟩]
      simp only
      by_cases e : i < j
      · have : i.toNat < j.toNat := by unfold inOwn at *; omega
        rw [if_pos e, if_pos (decide_eq_true this)]
      · have : ¬ i.toNat < j.toNat := by unfold inOwn at *; omega
        rw [if_neg e, if_neg (by simpa using this)]
    · rw [if_pos c, if_neg d, if_neg (fun q => d q.2)]
  · rw [if_neg c, if_neg (show ¬ (inOwn s.n i ∧ inOwn s.n j) from fun q => c q.1)]
theorem step_leaves (s : State) (i : Int) : step s [[12, i]] = (s, if inOwn s.n i then [((all s - value s.products (full s.n - 2 ^ i.toNat) : Nat) : Int)] else [-3]) := by
  rw [step_of (k := .leaves i) rfl]
  simp only [act, num_own, bind, Except.bind, pure, Except.pure]
  by_cases c : inOwn s.n i
  · rw [if_pos c, if_pos c]
  · rw [if_neg c, if_neg c]
theorem step_told (s : State) (k : Int) : step s [[13, k]] = (s, match prodAt s k with
    | some p => Vbptao.ints [p.need, p.worth]
    | none => [-5]) := by
  rw [step_of (k := .told k) rfl]
  simp only [act, productIn_eq, bind, Except.bind, pure, Except.pure]
  cases prodAt s k <;> rfl
theorem step_products (s : State) : step s [[14]] = (s, (s.n : Int) :: Vbptao.ints (s.products.map fun p => p.num)) := rfl
theorem step_owner (s : State) (i : Int) : step s [[15, i]] = (s, if inOwn s.n i then 0 :: Vbptao.ints ((s.products.filter fun p => p.need.testBit i.toNat).map fun p => p.num) else [-3]) := by
  rw [step_of (k := .owner i) rfl]
  simp only [act, num_own, bind, Except.bind, pure, Except.pure]
  by_cases c : inOwn s.n i
  · rw [if_pos c, if_pos c]
  · rw [if_neg c, if_neg c]
theorem step_gap (s : State) (m : Int) (x : List Int) : step s [[16, m], x] = (s, if inSet s.n m then if areShares s.n x then
      [if 0 ≤ shareOf s.n x m.toNat - (value s.products m.toNat : Int) then 0 else 1, shareOf s.n x m.toNat - (value s.products m.toNat : Int)] else [-4] else [-3]) := by
  rw [step_of (k := .gap m x) rfl]
  simp only [act, num_set, shares_in, bind, Except.bind, pure, Except.pure]
  by_cases c : inSet s.n m
  · rw [if_pos c, if_pos c]
    simp only
    by_cases d : areShares s.n x
    · rw [if_pos d, if_pos d]
    · rw [if_neg d, if_neg d]
  · rw [if_neg c, if_neg c]
theorem step_apart (s : State) : step s [[17]] = (s, 0 :: Vbptao.ints (apartTo s s.n)) := rfl
/-! what holds of every state -/
structure WF (s : State) : Prop where
  n1 : 1 ≤ s.n
  n8 : s.n ≤ 8
  sorted : s.products.Pairwise fun p q => p.num < q.num
  num : ∀ p ∈ s.products, 1 ≤ p.num ∧ p.num ≤ 99
  need : ∀ p ∈ s.products, p.need ≠ 0 ∧ p.need < 2 ^ s.n
  worth : ∀ p ∈ s.products, p.worth ≤ 1000000000
  few : s.products.length ≤ 16
theorem wf_start : WF start := ⟨by decide, by decide, .nil, (fun _ h => nomatch h), (fun _ h => nomatch h), (fun _ h => nomatch h), by decide⟩
theorem wf_pool {n : Int} (h : 1 ≤ n ∧ n ≤ 8) : WF { n := n.toNat, products := [] } := by
  refine ⟨?_, ?_, .nil, (fun _ h => nomatch h), (fun _ h => nomatch h), (fun _ h => nomatch h), Nat.zero_le _⟩
  · show 1 ≤ n.toNat
    omega
  · show n.toNat ≤ 8
    omega
theorem put_perm (x : Product) : ∀ l, (putProduct x l).Perm (x :: l)
  | [] => .refl _
  | y :: l => by
    unfold putProduct
    split
    · exact .refl _
    · exact ((put_perm x l).cons y).trans (.swap x y l)
theorem put_mem {x y : Product} {l : List Product} : y ∈ putProduct x l ↔ y = x ∨ y ∈ l := by
  rw [(put_perm x l).mem_iff, List.mem_cons]
theorem put_len (x : Product) (l : List Product) : (putProduct x l).length = l.length + 1 := by
  rw [(put_perm x l).length_eq, List.length_cons]
theorem put_sorted (x : Product) : ∀ l : List Product, l.Pairwise (fun p q => p.num < q.num) → (∀ y ∈ l, y.num ≠ x.num) → (putProduct x l).Pairwise fun p q => p.num < q.num
  | [], _, _ => List.pairwise_singleton _ _
  | y :: l, h, hn => by
    rw [List.pairwise_cons] at h
    unfold putProduct
    split
    · rename_i c
      rw [List.pairwise_cons]
      refine ⟨fun z hz => ?_, List.pairwise_cons.mpr h⟩
      rcases List.mem_cons.mp hz with e | e
      · rw [e]
        exact c
      · have := h.1 z e
        omega
    · rename_i c
      rw [List.pairwise_cons]
      refine ⟨fun z hz => ?_, put_sorted x l h.2 fun q hq => hn q (List.mem_cons_of_mem _ hq)⟩
      rcases put_mem.mp hz with e | e
      · rw [e]
        have := hn y List.mem_cons_self
        omega
      · exact h.1 z e
theorem productAt_none {s : State} {k : Nat} : (productAt s k).isNone = true ↔ ∀ p ∈ s.products, p.num ≠ k := by
  unfold productAt
  rw [Option.isNone_iff_eq_none, List.find?_eq_none]
  simp
theorem productAt_some {s : State} {k : Nat} {p : Product} (h : productAt s k = some p) : p ∈ s.products ∧ p.num = k := by
  unfold productAt at h
  refine ⟨List.mem_of_find?_eq_some h, ?_⟩
  have := List.find?_some h
  simpa using this
theorem wf_put {s : State} (w : WF s) {k m z : Int} (hk : 1 ≤ k ∧ k ≤ 99) (hm : 1 ≤ m ∧ m ≤ (full s.n : Int)) (hz : 0 ≤ z ∧ z ≤ 1000000000) (hn : (productAt s k.toNat).isNone = true) (hl : s.products.length < 16) :
    WF { s with products := putProduct { num := k.toNat, need := m.toNat, worth := z.toNat } s.products } := by
  refine ⟨w.n1, w.n8, put_sorted _ _ w.sorted (productAt_none.mp hn), ?_, ?_, ?_, ?_⟩
  · intro p hp
    rcases put_mem.mp hp with e | e
    · subst e
      show 1 ≤ k.toNat ∧ k.toNat ≤ 99
      omega
    · exact w.num p e
  · intro p hp
    rcases put_mem.mp hp with e | e
    · subst e
      refine ⟨?_, lt_iff_full.mpr ?_⟩
      · show m.toNat ≠ 0
        omega
      · show m.toNat ≤ full s.n
        omega
    · exact w.need p e
  · intro p hp
    rcases put_mem.mp hp with e | e
    · subst e
      show z.toNat ≤ 1000000000
      omega
    · exact w.worth p e
  · rw [put_len]
    omega
theorem wf_filter {s : State} (w : WF s) (f : Product → Bool) : WF { s with products := s.products.filter f } := by
  refine ⟨w.n1, w.n8, w.sorted.sublist List.filter_sublist, fun p hp => w.num p (List.mem_filter.mp hp).1, fun p hp => w.need p (List.mem_filter.mp hp).1, fun p hp => w.worth p (List.mem_filter.mp hp).1, ?_⟩
  exact Nat.le_trans (List.length_filter_le _ _) w.few
theorem wf_merged {s : State} (w : WF s) {i j : Nat} (hij : i < j) (hj : j < s.n) : WF (merged s i j) := by
  refine ⟨?_, ?_, ?_, ?_, ?_, ?_, ?_⟩
  · show 1 ≤ s.n - 1
    omega
  · show s.n - 1 ≤ 8
    have := w.n8
    omega
  · show (s.products.map fun p => { p with need := squeezed i j p.need }).Pairwise _
    rw [List.pairwise_map]
    exact w.sorted
  · intro p hp
    obtain ⟨q, hq, rfl⟩ := List.mem_map.mp hp
    exact w.num q hq
  · intro p hp
    obtain ⟨q, hq, rfl⟩ := List.mem_map.mp hp
    exact ⟨squeezed_ne hij (w.need q hq).1, squeezed_lt hij hj (w.need q hq).2⟩
  · intro p hp
    obtain ⟨q, hq, rfl⟩ := List.mem_map.mp hp
    exact w.worth q hq
  · show (s.products.map _).length ≤ 16
    rw [List.length_map]
    exact w.few
theorem WF.lt {s : State} (w : WF s) : ∀ p ∈ s.products, p.need < 2 ^ s.n := fun p hp => (w.need p hp).2
theorem WF.ne {s : State} (w : WF s) : ∀ p ∈ s.products, p.need ≠ 0 := fun p hp => (w.need p hp).1
theorem WF.value_le {s : State} (w : WF s) (m : Nat) : value s.products m ≤ 16000000000 := by
  have h1 := My.value_le w.worth m
  have h2 := w.few
  have : s.products.length * 1000000000 ≤ 16 * 1000000000 := Nat.mul_le_mul_right _ h2
  omega
/-! the order of all owners -/
theorem perm_of_sub : ∀ (r l : List Int), r.Nodup → (∀ x ∈ r, x ∈ l) → l.length = r.length → l.Perm r
  | [], l, _, _, h => by
    have : l = [] := List.eq_nil_of_length_eq_zero h
    rw [this]
  | a :: r, l, nd, hs, h => by
    rw [List.nodup_cons] at nd
    have ha := hs a List.mem_cons_self
    have h1 := List.perm_cons_erase ha
    refine h1.trans (.cons a (perm_of_sub r (l.erase a) nd.2 (fun x hx => ?_) ?_))
    · have hne : x ≠ a := fun e => nd.1 (e ▸ hx)
      exact (List.mem_erase_of_ne hne).mpr (hs x (List.mem_cons_of_mem _ hx))
    · rw [List.length_erase_of_mem ha, h]
      rfl
def upTo (n : Nat) : List Int := (List.range n).map fun (i : Nat) => (i : Int)
theorem upTo_nodup (n : Nat) : (upTo n).Nodup := by
  unfold upTo
  rw [List.Nodup, List.pairwise_map]
  exact List.nodup_range.imp fun h e => h (by omega)
theorem upTo_sorted (n : Nat) : (upTo n).Pairwise (· ≤ ·) := by
  unfold upTo
  rw [List.pairwise_map]
  exact List.pairwise_lt_range.imp fun h => by omega
theorem mem_upTo {n : Nat} {i : Int} : i ∈ upTo n ↔ 0 ≤ i ∧ i < (n : Int) := by
  unfold upTo
  rw [List.mem_map]
  constructor
  · rintro ⟨a, h, rfl⟩
    rw [List.mem_range] at h
    omega
  · rintro ⟨h1, h2⟩
    exact ⟨i.toNat, List.mem_range.mpr (by omega), by omega⟩
theorem sorted_same : ∀ {l m : List Int}, l.Perm m → l.Pairwise (· ≤ ·) → m.Pairwise (· ≤ ·) → l = m := by
  intro l m h1 h2 h3
  exact h1.eq_of_pairwise (fun a b _ _ h h' => by omega) h2 h3
theorem isOrder_perm {n : Nat} {l : List Int} : isOrder n l = true ↔ l.Perm (upTo n) := by
  unfold isOrder
  rw [Bool.and_eq_true, decide_eq_true_eq, List.all_eq_true]
  constructor
  · rintro ⟨h1, h2⟩
    refine perm_of_sub _ _ (upTo_nodup n) (fun x hx => ?_) ?_
    · obtain ⟨a, h, rfl⟩ := List.mem_map.mp hx
      have := h2 a h
      rwa [List.contains_iff_mem] at this
    · unfold upTo
      rw [List.length_map, List.length_range, h1]
  · intro h
    refine ⟨?_, fun a ha => ?_⟩
    · rw [h.length_eq]
      unfold upTo
      rw [List.length_map, List.length_range]
    · rw [List.contains_iff_mem, h.mem_iff]
      exact List.mem_map.mpr ⟨a, ha, rfl⟩
theorem isOrder_iff {n : Nat} {l ns : List Int} (hp : ns.Perm l) (hs : ns.Pairwise (· ≤ ·)) : isOrder n l = true ↔ ns = upTo n := by
  rw [isOrder_perm]
  constructor
  · intro h
    exact sorted_same (hp.trans h) hs (upTo_sorted n)
  · intro h
    rw [← h]
    exact hp.symm
end My

set_option linter.all false
namespace My
open Vbptao
theorem members_full (n : Nat) : members n (full n) = List.range n := by
  unfold members
  rw [List.filter_eq_self]
  intro i hi
  exact full_two (List.mem_range.mp hi)
theorem map_getD (x : List Int) : ((List.range x.length).map fun i => x.getD i 0) = x := by
  apply List.ext_getElem?
  intro j
  rw [List.getElem?_map]
  by_cases h : j < x.length
  · rw [List.getElem?_range h, List.getElem?_eq_getElem h]
    show some (x.getD j 0) = some x[j]
    rw [List.getD_eq_getElem?_getD, List.getElem?_eq_getElem h]
    rfl
  · rw [List.getElem?_eq_none (l := List.range _) (by rw [List.length_range]; omega), List.getElem?_eq_none (by omega)]
    rfl
theorem share_full (x : List Int) : shareOf x.length x (full x.length) = x.sum := by
  unfold shareOf
  rw [sumInt_eq, members_full, map_getD]
theorem find_range_some {N i : Nat} {p : Nat → Bool} (hi : i < N) (h : ∀ j, j < i → p j = false) (hp : p i = true) : (List.range N).find? p = some i := by
  obtain ⟨d, rfl⟩ := Nat.le.dest (show i + 1 ≤ N from hi)
  rw [List.range_add, List.find?_append]
  have : (List.range (i + 1)).find? p = some i := by
    rw [List.range_succ, List.find?_append]
    have h0 : (List.range i).find? p = none := by
      rw [List.find?_eq_none]
      intro j hj
      rw [h j (List.mem_range.mp hj)]
      decide
    rw [h0, List.find?_cons, hp]
    rfl
  rw [this]
  rfl
theorem find_range_none {N : Nat} {p : Nat → Bool} (h : ∀ j, j < N → p j = false) : (List.range N).find? p = none := by
  rw [List.find?_eq_none]
  intro j hj
  rw [h j (List.mem_range.mp hj)]
  decide
theorem inCore_eq (x : List Int) (ps : List Product) : inCore x.length ps x = (decide (x.sum = (value ps (full x.length) : Int)) && (objects x.length ps x).isNone) := by
  unfold inCore
  rw [share_full, Bool.beq_eq_decide_eq]
theorem join_take {ps : List Product} {m i : Nat} {q : Product} (h : ps[i]? = some q) :
    (ps.take (i + 1)).foldl (fun a p => if p.need &&& m == 0 then a else a ||| p.need) m =
      if q.need &&& m ≠ 0 then (ps.take i).foldl (fun a p => if p.need &&& m == 0 then a else a ||| p.need) m ||| q.need else (ps.take i).foldl (fun a p => if p.need &&& m == 0 then a else a ||| p.need) m := by
  rw [List.take_add_one, h, List.foldl_append]
  show (if q.need &&& m == 0 then _ else _) = _
  by_cases c : q.need &&& m = 0
  · rw [if_pos (by simpa using c), if_neg (by simpa using c)]
  · rw [if_neg (by simpa using c), if_pos c]
/-- the gcd, as the program reckons it -/
theorem gcd_turn {a b : Nat} (h : 0 < a) : Nat.gcd (b % a) a = Nat.gcd a b := (Nat.gcd_rec a b).symm
/-- ranges and rests -/
theorem rest_two {n i : Nat} (h : i < n) : 2 ^ i ≤ full n := two_le (full_two h)
theorem full_cast_sub {n m : Nat} (h : m ≤ full n) : ((full n : Nat) : Int) - (m : Int) = ((full n - m : Nat) : Int) := (Int.ofNat_sub h).symm
theorem inside_rest {n done m : Nat} (hd : done < 2 ^ n) (hm : m < 2 ^ n) : inside m (full n - done) = decide (m &&& done = 0) := by
  rw [Bool.eq_iff_iff, inside_iff, decide_eq_true_eq]
  constructor
  · intro h
    apply and_zero_of
    intro i hi
    have := h i hi
    rw [full_sub hd] at this
    simpa using ((Bool.and_eq_true _ _).mp this).2
  · intro h i hi
    rw [full_sub hd]
    have h1 := lt_bits hm hi
    have h2 : done.testBit i = false := by
      cases c : done.testBit i with
      | false => rfl
      | true =>
        have : (m &&& done).testBit i = true := by rw [Nat.testBit_and, hi, c]; rfl
        rw [h, Nat.zero_testBit] at this
        cases this
    simp [h1, h2]
theorem or_disj {a b : Nat} (h : a &&& b = 0) : b ||| a = a + b := by
  rw [Nat.or_comm]
  exact (add_or h).symm
end My

set_option linter.all false
namespace My
open Vbptao
/-! ### the calls' shapes -/
/-- a call of the document's, with rows of at most 20 -/
inductive Form : List (List Int) → Prop
  | one (c x : Int) (h : c = 0 ∨ c = 2 ∨ c = 3 ∨ c = 9 ∨ c = 12 ∨ c = 13 ∨ c = 15) : Form [[c, x]]
  | three (x y z : Int) : Form [[1, x, y, z]]
  | two (c x y : Int) (h : c = 4 ∨ c = 11) : Form [[c, x, y]]
  | non (c : Int) (h : c = 5 ∨ c = 8 ∨ c = 14 ∨ c = 17) : Form [[c]]
  | row (c : Int) (x : List Int) (h : c = 6 ∨ c = 7 ∨ c = 10) (hx : x.length ≤ 20) : Form [[c], x]
  | gap (m : Int) (x : List Int) (hx : x.length ≤ 20) : Form [[16, m], x]
theorem row_20 {x : List Int} (h : VbptaoNeutral.row x = true) : x.length ≤ 20 := by
  unfold VbptaoNeutral.row at h
  rw [Bool.and_eq_true, decide_eq_true_eq] at h
  exact h.1
theorem len1 {a : List Int} (h : a.length = 1) : ∃ x, a = [x] := List.length_eq_one_iff.mp h
theorem form_of {c : List (List Int)} (ok : PyFlat.okCall PyVbptao.shape c) (as : VbptaoNeutral.asked1 (PyVbptao.whole c) = true) : Form c ∧ PyVbptao.whole c = c := by
  obtain ⟨p, a, xs, rfl, h⟩ := ok
  unfold PyVbptao.shape at h
  have pr : ∀ {n k : Nat}, some (n, k) = some (a.length, xs.length) → a.length = n ∧ xs.length = k := fun e => ⟨(congrArg Prod.fst (Option.some.inj e)).symm, (congrArg Prod.snd (Option.some.inj e)).symm⟩
  have nil0 : xs.length = 0 → xs = [] := List.eq_nil_of_length_eq_zero
  have nila : a.length = 0 → a = [] := List.eq_nil_of_length_eq_zero
  have two : a.length = 2 → ∃ x y, a = [x, y] := fun e => by
    match a, e with
    | [x, y], _ => exact ⟨x, y, rfl⟩
  have three : a.length = 3 → ∃ x y z, a = [x, y, z] := fun e => by
    match a, e with
    | [x, y, z], _ => exact ⟨x, y, z, rfl⟩
  have onex : xs.length = 1 → ∃ r, xs = [r] := fun e => by
    match xs, e with
    | [r], _ => exact ⟨r, rfl⟩
  by_cases c0 : p = 0
  · subst c0
    rw [if_pos rfl] at h
    obtain ⟨h1, h2⟩ := pr h
    obtain ⟨x, rfl⟩ := len1 h1
    obtain rfl := nil0 h2
    exact ⟨.one _ _ (by omega), rfl⟩
  rw [if_neg c0] at h
  by_cases c1 : p = 1
  · subst c1
    rw [if_pos rfl] at h
    obtain ⟨h1, h2⟩ := pr h
    obtain ⟨x, y, z, rfl⟩ := three h1
    obtain rfl := nil0 h2
    exact ⟨.three _ _ _, rfl⟩
  rw [if_neg c1] at h
  by_cases c2 : p = 2
  · subst c2
    rw [if_pos rfl] at h
    obtain ⟨h1, h2⟩ := pr h
    obtain ⟨x, rfl⟩ := len1 h1
    obtain rfl := nil0 h2
    exact ⟨.one _ _ (by omega), rfl⟩
  rw [if_neg c2] at h
  by_cases c3 : p = 3
  · subst c3
    rw [if_pos rfl] at h
    obtain ⟨h1, h2⟩ := pr h
    obtain ⟨x, rfl⟩ := len1 h1
    obtain rfl := nil0 h2
    exact ⟨.one _ _ (by omega), rfl⟩
  rw [if_neg c3] at h
  by_cases c4 : p = 4
  · subst c4
    rw [if_pos rfl] at h
    obtain ⟨h1, h2⟩ := pr h
    obtain ⟨x, y, rfl⟩ := two h1
    obtain rfl := nil0 h2
    exact ⟨.two _ _ _ (by omega), rfl⟩
  rw [if_neg c4] at h
  by_cases c5 : p = 5
  · subst c5
    rw [if_pos rfl] at h
    obtain ⟨h1, h2⟩ := pr h
    obtain rfl := nila h1
    obtain rfl := nil0 h2
    exact ⟨.non _ (by omega), rfl⟩
  rw [if_neg c5] at h
  by_cases c6 : p = 6
  · subst c6
    rw [if_pos rfl] at h
    obtain ⟨h1, h2⟩ := pr h
    obtain rfl := nila h1
    obtain ⟨r, rfl⟩ := onex h2
    exact ⟨.row _ _ (by omega) (row_20 as), rfl⟩
  rw [if_neg c6] at h
  by_cases c7 : p = 7
  · subst c7
    rw [if_pos rfl] at h
    obtain ⟨h1, h2⟩ := pr h
    obtain rfl := nila h1
    obtain ⟨r, rfl⟩ := onex h2
    exact ⟨.row _ _ (by omega) (row_20 as), rfl⟩
  rw [if_neg c7] at h
  by_cases c8 : p = 8
  · subst c8
    rw [if_pos rfl] at h
    obtain ⟨h1, h2⟩ := pr h
    obtain rfl := nila h1
    obtain rfl := nil0 h2
    exact ⟨.non _ (by omega), rfl⟩
  rw [if_neg c8] at h
  by_cases c9 : p = 9
  · subst c9
    rw [if_pos rfl] at h
    obtain ⟨h1, h2⟩ := pr h
    obtain ⟨x, rfl⟩ := len1 h1
    obtain rfl := nil0 h2
    exact ⟨.one _ _ (by omega), rfl⟩
  rw [if_neg c9] at h
  by_cases c10 : p = 10
  · subst c10
    rw [if_pos rfl] at h
    obtain ⟨h1, h2⟩ := pr h
    obtain rfl := nila h1
    obtain ⟨r, rfl⟩ := onex h2
    exact ⟨.row _ _ (by omega) (row_20 as), rfl⟩
  rw [if_neg c10] at h
  by_cases c11 : p = 11
  · subst c11
    rw [if_pos rfl] at h
    obtain ⟨h1, h2⟩ := pr h
    obtain ⟨x, y, rfl⟩ := two h1
    obtain rfl := nil0 h2
    exact ⟨.two _ _ _ (by omega), rfl⟩
  rw [if_neg c11] at h
  by_cases c12 : p = 12
  · subst c12
    rw [if_pos rfl] at h
    obtain ⟨h1, h2⟩ := pr h
    obtain ⟨x, rfl⟩ := len1 h1
    obtain rfl := nil0 h2
    exact ⟨.one _ _ (by omega), rfl⟩
  rw [if_neg c12] at h
  by_cases c13 : p = 13
  · subst c13
    rw [if_pos rfl] at h
    obtain ⟨h1, h2⟩ := pr h
    obtain ⟨x, rfl⟩ := len1 h1
    obtain rfl := nil0 h2
    exact ⟨.one _ _ (by omega), rfl⟩
  rw [if_neg c13] at h
  by_cases c14 : p = 14
  · subst c14
    rw [if_pos rfl] at h
    obtain ⟨h1, h2⟩ := pr h
    obtain rfl := nila h1
    obtain rfl := nil0 h2
    exact ⟨.non _ (by omega), rfl⟩
  rw [if_neg c14] at h
  by_cases c15 : p = 15
  · subst c15
    rw [if_pos rfl] at h
    obtain ⟨h1, h2⟩ := pr h
    obtain ⟨x, rfl⟩ := len1 h1
    obtain rfl := nil0 h2
    exact ⟨.one _ _ (by omega), rfl⟩
  rw [if_neg c15] at h
  by_cases c16 : p = 16
  · subst c16
    rw [if_pos rfl] at h
    obtain ⟨h1, h2⟩ := pr h
    obtain ⟨x, rfl⟩ := len1 h1
    obtain ⟨r, rfl⟩ := onex h2
    refine ⟨.gap _ _ (row_20 ?_), rfl⟩
    have as' : (VbptaoNeutral.whole x && VbptaoNeutral.row r) = true := as
    rw [Bool.and_eq_true] at as'
    exact as'.2
  rw [if_neg c16] at h
  by_cases c17 : p = 17
  · subst c17
    rw [if_pos rfl] at h
    obtain ⟨h1, h2⟩ := pr h
    obtain rfl := nila h1
    obtain rfl := nil0 h2
    exact ⟨.non _ (by omega), rfl⟩
  rw [if_neg c17] at h
  cases h
/-! ### a step keeps the state well formed, and answers little -/
theorem wf_step {s : State} (w : WF s) {c : List (List Int)} (f : Form c) : WF (step s c).1 := by
  cases f with
  | one c x h =>
    rcases h with rfl | rfl | rfl | rfl | rfl | rfl | rfl
    · rw [step_pool]
      split
      · rename_i h
        exact wf_pool h
      · exact w
    · rw [step_drop]
      split
      · exact wf_filter w _
      · exact w
    · rw [step_worth]
      exact w
    · rw [step_range]
      exact w
    · rw [step_leaves]
      exact w
    · rw [step_told]
      exact w
    · rw [step_owner]
      exact w
  | three x y z =>
    rw [step_product]
    split
    · rename_i h
      split
      · rename_i h2
        split
        · rename_i h3
          exact wf_put w h.1 h.2.1 h.2.2 h2 h3
        · exact w
      · exact w
    · exact w
  | two c x y h =>
    rcases h with rfl | rfl
    · rw [step_comes]
      exact w
    · rw [step_merge]
      split
      · rename_i h
        split
        · rename_i h2
          refine wf_merged w ?_ ?_
          · have := h.1.1
            have := h.2.1
            omega
          · have := h.2.1
            have := h.2.2
            omega
        · exact w
      · exact w
  | non c h =>
    rcases h with rfl | rfl | rfl | rfl
    · exact w
    · exact w
    · exact w
    · exact w
  | row c x h hx =>
    rcases h with rfl | rfl | rfl
    · rw [step_core]
      exact w
    · rw [step_divide]
      exact w
    · rw [step_order]
      exact w
  | gap m x hx =>
    rw [step_gap]
    exact w
end My

set_option Elab.async false
set_option linter.all false
set_option maxRecDepth 100000
set_option maxHeartbeats 2000000
namespace Ro
open PySem PySem.Spec PyProof.Rows L2 Evl
abbrev Pr := Vbptao.Product
/-! ### the text -/
def top (i : Nat) : Stmt := PySem.Challenge.pw_royaltypools_s01_answers.main.body.getD i (.Pass ⟨0, 0, 0, 0⟩)

/-! ### a def that may be called by its name -/
structure Cal (P : Program) (w : World) (K : PySem.W.Frag) (mg : Str → Option Value) (base : Heap) (k : Nat) (x : Str) (sp : Sp) : Prop where
  ex : ∃ (f : Addr) (fd : FuncData) (ps : List Str), FnOk P w K mg base CX0 k f fd ps sp ∧ mg x = some (.ref f) ∧ PySem.W.keepIn K (.ref f) = true ∧ Binds K fd ps []
/-- a def of the module under the name y -/
structure Def (K : PySem.W.Frag) (mg : Str → Option Value) (x : Str) (st : Stmt) (y : Str) : Prop where
  ex : ∃ (f : Addr) (fd : FuncData), L2.Fun K x x st f fd ∧ mg y = some (.ref f)
section
variable {P : Program} {w : World} {K : PySem.W.Frag} {mg : Str → Option Value} {base : Heap}
theorem Def.cal {x y : Str} {st : Stmt} {N ps : List Str} {k : Nat} {sp : Sp} (F : Def K mg x st y) (S : FnScope N ps (defScope st)) (len : ∀ vs H Q E, sp vs H Q E → vs.length = ps.length)
    (hb : ∀ (kV doc pm : Value) (an : Option Addr) (cdv ct : Value) (us : List Value), us.length = ps.length → bindArgs (PySem.W.fnOf x x (defArgs st) (defBody st) (defScope st) .none kV doc pm an cdv ct) ⟨us, []⟩ = pure (ps.zip us))
    (hbody : ∀ (cdv : Value) (f : Addr) (A : Around) (outer : List Env) (s : Shared) (H : Hp) (vs : List V) (Q : VK) (E : XK), Room k (A.deeper (envOfC x (defScope st) s.heap.objs.size f cdv)) → sp vs H Q E →
      ∃ t, PSs (cxOf CX0 P w K mg base N x (defScope st) f cdv A outer s H E).nox (defBody st) t ∧ t { nx := fun _ H' => Q .non H', rt := Q } (start N vs) H) : Cal P w K mg base (k + 1) y sp := by
  obtain ⟨f, fd, F, hm⟩ := F.ex
  exact ⟨f, fd, ps, F.ok S len fun cdv A outer s H vs Q E hr h => hbody cdv f A outer s H vs Q E hr h, hm, F.kp, F.binds hb⟩
end
section
variable {X : Cx} {k j : Nat} {x : Str} {sp : Sp} {p pos : Pos} {e : Expr} {es : List Expr} {t : TA}
theorem pe_c (c : Cal X.prog X.w X.K X.mg X.base k x sp) (hr : Room j X.A) (hk : k ≤ j) (ha : PA X (e :: es) t) (hg : Gl X x := by rfl)
    (hdb : (x == ("__debug__" : Str)) = false := by decide) (he : starEach (e :: es) X.env = (false, eval e X.env) :: starEach es X.env := by rfl) (hpl : (backTo pos (starEach es X.env)).any (·.1) = false := by rfl) :
    PE X (.Call (.Name x p) (e :: es) [] pos) (tCall sp [] E0 t) := by
  obtain ⟨f, fd, ps, F, hm, kp, b⟩ := c.ex
  exact pe_call F (hr.mono hk) hg hm kp b .nil pass0 ha hdb he hpl
end
/-! ### promises: a value, a new list -/
def PV (args : List V → Hp → V → Prop) : Sp := fun vs H Q _ => ∃ v, args vs H v ∧ RetV v H Q
def PL (args : List V → Hp → List V → Prop) : Sp := fun vs H Q _ => ∃ xs, args vs H xs ∧ RetL xs H Q
theorem PV.ev {args : List V → Hp → V → Prop} {vs : List V} {H : Hp} {v : V} (h : ∀ H1, Ex H H1 → args vs H1 v) : SpV (PV args) vs H v := fun H1 e _ q _ => ⟨v, h H1 e, q⟩
theorem PL.ev {args : List V → Hp → List V → Prop} {vs : List V} {H : Hp} {xs : List V} (h : ∀ H1, Ex H H1 → args vs H1 xs) : SpL (PL args) vs H xs := fun H1 e _ q _ => ⟨xs, h H1 e, q⟩
section
variable {σ : L2.St} {H : Hp} {z : V} {xs vs : List V} {ta : TA}
theorem ev_cv {args : List V → Hp → V → Prop} (h : EvA ta σ H vs) (hs : ∀ H1, Ex H H1 → args vs H1 z) : Ev (tCall (PV args) [] E0 ta) σ H z := ev_call h (by rw [List.append_nil]; exact PV.ev hs)
theorem el_cv {args : List V → Hp → List V → Prop} (h : EvA ta σ H vs) (hs : ∀ H1, Ex H H1 → args vs H1 xs) : EvL (tCall (PL args) [] E0 ta) σ H xs := el_call h (by rw [List.append_nil]; exact PL.ev hs)
end
/-! ### numbers from nought -/
theorem band (a b : Nat) : Builtin.bitAnd (a : Int) (b : Int) = ((a &&& b : Nat) : Int) := by
  rw [bitAnd_pp (Int.natCast_nonneg a) (Int.natCast_nonneg b), Int.toNat_natCast, Int.toNat_natCast]
theorem bor (a b : Nat) : Builtin.bitOr (a : Int) (b : Int) = ((a ||| b : Nat) : Int) := by
  rw [bitOr_nn (Int.natCast_nonneg a) (Int.natCast_nonneg b), Int.toNat_natCast, Int.toNat_natCast]
theorem two_cast (i : Nat) : (2 : Int) ^ ((i : Int).toNat) = ((2 ^ i : Nat) : Int) := by
  rw [Int.toNat_natCast, Int.natCast_pow]
  rfl
theorem shl1 (i : Nat) : (1 : Int) * 2 ^ ((i : Int).toNat) = ((2 ^ i : Nat) : Int) := by rw [two_cast, Int.one_mul]
theorem shrN (m i : Nat) : (m : Int) / 2 ^ ((i : Int).toNat) = ((m / 2 ^ i : Nat) : Int) := by rw [two_cast]; exact (Int.natCast_ediv m (2 ^ i)).symm
def rAnd : R2 := rI0 fun i j => .int (Builtin.bitAnd i j)
def rOr : R2 := rI0 fun i j => .int (Builtin.bitOr i j)
def rShl : R2 := rI CPow fun i j => .int (i * 2 ^ j.toNat)
def rShr : R2 := rI (fun _ j => 0 ≤ j) fun i j => .int (i / 2 ^ j.toNat)
section
variable {σ : L2.St} {H : Hp} {ta tb : TE}
theorem ev_and {a b : Nat} (h1 : Ev ta σ H (.int a)) (h2 : Ev tb σ H (.int b)) : Ev (tOp rAnd ta tb) σ H (.int ((a &&& b : Nat) : Int)) := ev_is (ev_op h1 h2 rv_I0) (congrArg V.int (band a b))
theorem ev_or {a b : Nat} (h1 : Ev ta σ H (.int a)) (h2 : Ev tb σ H (.int b)) : Ev (tOp rOr ta tb) σ H (.int ((a ||| b : Nat) : Int)) := ev_is (ev_op h1 h2 rv_I0) (congrArg V.int (bor a b))
theorem ev_shr {a b : Nat} (h1 : Ev ta σ H (.int a)) (h2 : Ev tb σ H (.int b)) : Ev (tOp rShr ta tb) σ H (.int ((a / 2 ^ b : Nat) : Int)) := ev_is (ev_op h1 h2 (rv_I (Int.natCast_nonneg b))) (congrArg V.int (shrN a b))
theorem cpow {a b : Nat} (ha : a < 2 ^ 64) (hb : b ≤ 1000000) : CPow (a : Int) (b : Int) := ⟨Int.natCast_nonneg b, by omega, by rw [Int.natAbs_natCast]; exact ha⟩
theorem ev_shl {a b : Nat} (h1 : Ev ta σ H (.int a)) (h2 : Ev tb σ H (.int b)) (ha : a < 2 ^ 64) (hb : b ≤ 1000000) : Ev (tOp rShl ta tb) σ H (.int ((a * 2 ^ b : Nat) : Int)) :=
  ev_is (ev_op h1 h2 (rv_I (cpow ha hb))) (congrArg V.int (by rw [two_cast, Int.natCast_mul]))
theorem ev_shl1 {b : Nat} (h2 : Ev tb σ H (.int b)) (hb : b ≤ 1000000) : Ev (tOp rShl (tC (.int 1)) tb) σ H (.int ((2 ^ b : Nat) : Int)) :=
  ev_is (ev_shl (a := 1) ev_c h2 (by decide) hb) (by rw [Nat.one_mul])
def rAddI : R2 := rI0 fun i j => .int (i + j)
def rSubI : R2 := rI0 fun i j => .int (i - j)
theorem ev_add {a b : Int} (h1 : Ev ta σ H (.int a)) (h2 : Ev tb σ H (.int b)) : Ev (tOp rAddI ta tb) σ H (.int (a + b)) := ev_op h1 h2 rv_I0
theorem ev_sub {a b : Int} (h1 : Ev ta σ H (.int a)) (h2 : Ev tb σ H (.int b)) : Ev (tOp rSubI ta tb) σ H (.int (a - b)) := ev_op h1 h2 rv_I0
theorem ev_eqI {a b : Int} (h1 : Ev ta σ H (.int a)) (h2 : Ev tb σ H (.int b)) : Ev (tOp rEq ta tb) σ H (.bl (decide (a = b))) := ev_is (ev_op h1 h2 (rv_eq rfl)) (by rw [dec_int, Bool.beq_eq_decide_eq])
theorem ev_neI {a b : Int} (h1 : Ev ta σ H (.int a)) (h2 : Ev tb σ H (.int b)) : Ev (tOp rNe ta tb) σ H (.bl (!decide (a = b))) := ev_is (ev_op h1 h2 (rv_ne rfl)) (by rw [dec_int, Bool.beq_eq_decide_eq])
end
/-! ### has(owners, owner) -/
abbrev sHas : Stmt := top 1
def aHas : List V → Hp → V → Prop := fun vs _ v => ∃ m i : Nat, vs = [.int m, .int i] ∧ v = .bl (m.testBit i)
theorem scHas : FnScope ["owners", "owner"] ["owners", "owner"] (defScope sHas) := ⟨rfl, rfl, rfl, by decide +kernel, rfl, by decide +kernel, by decide +kernel⟩
section
variable {P : Program} {w : World} {K : PySem.W.Frag} {mg : Str → Option Value} {base : Heap}
theorem ok_has (F : Def K mg "has" sHas "has") : Cal P w K mg base 1 "has" (PV aHas) := by
  refine F.cal scHas (fun vs H Q E h => ?_) (fun _ _ _ _ _ _ us hl => match us, hl with | [_, _], _ => rfl) (fun cdv f A outer s H vs Q E hr h => ⟨_,
    pss_one (ps_ret (pe_cmpR op_eq (pe_op op_and (pe_op op_shr (pv 0) (pv 1)) pe_int) pe_int (nomark _))), ?_⟩)
  · obtain ⟨_, ⟨m, i, rfl, _⟩, _⟩ := h
    rfl
  · obtain ⟨_, ⟨m, i, rfl, rfl⟩, k⟩ := h
    refine s_ret (ev_is (ev_eqI (ev_and (b := 1) (ev_shr (ev_var rfl) (ev_var rfl)) ev_c) ev_c) ?_) k
    rw [← My.has_eq]
    congr 2
    apply propext
    constructor
    · intro h
      exact_mod_cast h
    · intro h
      exact_mod_cast h
end
end Ro

set_option Elab.async false
set_option linter.all false
set_option maxRecDepth 100000
set_option maxHeartbeats 2000000
namespace Ro
open PySem PySem.Spec PyProof.Rows L2 Evl
theorem mgN {K : PySem.W.Frag} {h : Heap} {mg : Str → Option Value} {n : Str} (X : K.In h) (G : h.Ns mainGlobals mg) (e : PySem.W.nsIn K mainGlobals n = some none) : mg n = none := PySem.W.mg_none_of X G e
/-! ### a comprehension over anything that walks: the items of a list l of data -/
def Made (H1 : Hp) (D : Addr) (acc : List V) (H' : Hp) : Prop := Ex H1 H' ∧ H' D = some (.lst acc)
theorem take_filter_yes {α : Type} {l : List α} {m : Nat} {q : α} {p : α → Bool} {v : α → V} (h : l[m]? = some q) (hp : p q = true) : ((l.take (m + 1)).filter p).map v = ((l.take m).filter p).map v ++ [v q] := by
  rw [List.take_add_one, h, List.filter_append, List.map_append]
  show _ ++ (List.filter p [q]).map v = _
  rw [List.filter_cons, if_pos hp] <;> rfl
theorem take_filter_no {α : Type} {l : List α} {m : Nat} {q : α} {p : α → Bool} {v : α → V} (h : l[m]? = some q) (hp : p q = false) : ((l.take (m + 1)).filter p).map v = ((l.take m).filter p).map v := by
  rw [List.take_add_one, h, List.filter_append, List.map_append]
  show _ ++ (List.filter p [q]).map v = _
  rw [List.filter_cons, if_neg (by rw [hp]; decide)]
  exact List.append_nil _
theorem take_filter_len {α : Type} (l : List α) (m : Nat) (p : α → Bool) (v : α → V) : (((l.take m).filter p).map v).length ≤ l.length := by
  rw [List.length_map]
  exact Nat.le_trans (List.length_filter_le _ _) (by rw [List.length_take]; omega)
theorem lc_data {α : Type} {J : It} {n : Nat} {G : Hp → Prop} {Y : Nat → Hp → V → Hp → Prop} (w : Walk J n G Y) {g : TG} {tt : TT} {te : TE} {vs : List Nat} {σ : L2.St} {H1 : Hp} {D : Addr} {Qd : Hp → Prop} (hD : H1 D = none)
    (l : List α) (hn : n = l.length) (hl : l.length ≤ 40000) (p : α → Bool) (v : α → V) (τ : α → L2.St) (hG : ∀ H', Ex H1 H' → G H') (hY : ∀ m x H' H'', Y m H' x H'' → Ex H' H'')
    (hg : ∀ m q x H' H'', l[m]? = some q → Ex H1 H' → Y m H' x H'' → ∀ Q : L2.St → Hp → Prop, Q (τ q) H'' → g x (wipe σ vs) H'' Q) (hw : ∀ q ∈ l, wipe (τ q) vs = wipe σ vs)
    (ht : ∀ q ∈ l, ∀ H', Ex H1 H' → EvT tt (τ q) H' (p q)) (he : ∀ q ∈ l, ∀ H', Ex H1 H' → p q = true → Ev te (τ q) H' (v q))
    (hd : ∀ H', Ex H1 H' → H' D = some (.lst ((l.filter p).map v)) → Qd H') :
    ∃ W : Nat → Nat → Hp → Prop, (∃ m, W 0 m (upd H1 D (.lst []))) ∧ ∀ i m H, W i m H →
      (J.stop i H ∧ Qd H) ∨ (J.go i H ∧ ∃ Nx : Hp → Prop, (∀ H', Nx H' → ∃ m', m' < m ∧ W (i + 1) m' H') ∧ ∀ x H', J.yld i H x H' → g x (wipe σ vs) H' fun σ2 H2 => wipe σ2 vs = wipe σ vs ∧ tt σ2 H2 fun b H3 =>
        if b = true then te σ2 H3 fun y H4 => ∃ acc, H4 D = some (.lst acc) ∧ acc.length < sizeLine ∧ Nx (upd H4 D (.lst (acc ++ [y]))) else Nx H3) := by
  subst hn
  refine lc_it w (fun m H' => Made H1 D (((l.take m).filter p).map v) H') ⟨Ex.new hD, upd_same⟩ (fun m H' _ h => hG H' h.1) (fun m x H' H'' hm h y => ?_) (fun H' h => ?_)
  · have hq : l[m]? = some l[m] := List.getElem?_eq_getElem hm
    have hin : l[m] ∈ l := List.getElem_mem hm
    have e2 := hY m x H' H'' y
    refine hg m _ x H' H'' hq h.1 y _ ⟨hw _ hin, ?_⟩
    refine ht _ hin H'' (h.1.trans e2) H'' (Ex.refl _) _ fun H3 e3 => ?_
    cases hp : p l[m] with
    | true =>
      show te (τ l[m]) H3 _
      refine he _ hin H3 ((h.1.trans e2).trans e3) hp H3 (Ex.refl _) _ fun H4 e4 => ?_
      refine ⟨_, e4 _ _ (e3 _ _ (e2 _ _ h.2)), sz_lt (by have := take_filter_len l m p v; omega), ?_⟩
      refine ⟨Ex.mut (((h.1.trans e2).trans e3).trans e4) hD, ?_⟩
      rw [take_filter_yes hq hp]
      exact upd_same
    | false =>
      show Made H1 D _ H3
      refine ⟨(h.1.trans e2).trans e3, ?_⟩
      rw [take_filter_no hq hp]
      exact e3 _ _ (e2 _ _ h.2)
  · have h2 := h.2
    rw [List.take_length] at h2
    exact hd H' h.1 h2
/-! ### the products as they lie: a list of tuples -/
def Tup3 (K : PySem.W.Frag) (H : Hp) (t : Addr) (q : Pr) : Prop := SqT K H t [.int (q.num : Int), .int (q.need : Int), .int (q.worth : Int)]
def Prods (K : PySem.W.Frag) (H : Hp) (a : Addr) (ps : List Pr) : Prop := ∃ ts : List Addr, SqL K H a (ts.map V.ref) ∧ ts.length = ps.length ∧ ∀ (i : Nat) (t : Addr) (q : Pr), ts[i]? = some t → ps[i]? = some q → Tup3 K H t q
theorem Prods.mono {K : PySem.W.Frag} {H H' : Hp} {a : Addr} {ps : List Pr} (e : Ex H H') (h : Prods K H a ps) : Prods K H' a ps := by
  obtain ⟨ts, h1, h2, h3⟩ := h
  exact ⟨ts, ex_l e h1, h2, fun i t q a b => ex_t e (h3 i t q a b)⟩
/-- a tuple's three places into three names -/
theorem g_tup3 {K : PySem.W.Frag} {i j k : Nat} {σ : L2.St} {H : Hp} {t : Addr} {x y z : V} {Q : L2.St → Hp → Prop} (h : SqT K H t [x, y, z]) (q : Q (((σ.set i (some x)).set j (some y)).set k (some z)) H) :
    gTup K 3 (gCons (gName i) (gCons (gName j) (gCons (gName k) gNil))) (.ref t) σ H Q := ⟨t, _, rfl, h, rfl, _, _, rfl, _, _, rfl, _, _, rfl, rfl, q⟩
theorem g_tup2 {K : PySem.W.Frag} {i j : Nat} {σ : L2.St} {H : Hp} {t : Addr} {x y : V} {Q : L2.St → Hp → Prop} (h : SqT K H t [x, y]) (q : Q ((σ.set i (some x)).set j (some y)) H) :
    gTup K 2 (gCons (gName i) (gCons (gName j) gNil)) (.ref t) σ H Q := ⟨t, _, rfl, h, rfl, _, _, rfl, _, _, rfl, rfl, q⟩
section
variable {K : PySem.W.Frag} {σ : L2.St} {H : Hp} {ta tb te : TE} {tt : TT} {vs : List Nat}
/-- a comprehension over the products, three names -/
theorem el_prods {a : Addr} {ps : List Pr} {tl : TE} {i j k : Nat} (p : Pr → Bool) (v : Pr → V) (τ : Pr → L2.St) (h : Ev tl σ H (.ref a)) (hx : Prods K H a ps) (hl : ps.length ≤ 40000)
    (hτ : ∀ q, τ q = (((wipe σ vs).set i (some (.int (q.num : Int)))).set j (some (.int (q.need : Int)))).set k (some (.int (q.worth : Int)))) (hw : ∀ q, wipe (τ q) vs = wipe σ vs)
    (ht : ∀ q ∈ ps, ∀ H', Ex H H' → EvT tt (τ q) H' (p q)) (he : ∀ q ∈ ps, ∀ H', Ex H H' → p q = true → Ev te (τ q) H' (v q)) :
    EvL (tLc (iList K tl) (gTup K 3 (gCons (gName i) (gCons (gName j) (gCons (gName k) gNil)))) tt te vs) σ H ((ps.filter p).map v) := fun H0 e Q q => h H0 e _ fun H1 e1 => by
  obtain ⟨ts, h1, h2, h3⟩ := hx
  refine ⟨a, rfl, ⟨_, ex_l (e.trans e1) h1⟩, fun D hD => ?_⟩
  refine lc_data (walk_list (xs := ts.map V.ref)) hD ps (by rw [List.length_map, h2]) hl p v τ (fun H' e' => ex_l ((e.trans e1).trans e') h1) (fun m x H' H'' y => by rw [y.1]; exact Ex.refl _) (fun m q x H' H'' hq e' y Q hQ => ?_) (fun q _ => hw q)
    (fun q hq H' e' => ht q hq H' ((e.trans e1).trans e')) (fun q hq H' e' hp => he q hq H' ((e.trans e1).trans e') hp) (fun H' e' hD' => q D H' (fresh_back e1 hD) (e1.trans e') hD')
  obtain ⟨y1, y2⟩ := y
  subst y1
  have hm : m < ts.length := by rw [h2]; exact (List.getElem?_eq_some_iff.mp hq).1
  have ht : ts[m]? = some ts[m] := List.getElem?_eq_getElem hm
  rw [List.getElem?_map, ht] at y2
  have ex : V.ref ts[m] = x := Option.some.inj y2
  rw [← ex]
  refine g_tup3 (ex_t ((e.trans e1).trans e') (h3 m _ q ht hq)) ?_
  rw [← hτ q]
  exact hQ
/-- a comprehension over enumerate(list), two names -/
theorem el_enum {a : Addr} {xs : List V} {tl : TA} {i j : Nat} (p : Nat → Bool) (v : Nat → V) (τ : Nat → L2.St) (h : EvA tl σ H [.ref a]) (hx : SqL K H a xs) (hl : xs.length ≤ 40000)
    (hτ : ∀ (m : Nat) x, xs[m]? = some x → τ m = ((wipe σ vs).set i (some (.int (m : Int)))).set j (some x)) (hw : ∀ m, m < xs.length → wipe (τ m) vs = wipe σ vs)
    (ht : ∀ m, m < xs.length → ∀ H', Ex H H' → EvT tt (τ m) H' (p m)) (he : ∀ m, m < xs.length → ∀ H', Ex H H' → p m = true → Ev te (τ m) H' (v m)) :
    EvL (tLc (iEnum K tl) (gTup K 2 (gCons (gName i) (gCons (gName j) gNil))) tt te vs) σ H (((List.range xs.length).filter p).map v) := fun H0 e Q q => h H0 e _ fun H1 e1 => by
  refine ⟨a, xs, rfl, ex_l (e.trans e1) hx, fun D hD => ?_⟩
  refine lc_data (walk_enum (xs := xs)) hD (List.range xs.length) (by rw [List.length_range]) (by rw [List.length_range]; exact hl) p v τ (fun H' e' => ex_l ((e.trans e1).trans e') hx) (fun m x H' H'' y => ?_) (fun m q x H' H'' hq e' y Q hQ => ?_) (fun q hq => hw q (List.mem_range.mp hq))
    (fun q hq H' e' => ht q (List.mem_range.mp hq) H' ((e.trans e1).trans e')) (fun q hq H' e' hp => he q (List.mem_range.mp hq) H' ((e.trans e1).trans e') hp) (fun H' e' hD' => q D H' (fresh_back e1 hD) (e1.trans e') hD')
  · obtain ⟨T, x', y', rfl, hT, rfl, _, _⟩ := y
    exact Ex.new hT
  · obtain ⟨T, x', y', rfl, hT, rfl, hx', hy'⟩ := y
    have hm : m < xs.length := by have := (List.getElem?_eq_some_iff.mp hq).1; rwa [List.length_range] at this
    rw [List.getElem?_range hm] at hq
    have em : m = q := Option.some.inj hq
    subst em
    have ex : V.int (m : Nat) = x' := Option.some.inj hx'
    subst ex
    refine g_tup2 (SqT.of upd_same) ?_
    rw [← hτ m y' hy']
    exact hQ
/-- .. over range(n), one name -/
theorem el_range {tl : TA} {i n : Nat} (p : Nat → Bool) (v : Nat → V) (τ : Nat → L2.St) (h : EvA tl σ H [.int (n : Int)]) (hl : n ≤ 40000)
    (hτ : ∀ m : Nat, τ m = (wipe σ vs).set i (some (.int (m : Int)))) (hw : ∀ m, m < n → wipe (τ m) vs = wipe σ vs)
    (ht : ∀ m, m < n → ∀ H', Ex H H' → EvT tt (τ m) H' (p m)) (he : ∀ m, m < n → ∀ H', Ex H H' → p m = true → Ev te (τ m) H' (v m)) :
    EvL (tLc (iRng1 tl) (gName i) tt te vs) σ H (((List.range n).filter p).map v) := fun H0 e Q q => h H0 e _ fun H1 e1 => by
  refine ⟨(n : Int), rfl, by omega, by omega, fun D hD => ?_⟩
  refine lc_data (walk_range (lo := 0) (n := (n : Int).toNat)) hD (List.range n) (by rw [List.length_range, Int.toNat_natCast]) (by rw [List.length_range]; exact hl) p v τ (fun _ _ => trivial) (fun m x H' H'' y => by rw [y.1]; exact Ex.refl _) (fun m q x H' H'' hq e' y Q hQ => ?_) (fun q hq => hw q (List.mem_range.mp hq))
    (fun q hq H' e' => ht q (List.mem_range.mp hq) H' ((e.trans e1).trans e')) (fun q hq H' e' hp => he q (List.mem_range.mp hq) H' ((e.trans e1).trans e') hp) (fun H' e' hD' => q D H' (fresh_back e1 hD) (e1.trans e') hD')
  obtain ⟨rfl, rfl⟩ := y
  have hm : m < n := by have := (List.getElem?_eq_some_iff.mp hq).1; rwa [List.length_range] at this
  rw [List.getElem?_range hm] at hq
  have em : m = q := Option.some.inj hq
  subst em
  show Q ((wipe σ vs).set i (some (.int (0 + (m : Int))))) _
  rw [Int.zero_add, ← hτ m]
  exact hQ
/-- .. over a list, one name -/
theorem el_items {α : Type} {a : Addr} {l : List α} {u : α → V} {tl : TE} {i : Nat} (p : α → Bool) (v : α → V) (τ : α → L2.St) (h : Ev tl σ H (.ref a)) (hx : SqL K H a (l.map u)) (hl : l.length ≤ 40000)
    (hτ : ∀ q, τ q = (wipe σ vs).set i (some (u q))) (hw : ∀ q ∈ l, wipe (τ q) vs = wipe σ vs)
    (ht : ∀ q ∈ l, ∀ H', Ex H H' → EvT tt (τ q) H' (p q)) (he : ∀ q ∈ l, ∀ H', Ex H H' → p q = true → Ev te (τ q) H' (v q)) :
    EvL (tLc (iList K tl) (gName i) tt te vs) σ H ((l.filter p).map v) := fun H0 e Q q => h H0 e _ fun H1 e1 => by
  refine ⟨a, rfl, ⟨_, ex_l (e.trans e1) hx⟩, fun D hD => ?_⟩
  refine lc_data (walk_list (xs := l.map u)) hD l (by rw [List.length_map]) hl p v τ (fun H' e' => ex_l ((e.trans e1).trans e') hx) (fun m x H' H'' y => by rw [y.1]; exact Ex.refl _) (fun m q x H' H'' hq e' y Q hQ => ?_) hw
    (fun q hq H' e' => ht q hq H' ((e.trans e1).trans e')) (fun q hq H' e' hp => he q hq H' ((e.trans e1).trans e') hp) (fun H' e' hD' => q D H' (fresh_back e1 hD) (e1.trans e') hD')
  obtain ⟨y1, y2⟩ := y
  subst y1
  rw [List.getElem?_map, hq] at y2
  have ex : u q = x := Option.some.inj y2
  subst ex
  show Q ((wipe σ vs).set i (some (u q))) _
  rw [← hτ q]
  exact hQ
theorem et_yes : EvT tYes σ H true := fun H1 _ _ q => q H1 (Ex.refl _)
/-- sum of a new list of whole numbers -/
theorem ev_sumN {ns : List Int} {tl : TE} (h : EvL tl σ H (ns.map V.int)) : Ev (tCB (rSum K) (tCons tl tNil)) σ H (.int ns.sum) := fun H1 e Q q =>
  h H1 e _ fun p H2 _ e2 h2 => ⟨p, ns, rfl, SqL.of h2, q H2 e2⟩
theorem ev_sum {ns : List Int} {tl : TE} {a : Addr} (h : Ev tl σ H (.ref a)) (hx : SqL K H a (ns.map V.int)) : Ev (tCB (rSum K) (tCons tl tNil)) σ H (.int ns.sum) := fun H1 e Q q =>
  h H1 e _ fun H2 e2 => ⟨a, ns, rfl, ex_l (e.trans e2) hx, q H2 e2⟩
end
/-! ### xs[i] op= e on a list -/
theorem get_list {X : Cx} : PGet X (rIxL X.K) := by
  intro pins s σ H o i ov iv Q I ro ri h
  obtain ⟨p, xs, i, z, rfl, rfl, hq, he, q⟩ := h
  cases ro
  obtain ⟨t, rfl⟩ := ri
  obtain ⟨its, r, pl, hz⟩ := I.list hq
  obtain ⟨j, h1, h2, h3, h4, h5⟩ := atI_get he
  obtain ⟨w, ew, rw'⟩ := r.get h2
  have hl := r.length
  have hn := line63
  have fin : EP X pins σ Q w s := ⟨z, H, I, rw', q⟩
  by_cases h0 : 0 ≤ i
  · have hj : i.toNat = j := by
      rw [seqIndex_of h0 h5] at h1
      exact Option.some.inj h1
    exact wpAny_getItem_list pl.isList h0 (by omega) (by rw [hj]; simpa using ew) fin
  · have hj : (i + (its.toArray.size : Int)).toNat = j := by
      rw [seqIndex_neg (by omega) h4] at h1
      rw [List.size_toArray, ← hl]
      exact Option.some.inj h1
    exact wpAny_getItem_list_neg pl.isList (by omega) (by rw [List.size_toArray] <;> omega) (by omega) (by rw [hj]; simpa using ew) fin
end Ro

set_option Elab.async false
set_option linter.all false
set_option maxRecDepth 100000
set_option maxHeartbeats 2000000
namespace Ro
open PySem PySem.Spec PyProof.Rows L2 Evl
/-- the builtins' names are not taken -/
structure Bt (mg : Str → Option Value) : Prop where
  range : mg "range" = none
  sum : mg "sum" = none
  len : mg "len" = none
  enumerate : mg "enumerate" = none
  zip : mg "zip" = none
  sorted : mg "sorted" = none
  list : mg "list" = none
  dict : mg "dict" = none
  int : mg "int" = none
  max : mg "max" = none
  all : mg "all" = none
/-- numbers of owners as values -/
def iv (l : List Nat) : List V := l.map fun (i : Nat) => V.int (i : Int)
section
variable {P : Program} {w : World} {K : PySem.W.Frag} {mg : Str → Option Value} {base : Heap}
/-! ### listed(owners, many) -/
abbrev sListed : Stmt := top 2
def aListed : List V → Hp → List V → Prop := fun vs _ xs => ∃ m n : Nat, vs = [.int m, .int n] ∧ n ≤ 8 ∧ xs = iv (Vbptao.members n m)
theorem scListed : FnScope ["owners", "many", "owner"] ["owners", "many"] (defScope sListed) := ⟨rfl, rfl, rfl, by decide +kernel, rfl, by decide +kernel, by decide +kernel⟩
theorem ok_listed (B : Bt mg) (F : Def K mg "listed" sListed "listed") (Ch : Cal P w K mg base 1 "has" (PV aHas)) : Cal P w K mg base 2 "listed" (PL aListed) := by
  refine F.cal scListed (fun vs H Q E h => ?_) (fun _ _ _ _ _ _ us hl => match us, hl with | [_, _], _ => rfl) (fun cdv f A outer s H vs Q E hr h => ⟨_,
    pss_one (ps_ret (pe_lc (own := [("owner", 2)]) (g := gName 2) (by rfl) scListed.nd (pi_range1 rfl B.range (pa_cons (pv 1) pa_nil)) (blkOk_by (own := [("owner", 2)]) (N := ["owners", "many", "owner"]) (sc := defScope sListed) (by decide +kernel))
      (fun _ _ _ _ _ => pg_name (i := 2) scListed.nd rfl (Or.inl rfl)) (fun _ _ _ _ _ => pts_one (pt_val (pe_c Ch hr (by decide) (pa_cons (pv 0) (pa_cons (pv 2) pa_nil))))) (fun _ _ _ _ _ => pv 2))), ?_⟩)
  · obtain ⟨_, ⟨m, i, rfl, _⟩, _⟩ := h
    rfl
  · obtain ⟨_, ⟨m, n, rfl, hn, rfl⟩, k⟩ := h
    refine s_retL ?_ k
    exact el_range (n := n) (fun i => m.testBit i) (fun (i : Nat) => V.int (i : Int)) (fun (i : Nat) => [some (.int m), some (.int n), some (.int (i : Int))]) (ea_cons (ev_var rfl) ea_nil) (by omega) (fun _ => rfl) (fun _ _ => rfl)
      (fun i _ H' _ => et_B (ev_cv (ea_cons (ev_var rfl) (ea_cons (ev_var rfl) ea_nil)) fun H1 _ => ⟨m, i, rfl, rfl⟩)) (fun i _ H' _ _ => ev_var rfl)
/-! ### size(owners, many) -/
abbrev sSize : Stmt := top 3
def aSize : List V → Hp → V → Prop := fun vs _ v => ∃ m n : Nat, vs = [.int m, .int n] ∧ n ≤ 8 ∧ v = .int (Vbptao.size n m : Nat)
theorem scSize : FnScope ["owners", "many"] ["owners", "many"] (defScope sSize) := ⟨rfl, rfl, rfl, by decide +kernel, rfl, by decide +kernel, by decide +kernel⟩
theorem ok_size (B : Bt mg) (F : Def K mg "size" sSize "size") (Cl : Cal P w K mg base 2 "listed" (PL aListed)) : Cal P w K mg base 3 "size" (PV aSize) := by
  refine F.cal scSize (fun vs H Q E h => ?_) (fun _ _ _ _ _ _ us hl => match us, hl with | [_, _], _ => rfl) (fun cdv f A outer s H vs Q E hr h => ⟨_,
    pss_one (ps_ret (pe_callB call_len_seq (by rfl) B.len PySem.boot_len (pa_cons (pe_c Cl hr (by decide) (pa_cons (pv 0) (pa_cons (pv 1) pa_nil))) pa_nil))), ?_⟩)
  · obtain ⟨_, ⟨m, i, rfl, _⟩, _⟩ := h
    rfl
  · obtain ⟨_, ⟨m, n, rfl, hn, rfl⟩, k⟩ := h
    refine s_ret (ev_is (ev_lenN (el_cv (xs := iv (Vbptao.members n m)) (ea_cons (ev_var rfl) (ea_cons (ev_var rfl) ea_nil)) fun H1 _ => ⟨m, n, rfl, hn, rfl⟩)) ?_) k
    rw [iv, List.length_map]
    rfl
/-! ### is_within(inner, outer) -/
abbrev sWithin : Stmt := top 4
def aWithin : List V → Hp → V → Prop := fun vs _ v => ∃ a b : Nat, vs = [.int a, .int b] ∧ v = .bl (Vbptao.inside a b)
theorem scWithin : FnScope ["inner", "outer"] ["inner", "outer"] (defScope sWithin) := ⟨rfl, rfl, rfl, by decide +kernel, rfl, by decide +kernel, by decide +kernel⟩
theorem ok_within (F : Def K mg "is_within" sWithin "is_within") : Cal P w K mg base 1 "is_within" (PV aWithin) := by
  refine F.cal scWithin (fun vs H Q E h => ?_) (fun _ _ _ _ _ _ us hl => match us, hl with | [_, _], _ => rfl) (fun cdv f A outer s H vs Q E hr h => ⟨_,
    pss_one (ps_ret (pe_cmpR op_eq (pe_op op_and (pv 0) (pv 1)) (pv 0) (nomark _))), ?_⟩)
  · obtain ⟨_, ⟨m, i, rfl, _⟩, _⟩ := h
    rfl
  · obtain ⟨_, ⟨a, b, rfl, rfl⟩, k⟩ := h
    refine s_ret (ev_is (ev_eqI (ev_and (ev_var rfl) (ev_var rfl)) (ev_var rfl)) ?_) k
    unfold Vbptao.inside
    rw [Bool.beq_eq_decide_eq]
    congr 2
    exact propext Int.natCast_inj
/-! ### everybody(many) -/
abbrev sEvery : Stmt := top 5
def aEvery : List V → Hp → V → Prop := fun vs _ v => ∃ n : Nat, vs = [.int n] ∧ n ≤ 8 ∧ v = .int (Vbptao.full n : Nat)
theorem scEvery : FnScope ["many"] ["many"] (defScope sEvery) := ⟨rfl, rfl, rfl, by decide +kernel, rfl, by decide +kernel, by decide +kernel⟩
theorem full_cast (n : Nat) : ((2 ^ n : Nat) : Int) - 1 = ((Vbptao.full n : Nat) : Int) := by
  unfold Vbptao.full
  have := Nat.two_pow_pos n
  omega
theorem ok_every (F : Def K mg "everybody" sEvery "everybody") : Cal P w K mg base 1 "everybody" (PV aEvery) := by
  refine F.cal scEvery (fun vs H Q E h => ?_) (fun _ _ _ _ _ _ us hl => match us, hl with | [_], _ => rfl) (fun cdv f A outer s H vs Q E hr h => ⟨_,
    pss_one (ps_ret (pe_op op_sub (pe_op op_shl pe_int (pv 0)) pe_int)), ?_⟩)
  · obtain ⟨_, ⟨m, rfl, _⟩, _⟩ := h
    rfl
  · obtain ⟨_, ⟨n, rfl, hn, rfl⟩, k⟩ := h
    exact s_ret (ev_is (ev_sub (ev_shl1 (ev_var rfl) (by omega)) ev_c) (congrArg V.int (full_cast n))) k
/-! ### without(owners, owner) -/
abbrev sWithout : Stmt := top 6
def aWithout : List V → Hp → V → Prop := fun vs _ v => ∃ m i : Nat, vs = [.int m, .int i] ∧ i ≤ 8 ∧ m.testBit i = true ∧ v = .int ((m - 2 ^ i : Nat) : Int)
theorem scWithout : FnScope ["owners", "owner"] ["owners", "owner"] (defScope sWithout) := ⟨rfl, rfl, rfl, by decide +kernel, rfl, by decide +kernel, by decide +kernel⟩
theorem ok_without (F : Def K mg "without" sWithout "without") : Cal P w K mg base 1 "without" (PV aWithout) := by
  refine F.cal scWithout (fun vs H Q E h => ?_) (fun _ _ _ _ _ _ us hl => match us, hl with | [_, _], _ => rfl) (fun cdv f A outer s H vs Q E hr h => ⟨_,
    pss_one (ps_ret (pe_op op_sub (pv 0) (pe_op op_shl pe_int (pv 1)))), ?_⟩)
  · obtain ⟨_, ⟨m, i, rfl, _⟩, _⟩ := h
    rfl
  · obtain ⟨_, ⟨m, i, rfl, hi, ht, rfl⟩, k⟩ := h
    exact s_ret (ev_is (ev_sub (ev_var rfl) (ev_shl1 (ev_var rfl) (by omega))) (congrArg V.int (Int.ofNat_sub (My.two_le ht)).symm)) k
/-! ### merged(owners, owner, other) -/
abbrev sMerged : Stmt := top 7
def aMerged : List V → Hp → V → Prop := fun vs _ v => ∃ m i j : Nat, vs = [.int m, .int i, .int j] ∧ i < j ∧ j < 8 ∧ m < 256 ∧ v = .int (Vbptao.squeezed i j m : Nat)
theorem scMerged : FnScope ["owners", "owner", "other", "low", "high"] ["owners", "owner", "other"] (defScope sMerged) := ⟨rfl, rfl, rfl, by decide +kernel, rfl, by decide +kernel, by decide +kernel⟩
theorem ok_merged (F : Def K mg "merged" sMerged "merged") (Ch : Cal P w K mg base 1 "has" (PV aHas)) (Ce : Cal P w K mg base 1 "everybody" (PV aEvery)) : Cal P w K mg base 2 "merged" (PV aMerged) := by
  refine F.cal scMerged (fun vs H Q E h => ?_) (fun _ _ _ _ _ _ us hl => match us, hl with | [_, _, _], _ => rfl) (fun cdv f A outer s H vs Q E hr h => ⟨_,
    pss_cons (ps_set (i := 3) scMerged.nd rfl (.inl rfl) (pe_op op_and (pv 0) (pe_c Ce hr (by decide) (pa_cons (pv 2) pa_nil))))
    (pss_cons (ps_set (i := 4) scMerged.nd rfl (.inl rfl) (pe_op op_shr (pv 0) (pe_op op_add (pv 2) pe_int)))
    (pss_cons (ps_if (pt_val (pe_c Ch hr (by decide) (pa_cons (pv 0) (pa_cons (pv 2) pa_nil)))) (pss_one (ps_set (i := 3) scMerged.nd rfl (.inl rfl) (pe_op op_or (pv 3) (pe_op op_shl pe_int (pv 1))))) pss_nil)
    (pss_one (ps_ret (pe_op op_or (pv 3) (pe_op op_shl (pv 4) (pv 2))))))), ?_⟩)
  · obtain ⟨_, ⟨m, i, j, rfl, _⟩, _⟩ := h
    rfl
  · obtain ⟨_, ⟨m, i, j, rfl, hij, hj, hm, rfl⟩, k⟩ := h
    refine q_asg (ev_and (b := Vbptao.full j) (ev_var rfl) (ev_cv (ea_cons (ev_var rfl) ea_nil) fun H1 _ => ⟨j, rfl, by omega, rfl⟩)) fun H1 e1 => ?_
    refine q_asg (ev_shr (b := j + 1) (ev_var rfl) (ev_is (ev_add (ev_var rfl) ev_c) rfl)) fun H2 e2 => ?_
    have hs : m / 2 ^ (j + 1) < 2 ^ 64 := Nat.lt_of_le_of_lt (Nat.div_le_self _ _) (by omega)
    refine q_ifAsg (b := m.testBit j) (v := .int ((if m.testBit j = true then (m &&& Vbptao.full j) ||| 2 ^ i else m &&& Vbptao.full j : Nat) : Int)) (et_B (ev_cv (ea_cons (ev_var rfl) (ea_cons (ev_var rfl) ea_nil)) fun H1 _ => ⟨m, j, rfl, rfl⟩)) (fun hb => ?_) (fun hb => ?_) fun H3 e3 => ?_
    · rw [if_pos hb]
      exact ev_or (ev_var rfl) (ev_shl1 (ev_var rfl) (by omega))
    · rw [if_neg (by rw [hb]; decide)]
      rfl
    · refine s_ret (ev_is (ev_or (ev_var rfl) (ev_shl (ev_var rfl) (ev_var rfl) hs (by omega))) ?_) fun H4 e4 => k H4 (((e1.trans e2).trans e3).trans e4)
      rw [My.merged_eq hij]
/-! ### summed(owners, numbers) -/
abbrev sSummed : Stmt := top 8
def aSummed (K : PySem.W.Frag) : List V → Hp → V → Prop := fun vs H v => ∃ (m : Nat) (a : Addr) (x : List Int), vs = [.int m, .ref a] ∧ SqL K H a (x.map V.int) ∧ x.length ≤ 8 ∧ v = .int (Vbptao.shareOf x.length x m)
theorem scSummed : FnScope ["owners", "numbers", "owner", "number"] ["owners", "numbers"] (defScope sSummed) := ⟨rfl, rfl, rfl, by decide +kernel, rfl, by decide +kernel, by decide +kernel⟩
theorem ok_summed (B : Bt mg) (F : Def K mg "summed" sSummed "summed") (Ch : Cal P w K mg base 1 "has" (PV aHas)) : Cal P w K mg base 2 "summed" (PV (aSummed K)) := by
  refine F.cal scSummed (fun vs H Q E h => ?_) (fun _ _ _ _ _ _ us hl => match us, hl with | [_, _], _ => rfl) (fun cdv f A outer s H vs Q E hr h => ⟨_,
    pss_one (ps_ret (pe_callB (cr_sum rfl) (by rfl) B.sum (by decide +kernel) (pa_cons (pe_lc (own := [("owner", 2), ("number", 3)]) (g := gTup K 2 (gCons (gName 2) (gCons (gName 3) gNil))) (by rfl) scSummed.nd (pi_enum rfl B.enumerate (pa_cons (pv 1) pa_nil)) (blkOk_by (own := [("owner", 2), ("number", 3)]) (N := ["owners", "numbers", "owner", "number"]) (sc := defScope sSummed) (by decide +kernel))
      (fun _ _ _ _ _ => pg_tup rfl (pgs_cons (pg_name (i := 2) scSummed.nd rfl (Or.inl rfl)) (pgs_cons (pg_name (i := 3) scSummed.nd rfl (Or.inl rfl)) pgs_nil)))
      (fun _ _ _ _ _ => pts_one (pt_val (pe_c Ch hr (by decide) (pa_cons (pv 0) (pa_cons (pv 2) pa_nil))))) (fun _ _ _ _ _ => pv 3)) pa_nil))), ?_⟩)
  · obtain ⟨_, ⟨m, a, x, rfl, _⟩, _⟩ := h
    rfl
  · obtain ⟨_, ⟨m, a, x, rfl, hx, hl, rfl⟩, k⟩ := h
    refine s_ret (ev_is (ev_sumN (ns := (Vbptao.members x.length m).map fun i => x.getD i 0) ?_) ?_) k
    · have e : ((Vbptao.members x.length m).map fun i => x.getD i 0).map V.int = ((List.range (x.map V.int).length).filter fun i => m.testBit i).map fun i => V.int (x.getD i 0) := by
        rw [List.map_map, List.length_map]
        rfl
      rw [e]
      refine el_enum (xs := x.map V.int) (fun i => m.testBit i) (fun i => V.int (x.getD i 0)) (fun (i : Nat) => [some (.int m), some (.ref a), some (.int (i : Int)), some (.int (x.getD i 0))]) (ea_cons (ev_var rfl) ea_nil) hx (by rw [List.length_map]; omega) (fun i y hy => ?_) (fun _ _ => rfl)
        (fun i _ H' _ => et_B (ev_cv (ea_cons (ev_var rfl) (ea_cons (ev_var rfl) ea_nil)) fun H1 _ => ⟨m, i, rfl, rfl⟩)) (fun i _ H' _ _ => ev_var rfl)
      rw [List.getElem?_map] at hy
      obtain ⟨z, hz, rfl⟩ := Option.map_eq_some_iff.mp hy
      have : x.getD i 0 = z := by rw [List.getD_eq_getElem?_getD, hz]; rfl
      show [some (.int m), some (.ref a), some (V.int (i : Int)), some (.int (x.getD i 0))] = _
      rw [this]
      rfl
    · unfold Vbptao.shareOf
      rw [My.sumInt_eq]
end
end Ro

set_option Elab.async false
set_option linter.all false
set_option maxRecDepth 100000
set_option maxHeartbeats 2000000
namespace Ro
open PySem PySem.Spec PyProof.Rows L2 Evl
section
variable {P : Program} {w : World} {K : PySem.W.Frag} {mg : Str → Option Value} {base : Heap}
/-! ### alone(products, owners) -/
abbrev sAlone : Stmt := top 10
def aAlone (K : PySem.W.Frag) : List V → Hp → V → Prop := fun vs H v => ∃ (a : Addr) (ps : List Pr) (m : Nat), vs = [.ref a, .int m] ∧ Prods K H a ps ∧ ps.length ≤ 16 ∧ v = .int (Vbptao.value ps m : Nat)
theorem scAlone : FnScope ["products", "owners", "number", "needs", "worth"] ["products", "owners"] (defScope sAlone) := ⟨rfl, rfl, rfl, by decide +kernel, rfl, by decide +kernel, by decide +kernel⟩
theorem ok_alone (B : Bt mg) (F : Def K mg "alone" sAlone "alone") (Cw : Cal P w K mg base 1 "is_within" (PV aWithin)) : Cal P w K mg base 2 "alone" (PV (aAlone K)) := by
  refine F.cal scAlone (fun vs H Q E h => ?_) (fun _ _ _ _ _ _ us hl => match us, hl with | [_, _], _ => rfl) (fun cdv f A outer s H vs Q E hr h => ⟨_,
    pss_one (ps_ret (pe_callB (cr_sum rfl) (by rfl) B.sum (by decide +kernel) (pa_cons (pe_lc (own := [("number", 2), ("needs", 3), ("worth", 4)]) (g := gTup K 3 (gCons (gName 2) (gCons (gName 3) (gCons (gName 4) gNil)))) (by rfl) scAlone.nd (pi_list (pv 0)) (blkOk_by (own := [("number", 2), ("needs", 3), ("worth", 4)]) (N := ["products", "owners", "number", "needs", "worth"]) (sc := defScope sAlone) (by decide +kernel))
      (fun _ _ _ _ _ => pg_tup rfl (pgs_cons (pg_name (i := 2) scAlone.nd rfl (Or.inl rfl)) (pgs_cons (pg_name (i := 3) scAlone.nd rfl (Or.inl rfl)) (pgs_cons (pg_name (i := 4) scAlone.nd rfl (Or.inl rfl)) pgs_nil))))
      (fun _ _ _ _ _ => pts_one (pt_val (pe_c Cw hr (by decide) (pa_cons (pv 3) (pa_cons (pv 1) pa_nil))))) (fun _ _ _ _ _ => pv 4)) pa_nil))), ?_⟩)
  · obtain ⟨_, ⟨a, ps, m, rfl, _⟩, _⟩ := h
    rfl
  · obtain ⟨_, ⟨a, ps, m, rfl, hp, hl, rfl⟩, k⟩ := h
    refine s_ret (ev_is (ev_sumN (ns := (ps.filter fun p => Vbptao.inside p.need m).map fun p => (p.worth : Int)) ?_) (congrArg V.int (My.value_int ps m))) k
    rw [List.map_map]
    exact el_prods (fun p => Vbptao.inside p.need m) (fun p => V.int (p.worth : Int)) (fun q => [some (.ref a), some (.int m), some (.int (q.num : Int)), some (.int (q.need : Int)), some (.int (q.worth : Int))]) (ev_var rfl) hp (by omega) (fun _ => rfl) (fun _ => rfl)
      (fun q _ H' _ => et_B (ev_cv (ea_cons (ev_var rfl) (ea_cons (ev_var rfl) ea_nil)) fun H1 _ => ⟨q.need, m, rfl, rfl⟩)) (fun q _ H' _ _ => ev_var rfl)
/-! ### comes(products, owners, owner) -/
abbrev sComes : Stmt := top 11
def aComes (K : PySem.W.Frag) : List V → Hp → V → Prop := fun vs H v => ∃ (a : Addr) (ps : List Pr) (m i : Nat), vs = [.ref a, .int m, .int i] ∧ Prods K H a ps ∧ ps.length ≤ 16 ∧ i ≤ 8 ∧ v = .int ((Vbptao.value ps (m ||| 2 ^ i) : Nat) - (Vbptao.value ps m : Nat) : Int)
theorem scComes : FnScope ["products", "owners", "owner"] ["products", "owners", "owner"] (defScope sComes) := ⟨rfl, rfl, rfl, by decide +kernel, rfl, by decide +kernel, by decide +kernel⟩
theorem ok_comes {y : Str} (F : Def K mg "comes" sComes y) (Ca : Cal P w K mg base 2 "alone" (PV (aAlone K))) : Cal P w K mg base 3 y (PV (aComes K)) := by
  refine F.cal scComes (fun vs H Q E h => ?_) (fun _ _ _ _ _ _ us hl => match us, hl with | [_, _, _], _ => rfl) (fun cdv f A outer s H vs Q E hr h => ⟨_,
    pss_one (ps_ret (pe_op op_sub (pe_c Ca hr (by decide) (pa_cons (pv 0) (pa_cons (pe_op op_or (pv 1) (pe_op op_shl pe_int (pv 2))) pa_nil))) (pe_c Ca hr (by decide) (pa_cons (pv 0) (pa_cons (pv 1) pa_nil))))), ?_⟩)
  · obtain ⟨_, ⟨a, ps, m, i, rfl, _⟩, _⟩ := h
    rfl
  · obtain ⟨_, ⟨a, ps, m, i, rfl, hp, hl, hi, rfl⟩, k⟩ := h
    refine s_ret (ev_sub (ev_cv (ea_cons (ev_var rfl) (ea_cons (ev_or (ev_var rfl) (ev_shl1 (ev_var rfl) (by omega))) ea_nil)) fun H1 e1 => ⟨a, ps, m ||| 2 ^ i, rfl, hp.mono e1, hl, rfl⟩) (ev_cv (ea_cons (ev_var rfl) (ea_cons (ev_var rfl) ea_nil)) fun H1 e1 => ⟨a, ps, m, rfl, hp.mono e1, hl, rfl⟩)) k
/-! ### first_objection(products, shares) -/
abbrev sFirst : Stmt := top 13
def optV : Option Nat → V
  | none => .non
  | some m => .int (m : Int)
def aFirst (K : PySem.W.Frag) : List V → Hp → V → Prop := fun vs H v => ∃ (a b : Addr) (ps : List Pr) (x : List Int), vs = [.ref a, .ref b] ∧ Prods K H a ps ∧ ps.length ≤ 16 ∧ SqL K H b (x.map V.int) ∧ x.length ≤ 8 ∧ v = optV (Vbptao.objects x.length ps x)
theorem scFirst : FnScope ["products", "shares", "owners"] ["products", "shares"] (defScope sFirst) := ⟨rfl, rfl, rfl, by decide +kernel, rfl, by decide +kernel, by decide +kernel⟩
theorem in_lid {n : Nat} (h : n ≤ 256) : 0 ≤ (n : Int) ∧ (n : Int) ≤ 100000 := by omega
theorem pow_le {n : Nat} (h : n ≤ 8) : 2 ^ n ≤ 256 := Nat.pow_le_pow_right (n := 2) (by decide) h
theorem ok_first (B : Bt mg) (F : Def K mg "first_objection" sFirst "first_objection") (Ca : Cal P w K mg base 2 "alone" (PV (aAlone K))) (Cs : Cal P w K mg base 2 "summed" (PV (aSummed K))) : Cal P w K mg base 3 "first_objection" (PV (aFirst K)) := by
  refine F.cal scFirst (fun vs H Q E h => ?_) (fun _ _ _ _ _ _ us hl => match us, hl with | [_, _], _ => rfl) (fun cdv f A outer s H vs Q E hr h => ⟨_,
    pss_cons (ps_for PassesOwn.never rfl (pi_range1 rfl B.range (pa_cons (pe_op op_shl pe_int (pe_callB call_len_seq (by rfl) B.len PySem.boot_len (pa_cons (pv 1) pa_nil))) pa_nil)) (pg_name (i := 2) scFirst.nd rfl (Or.inl rfl))
      (pss_one (ps_if (pt_cmpR op_lt (pe_c Cs hr (by decide) (pa_cons (pv 2) (pa_cons (pv 1) pa_nil))) (pe_c Ca hr (by decide) (pa_cons (pv 0) (pa_cons (pv 2) pa_nil))) (nomark _)) (pss_one (ps_ret (pv 2))) pss_nil)))
    (pss_one (ps_ret pe_non)), ?_⟩)
  · obtain ⟨_, ⟨a, b, ps, x, rfl, _⟩, _⟩ := h
    rfl
  · obtain ⟨_, ⟨a, b, ps, x, rfl, hp, hl, hx, hn, rfl⟩, k⟩ := h
    have hz := pow_le hn
    refine q_forR1 (n := ((2 ^ x.length : Nat) : Int)) (ea_cons (ev_shl1 (ev_is (ev_len (ev_var rfl) hx) (by rw [List.length_map])) (by omega)) ea_nil) (in_lid hz)
      (fun i σ H' => (∃ o, σ = [some (.ref a), some (.ref b), o]) ∧ Ex H H' ∧ ∀ j, j < i → decide (Vbptao.shareOf x.length x j < (Vbptao.value ps j : Int)) = false) (fun H1 e1 => ⟨⟨none, rfl⟩, e1, fun j hj => absurd hj (Nat.not_lt_zero _)⟩) ?_ ?_
    · rintro i σ H' hi ⟨⟨o, rfl⟩, e, hj⟩
      have hi' : i < 2 ^ x.length := Int.ofNat_lt.mp hi
      refine s_when (b := decide (Vbptao.shareOf x.length x i < (Vbptao.value ps i : Int))) (et_test (ev_op (ev_cv (ea_cons (ev_var rfl) (ea_cons (ev_var rfl) ea_nil)) fun H1 e1 => ⟨i, b, x, rfl, ex_l (e.trans e1) hx, hn, rfl⟩)
        (ev_cv (ea_cons (ev_var rfl) (ea_cons (ev_var rfl) ea_nil)) fun H1 e1 => ⟨a, ps, i, rfl, hp.mono (e.trans e1), hl, rfl⟩) rv_I0)) (fun hb H1 e1 => ?_) (fun hb H1 e1 => ?_)
      · refine s_ret (ev_is (ev_var rfl) ?_) fun H2 e2 => k H2 ((e.trans e1).trans e2)
        unfold Vbptao.objects
        rw [show Vbptao.sets x.length = List.range (2 ^ x.length) from rfl, My.find_range_some hi' hj hb]
        rfl
      · refine ⟨⟨_, rfl⟩, e.trans e1, fun j hj' => ?_⟩
        by_cases c : j = i
        · subst c
          exact hb
        · exact hj j (by omega)
    · rintro σ H' ⟨_, e, hj⟩
      refine s_ret (ev_is ev_c ?_) fun H2 e2 => k H2 (e.trans e2)
      unfold Vbptao.objects
      rw [Int.toNat_natCast] at hj
      rw [show Vbptao.sets x.length = List.range (2 ^ x.length) from rfl, My.find_range_none hj]
      rfl
/-! ### is_whole(products, shares) -/
abbrev sWhole : Stmt := top 14
def aWhole (K : PySem.W.Frag) : List V → Hp → V → Prop := fun vs H v => ∃ (a b : Addr) (ps : List Pr) (x : List Int), vs = [.ref a, .ref b] ∧ Prods K H a ps ∧ ps.length ≤ 16 ∧ SqL K H b (x.map V.int) ∧ x.length ≤ 8 ∧ v = .bl (decide (x.sum = (Vbptao.value ps (Vbptao.full x.length) : Int)))
theorem scWhole : FnScope ["products", "shares"] ["products", "shares"] (defScope sWhole) := ⟨rfl, rfl, rfl, by decide +kernel, rfl, by decide +kernel, by decide +kernel⟩
theorem ok_whole (B : Bt mg) (F : Def K mg "is_whole" sWhole "is_whole") (Ca : Cal P w K mg base 2 "alone" (PV (aAlone K))) (Ce : Cal P w K mg base 1 "everybody" (PV aEvery)) : Cal P w K mg base 3 "is_whole" (PV (aWhole K)) := by
  refine F.cal scWhole (fun vs H Q E h => ?_) (fun _ _ _ _ _ _ us hl => match us, hl with | [_, _], _ => rfl) (fun cdv f A outer s H vs Q E hr h => ⟨_,
    pss_one (ps_ret (pe_cmpR op_eq (pe_callB (cr_sum rfl) (by rfl) B.sum (by decide +kernel) (pa_cons (pv 1) pa_nil))
      (pe_c Ca hr (by decide) (pa_cons (pv 0) (pa_cons (pe_c Ce hr (by decide) (pa_cons (pe_callB call_len_seq (by rfl) B.len PySem.boot_len (pa_cons (pv 1) pa_nil)) pa_nil)) pa_nil))) (nomark _))), ?_⟩)
  · obtain ⟨_, ⟨a, b, ps, x, rfl, _⟩, _⟩ := h
    rfl
  · obtain ⟨_, ⟨a, b, ps, x, rfl, hp, hl, hx, hn, rfl⟩, k⟩ := h
    exact s_ret (ev_eqI (ev_sum (ev_var rfl) hx) (ev_cv (ea_cons (ev_var rfl) (ea_cons (ev_cv (ea_cons (ev_is (ev_len (ev_var rfl) hx) (by rw [List.length_map])) ea_nil) fun H1 _ => ⟨x.length, rfl, hn, rfl⟩) ea_nil)) fun H1 e1 => ⟨a, ps, Vbptao.full x.length, rfl, hp.mono e1, hl, rfl⟩)) k
/-! ### is_stable(products, shares) -/
abbrev sStable : Stmt := top 15
def aStable (K : PySem.W.Frag) : List V → Hp → V → Prop := fun vs H v => ∃ (a b : Addr) (ps : List Pr) (x : List Int), vs = [.ref a, .ref b] ∧ Prods K H a ps ∧ ps.length ≤ 16 ∧ SqL K H b (x.map V.int) ∧ x.length ≤ 8 ∧ v = .bl (Vbptao.inCore x.length ps x)
theorem scStable : FnScope ["products", "shares"] ["products", "shares"] (defScope sStable) := ⟨rfl, rfl, rfl, by decide +kernel, rfl, by decide +kernel, by decide +kernel⟩
theorem optV_non (o : Option Nat) : decide (optV o = .non) = o.isNone := by
  cases o <;> rfl
theorem ev_isN {σ : L2.St} {H : Hp} {v : V} {ta : TE} (h : Ev ta σ H v) : Ev (tIsN ta) σ H (.bl (decide (v = .non))) := fun H1 e Q q => h H1 e _ q
theorem ok_stable (F : Def K mg "is_stable" sStable "is_stable") (Cw : Cal P w K mg base 3 "is_whole" (PV (aWhole K))) (Cf : Cal P w K mg base 3 "first_objection" (PV (aFirst K))) : Cal P w K mg base 4 "is_stable" (PV (aStable K)) := by
  refine F.cal scStable (fun vs H Q E h => ?_) (fun _ _ _ _ _ _ us hl => match us, hl with | [_, _], _ => rfl) (fun cdv f A outer s H vs Q E hr h => ⟨_,
    pss_one (ps_ret (pe_and (pe_c Cw hr (by decide) (pa_cons (pv 0) (pa_cons (pv 1) pa_nil))) (pe_one (pe_cmp (pc_isN (pe_c Cf hr (by decide) (pa_cons (pv 0) (pa_cons (pv 1) pa_nil)))) rfl)))), ?_⟩)
  · obtain ⟨_, ⟨a, b, ps, x, rfl, _⟩, _⟩ := h
    rfl
  · obtain ⟨_, ⟨a, b, ps, x, rfl, hp, hl, hx, hn, rfl⟩, k⟩ := h
    rw [My.inCore_eq, ← optV_non] at k
    exact s_ret (ev_andV (ev_cv (ea_cons (ev_var rfl) (ea_cons (ev_var rfl) ea_nil)) fun H1 e1 => ⟨a, b, ps, x, rfl, hp.mono e1, hl, ex_l e1 hx, hn, rfl⟩)
      (fun _ => ev_isN (ev_cv (ea_cons (ev_var rfl) (ea_cons (ev_var rfl) ea_nil)) fun H1 e1 => ⟨a, b, ps, x, rfl, hp.mono e1, hl, ex_l e1 hx, hn, rfl⟩))) k
end
end Ro

set_option Elab.async false
set_option linter.all false
set_option maxRecDepth 100000
set_option maxHeartbeats 2000000
namespace Ro
open PySem PySem.Spec PyProof.Rows L2 Evl
section
variable {P : Program} {w : World} {K : PySem.W.Frag} {mg : Str → Option Value} {base : Heap}
/-! ### joined_to(products, owners) -/
abbrev sJoined : Stmt := top 16
def aJoined (K : PySem.W.Frag) : List V → Hp → V → Prop := fun vs H v => ∃ (a : Addr) (ps : List Pr) (m : Nat), vs = [.ref a, .int m] ∧ Prods K H a ps ∧ v = .int (My.join1 ps m : Nat)
theorem scJoined : FnScope ["products", "owners", "found", "number", "needs", "worth"] ["products", "owners"] (defScope sJoined) := ⟨rfl, rfl, rfl, by decide +kernel, rfl, by decide +kernel, by decide +kernel⟩
theorem nat_ne (a b : Nat) : (!decide ((a : Int) = (b : Int))) = decide (a ≠ b) := by
  rw [Bool.eq_iff_iff]
  simp only [Bool.not_eq_true', decide_eq_false_iff_not, decide_eq_true_eq, ne_eq]
  exact not_congr Int.natCast_inj
theorem ok_joined (F : Def K mg "joined_to" sJoined "joined_to") : Cal P w K mg base 1 "joined_to" (PV (aJoined K)) := by
  refine F.cal scJoined (fun vs H Q E h => ?_) (fun _ _ _ _ _ _ us hl => match us, hl with | [_, _], _ => rfl) (fun cdv f A outer s H vs Q E hr h => ⟨_,
    pss_cons (ps_set (i := 2) scJoined.nd rfl (.inl rfl) (pv 1))
    (pss_cons (ps_for PassesOwn.never rfl (pi_list (pv 0)) (pg_tup rfl (pgs_cons (pg_name (i := 3) scJoined.nd rfl (Or.inl rfl)) (pgs_cons (pg_name (i := 4) scJoined.nd rfl (Or.inl rfl)) (pgs_cons (pg_name (i := 5) scJoined.nd rfl (Or.inl rfl)) pgs_nil))))
      (pss_one (ps_if (pt_cmpR op_ne (pe_op op_and (pv 4) (pv 1)) pe_int (nomark _)) (pss_one (ps_set (i := 2) scJoined.nd rfl (.inl rfl) (pe_op op_or (pv 2) (pv 4)))) pss_nil)))
    (pss_one (ps_ret (pv 2)))), ?_⟩)
  · obtain ⟨_, ⟨a, ps, x, rfl, _⟩, _⟩ := h
    rfl
  · obtain ⟨_, ⟨a, ps, m, rfl, ⟨ts, h1, h2, h3⟩, rfl⟩, k⟩ := h
    refine q_asg (ev_var rfl) fun H1 e1 => ?_
    refine q_forL (xs := ts.map V.ref) (ev_var rfl) (ex_l e1 h1)
      (fun i σ H' => (∃ o3 o4 o5, σ = [some (.ref a), some (.int m), some (.int (((ps.take i).foldl (fun a p => if p.need &&& m == 0 then a else a ||| p.need) m : Nat) : Int)), o3, o4, o5]) ∧ Ex H H') (fun H2 e2 => ⟨⟨none, none, none, rfl⟩, e1.trans e2⟩) (fun i σ H' _ p => ex_l p.2 h1) ?_ ?_
    · rintro i x σ H' hx ⟨⟨o3, o4, o5, rfl⟩, e⟩
      have hi : i < ts.length := by have := (List.getElem?_eq_some_iff.mp hx).1; rwa [List.length_map] at this
      have ht : ts[i]? = some ts[i] := List.getElem?_eq_getElem hi
      have hq : ps[i]? = some (ps[i]'(by omega)) := List.getElem?_eq_getElem _
      rw [List.getElem?_map, ht] at hx
      have ex : V.ref ts[i] = x := Option.some.inj hx
      subst ex
      refine g_tup3 (ex_t e (h3 i _ _ ht hq)) ?_
      refine s_ifAsg (b := decide ((ps[i]'(by omega)).need &&& m ≠ 0)) (v := .int (((ps.take (i + 1)).foldl (fun a p => if p.need &&& m == 0 then a else a ||| p.need) m : Nat) : Int)) (et_is (et_test (ev_neI (ev_and (ev_var rfl) (ev_var rfl)) ev_c)) (nat_ne _ 0)) (fun hb => ?_) (fun hb => ?_) fun H2 e2 => ?_
      · rw [My.join_take hq, if_pos (of_decide_eq_true hb)]
        exact ev_or (ev_var rfl) (ev_var rfl)
      · rw [My.join_take hq, if_neg (of_decide_eq_false hb)]
        rfl
      · exact ⟨⟨_, _, _, rfl⟩, e.trans e2⟩
    · rintro σ H' ⟨⟨o3, o4, o5, rfl⟩, e⟩
      refine s_ret (ev_is (ev_var rfl) ?_) fun H2 e2 => k H2 (e.trans e2)
      rw [List.length_map, h2, List.take_length]
      rfl
/-! ### hanging_with(products, owner) -/
abbrev sHang : Stmt := top 17
def aHang (K : PySem.W.Frag) : List V → Hp → V → Prop := fun vs H v => ∃ (a : Addr) (ps : List Pr) (n i : Nat), vs = [.ref a, .int i] ∧ Prods K H a ps ∧ (∀ p ∈ ps, p.need < 2 ^ n) ∧ i < n ∧ n ≤ 8 ∧ v = .int (My.joinN ps n (2 ^ i) : Nat)
theorem scHang : FnScope ["products", "owner", "found", "more"] ["products", "owner"] (defScope sHang) := ⟨rfl, rfl, rfl, by decide +kernel, rfl, by decide +kernel, by decide +kernel⟩
theorem ok_hang (F : Def K mg "hanging_with" sHang "hanging_with") (Cj : Cal P w K mg base 1 "joined_to" (PV (aJoined K))) : Cal P w K mg base 2 "hanging_with" (PV (aHang K)) := by
  refine F.cal scHang (fun vs H Q E h => ?_) (fun _ _ _ _ _ _ us hl => match us, hl with | [_, _], _ => rfl) (fun cdv f A outer s H vs Q E hr h => ⟨_,
    pss_cons (ps_set (i := 2) scHang.nd rfl (.inl rfl) (pe_op op_shl pe_int (pv 1)))
    (pss_cons (ps_set (i := 3) scHang.nd rfl (.inl rfl) (pe_c Cj hr (by decide) (pa_cons (pv 0) (pa_cons (pv 2) pa_nil))))
    (pss_cons (ps_while PassesOwn.never (pt_cmpR op_ne (pv 3) (pv 2) (nomark _))
      (pss_cons (ps_set (i := 2) scHang.nd rfl (.inl rfl) (pv 3)) (pss_one (ps_set (i := 3) scHang.nd rfl (.inl rfl) (pe_c Cj hr (by decide) (pa_cons (pv 0) (pa_cons (pv 2) pa_nil)))))))
    (pss_one (ps_ret (pv 2))))), ?_⟩)
  · obtain ⟨_, ⟨a, ps, n, i, rfl, _⟩, _⟩ := h
    rfl
  · obtain ⟨_, ⟨a, ps, n, i, rfl, hp, hn, hi, h8, rfl⟩, k⟩ := h
    have h2 : 2 ^ i < 2 ^ n := My.two_lt hi
    refine q_asg (ev_shl1 (ev_var rfl) (by omega)) fun H1 e1 => ?_
    refine q_asg (ev_cv (ea_cons (ev_var rfl) (ea_cons (ev_var rfl) ea_nil)) fun H2 e2 => ⟨a, ps, 2 ^ i, rfl, hp.mono (e1.trans e2), rfl⟩) fun H2 e2 => ?_
    refine q_while (fun m σ H' => ∃ j, σ = [some (.ref a), some (.int i), some (.int (My.joinN ps j (2 ^ i) : Nat)), some (.int (My.join1 ps (My.joinN ps j (2 ^ i)) : Nat))] ∧ Ex H H' ∧ m = n - Vbptao.size n (My.joinN ps j (2 ^ i))) _ ⟨0, rfl, e1.trans e2, rfl⟩ ?_
    rintro m σ H' ⟨j, rfl, e, rfl⟩
    have hj := My.joinN_lt hn j h2
    refine ⟨decide (My.join1 ps (My.joinN ps j (2 ^ i)) ≠ My.joinN ps j (2 ^ i)), et_is (et_test (ev_neI (ev_var rfl) (ev_var rfl))) (nat_ne _ _), fun hb H3 e3 => ?_, fun hb H3 e3 => ?_⟩
    · have hne := of_decide_eq_true hb
      have hlt := My.size_lt (n := n) (My.join1_lt hn hj) (fun i hi => My.join1_sub hi) (Ne.symm hne)
      have hle := My.size_le n (My.join1 ps (My.joinN ps j (2 ^ i)))
      refine ⟨fun σ' H'' => ∃ m', m' < n - Vbptao.size n (My.joinN ps j (2 ^ i)) ∧ ∃ j, σ' = [some (.ref a), some (.int i), some (.int (My.joinN ps j (2 ^ i) : Nat)), some (.int (My.join1 ps (My.joinN ps j (2 ^ i)) : Nat))] ∧ Ex H H'' ∧ m' = n - Vbptao.size n (My.joinN ps j (2 ^ i)), fun _ _ h => h, ?_⟩
      refine q_asg (ev_var rfl) fun H4 e4 => ?_
      refine s_asg (ev_cv (ea_cons (ev_var rfl) (ea_cons (ev_var rfl) ea_nil)) fun H5 e5 => ⟨a, ps, My.join1 ps (My.joinN ps j (2 ^ i)), rfl, hp.mono (((e.trans e3).trans e4).trans e5), rfl⟩) fun H5 e5 => ?_
      refine ⟨_, ?_, j + 1, ?_, ((e.trans e3).trans e4).trans e5, rfl⟩
      · rw [My.joinN_succ]
        omega
      · rw [My.joinN_succ]
        rfl
    · have heq : My.join1 ps (My.joinN ps j (2 ^ i)) = My.joinN ps j (2 ^ i) := by
        have := of_decide_eq_false hb
        exact Decidable.not_not.mp this
      refine s_ret (ev_is (ev_var rfl) ?_) fun H4 e4 => k H4 ((e.trans e3).trans e4)
      rw [My.joinN_any hn h2 heq]
/-! ### parts(products, many) -/
abbrev sParts : Stmt := top 18
def aParts (K : PySem.W.Frag) : List V → Hp → List V → Prop := fun vs H xs => ∃ (a : Addr) (s : Vbptao.State), vs = [.ref a, .int s.n] ∧ Prods K H a s.products ∧ (∀ p ∈ s.products, p.need < 2 ^ s.n) ∧ s.n ≤ 8 ∧ xs = iv (My.apartTo s s.n)
theorem scParts : FnScope ["products", "many", "found", "seen", "owner"] ["products", "many"] (defScope sParts) := ⟨rfl, rfl, rfl, by decide +kernel, rfl, by decide +kernel, by decide +kernel⟩
theorem iv_app (l m : List Nat) : iv (l ++ m) = iv l ++ iv m := List.map_append
theorem apart_len (s : Vbptao.State) (i : Nat) : (My.apartTo s i).length ≤ i := by
  unfold My.apartTo
  rw [List.length_map]
  exact Nat.le_trans (List.length_filter_le _ _) (by rw [List.length_range]; omega)
theorem atI_end {xs : List V} {v : V} : atI (xs ++ [v]) (-1) = some v := by
  have e : ixN (xs ++ [v]).length (-1) = some xs.length := by
    unfold ixN
    rw [if_neg (by decide), if_pos (by rw [List.length_append]; show -((xs.length + 1 : Nat) : Int) ≤ -1; omega)]
    congr 1
    rw [List.length_append]
    show ((-1 : Int) + ((xs.length + 1 : Nat) : Int)).toNat = xs.length
    omega
  unfold atI
  rw [e]
  show (xs ++ [v])[xs.length]? = some v
  simp
theorem ok_parts (B : Bt mg) (F : Def K mg "parts" sParts "parts") (Ch : Cal P w K mg base 1 "has" (PV aHas)) (Cg : Cal P w K mg base 2 "hanging_with" (PV (aHang K))) : Cal P w K mg base 3 "parts" (PL (aParts K)) := by
  refine F.cal scParts (fun vs H Q E h => ?_) (fun _ _ _ _ _ _ us hl => match us, hl with | [_, _], _ => rfl) (fun cdv f A outer s H vs Q E hr h => ⟨_,
    pss_cons (ps_set (i := 2) scParts.nd rfl (.inl rfl) (pe_lst pa_nil))
    (pss_cons (ps_set (i := 3) scParts.nd rfl (.inl rfl) pe_int)
    (pss_cons (ps_for PassesOwn.never rfl (pi_range1 rfl B.range (pa_cons (pv 1) pa_nil)) (pg_name (i := 4) scParts.nd rfl (Or.inl rfl))
      (pss_one (ps_if (pt_not (pt_val (pe_c Ch hr (by decide) (pa_cons (pv 3) (pa_cons (pv 4) pa_nil)))))
        (pss_cons (ps_expr (pe_bm PySem.F.plainAttrs_list PySem.F.slot_list_append PySem.F.type_list_append mt_append (pv 2) (pa_cons (pe_c Cg hr (by decide) (pa_cons (pv 0) (pa_cons (pv 4) pa_nil))) pa_nil)))
        (pss_one (ps_set (i := 3) scParts.nd rfl (.inl rfl) (pe_op op_or (pv 3) (pe_ix ix_list (pv 2) (pe_un un_neg pe_int) (fun _ _ => rfl)))))) pss_nil)))
    (pss_one (ps_ret (pv 2))))), ?_⟩)
  · obtain ⟨_, ⟨a, s, rfl, _⟩, _⟩ := h
    rfl
  · obtain ⟨_, ⟨a, s, rfl, hp, hn, h8, rfl⟩, k⟩ := h
    refine q_asgL (xs := []) (el_lst ea_nil (by decide)) fun l H1 hl e1 h1 => ?_
    refine q_asg ev_c fun H2 e2 => ?_
    refine q_forR1 (n := (s.n : Int)) (ea_cons (ev_var rfl) ea_nil) (by omega)
      (fun i σ H' => (∃ o, σ = [some (.ref a), some (.int s.n), some (.ref l), some (.int (My.seenTo s i : Nat)), o]) ∧ Ex H H' ∧ H' l = some (.lst (iv (My.apartTo s i)))) (fun H3 e3 => ⟨⟨none, rfl⟩, (e1.trans e2).trans e3, e3 _ _ (e2 _ _ h1)⟩) ?_ ?_
    · rintro i σ H' hi ⟨⟨o, rfl⟩, e, hL⟩
      have hi' : i < s.n := by omega
      have hlen := apart_len s i
      refine s_when (b := !(My.seenTo s i).testBit i) (et_not (et_B (ev_cv (ea_cons (ev_var rfl) (ea_cons (ev_var rfl) ea_nil)) fun H1 _ => ⟨My.seenTo s i, i, rfl, rfl⟩))) (fun hb H3 e3 => ?_) (fun hb H3 e3 => ?_)
      · have hb' : (My.seenTo s i).testBit i = false := by simpa using hb
        refine q_app (l := l) (xs := iv (My.apartTo s i)) (v := .int (Vbptao.partOf s i : Nat)) (e3 _ _ hL) (ev_var rfl) (ev_is (ev_cv (ea_cons (ev_var rfl) (ea_cons (ev_var rfl) ea_nil)) fun H4 e4 => ⟨a, s.products, s.n, i, rfl, hp.mono ((e.trans e3).trans e4), hn, hi', h8, rfl⟩) ?_) ?_ fun H4 e4 => ?_
        · unfold Vbptao.partOf
          rw [My.joined_eq]
        · rw [iv, List.length_map]
          omega
        · have hxs : iv (My.apartTo s i) ++ [V.int (Vbptao.partOf s i : Nat)] = iv (My.apartTo s (i + 1)) := by rw [My.apart_new hb', iv_app]; rfl
          refine s_asg (ev_or (ev_var rfl) (ev_op (ev_var rfl) (ev_un ev_c (ru_neg (i := 1))) (rv_ixL (SqL.of upd_same) atI_end))) fun H5 e5 => ?_
          refine ⟨⟨some (.int (i : Int)), ?_⟩, (Ex.mut ((e.trans e3).trans e4) hl).trans e5, ?_⟩
          · rw [My.seen_new]
            rfl
          · rw [← hxs]
            exact e5 _ _ upd_same
      · have hb' : (My.seenTo s i).testBit i = true := by simpa using hb
        refine ⟨⟨some (.int (i : Int)), ?_⟩, e.trans e3, ?_⟩
        · rw [My.seen_part hn hi' hb']
          rfl
        · rw [My.apart_old hb']
          exact e3 _ _ hL
    · rintro σ H' ⟨⟨o, rfl⟩, e, hL⟩
      rw [Int.toNat_natCast] at hL
      exact s_ret (ev_var rfl) fun H3 e3 => k l H3 hl (e.trans e3) (e3 _ _ hL)
end
end Ro

set_option Elab.async false
set_option linter.all false
set_option maxRecDepth 100000
set_option maxHeartbeats 2000000
namespace Ro
open PySem PySem.Spec PyProof.Rows L2 Evl
/-! ### a heap but for one object -/
def del (H : Hp) (r : Addr) : Hp := fun b => if b = r then none else H b
theorem del_self (H : Hp) (r : Addr) : del H r r = none := if_pos rfl
theorem del_ne {H : Hp} {r b : Addr} (h : b ≠ r) : del H r b = H b := if_neg h
theorem del_ex (H : Hp) (r : Addr) : Ex (del H r) H := fun b o h => by
  by_cases c : b = r
  · subst c
    rw [del_self] at h
    cases h
  · rwa [del_ne c] at h
theorem ex_del {H H' : Hp} {r : Addr} (e : Ex H H') (h : H r = none) : Ex H (del H' r) := fun b o hb => by
  rw [del_ne (ne_of_none hb h)]
  exact e b o hb
theorem del_fresh {H : Hp} {r p : Addr} {o : HO} (hr : H r = some o) (h : H p = none) : p ≠ r := fun q => by
  rw [q, hr] at h
  cases h
section
variable {K : PySem.W.Frag} {H : Hp} {r a : Addr} {xs ys : List V}
theorem sqT_del (hr : H r = some (.lst ys)) (h : SqT K H a xs) : SqT K (del H r) a xs := by
  rcases h with (h | ⟨o, h⟩) | h
  · refine .inl (.inl ?_)
    rw [del_ne (fun q => by rw [q, hr] at h; cases h)]
    exact h
  · refine .inl (.inr ⟨o, ?_⟩)
    rw [del_ne (fun q => by rw [q, hr] at h; cases h)]
    exact h
  · exact .inr h
theorem sqL_del (hne : a ≠ r) (h : SqL K H a xs) : SqL K (del H r) a xs := by
  rcases h with (h | ⟨o, h⟩) | h
  · refine .inl (.inl ?_)
    rw [del_ne hne]
    exact h
  · refine .inl (.inr ⟨o, ?_⟩)
    rw [del_ne hne]
    exact h
  · exact .inr h
end
section
variable {K : PySem.W.Frag} {σ : L2.St} {H : Hp} {to ti te ta : TE} {D : Ends} {tu tz : TS} {g : TG}
/-- xs[i] op= e, a list of whole numbers -/
theorem s_augL {l : Addr} {xs : List Int} {j : Nat} {a b : Int} {f : Int → Int → Int} (ho : Ev to σ H (.ref l)) (hi : Ev ti σ H (.int (j : Int))) (he : Ev te σ H (.int b)) (hl : H l = some (.lst (xs.map V.int))) (hj : xs[j]? = some a)
    (k : ∀ H1, Ex H H1 → D.nx σ (upd H1 l (.lst ((xs.set j (f a b)).map V.int)))) : tAugS to ti te (rIxL K) (ipI f) rSetL D σ H := by
  have hlt : j < (xs.map V.int).length := by rw [List.length_map]; exact (List.getElem?_eq_some_iff.mp hj).1
  refine ho H (Ex.refl H) _ fun H1 e1 => hi H1 e1 _ fun H2 e2 => ?_
  refine ⟨l, xs.map V.int, (j : Int), .int a, rfl, rfl, SqL.of (e2 _ _ (e1 _ _ hl)), atI_nat (by rw [List.getElem?_map, hj]; rfl), ?_⟩
  refine he H2 (e1.trans e2) _ fun H3 e3 => ⟨a, b, rfl, rfl, ?_⟩
  refine ⟨l, xs.map V.int, (j : Int), j, rfl, rfl, e3 _ _ (e2 _ _ (e1 _ _ hl)), ixN_nat hlt, ?_⟩
  have := k H3 ((e1.trans e2).trans e3)
  rw [List.map_set] at this
  exact this
theorem q_augL {l : Addr} {xs : List Int} {j : Nat} {a b : Int} {f : Int → Int → Int} (ho : Ev to σ H (.ref l)) (hi : Ev ti σ H (.int (j : Int))) (he : Ev te σ H (.int b)) (hl : H l = some (.lst (xs.map V.int))) (hj : xs[j]? = some a)
    (k : ∀ H1, Ex H H1 → tz D σ (upd H1 l (.lst ((xs.set j (f a b)).map V.int)))) : tSeq (tAugS to ti te (rIxL K) (ipI f) rSetL) tz D σ H := s_augL (D := { D with nx := tz D }) ho hi he hl hj k
/-- a, b, c = e; a, b = e -/
theorem q_asgT3 {i j k : Nat} {t : Addr} {x y z : V} (h : Ev te σ H (.ref t)) (ht : SqT K H t [x, y, z]) (q : ∀ H1, Ex H H1 → tz D (((σ.set i (some x)).set j (some y)).set k (some z)) H1) : tSeq (tAsg te (gTup K 3 (gCons (gName i) (gCons (gName j) (gCons (gName k) gNil))))) tz D σ H :=
  h H (Ex.refl H) _ fun H1 e1 => g_tup3 (ex_t e1 ht) (q H1 e1)
/-- for i, x in enumerate(xs) -/
theorem s_forE {a : Addr} {xs : List V} {tl : TA} (h : EvA tl σ H [.ref a]) (hx : SqL K H a xs) (Pv : Nat → L2.St → Hp → Prop) (h0 : ∀ H1, Ex H H1 → Pv 0 σ H1) (hl : ∀ i σ' H', i ≤ xs.length → Pv i σ' H' → SqL K H' a xs)
    (hs : ∀ i x T σ' H', xs[i]? = some x → Pv i σ' H' → H' T = none → g (.ref T) σ' (upd H' T (.tup [.int (i : Nat), x])) fun σ2 H2 => tu { D with nx := Pv (i + 1), ct := Pv (i + 1), bk := D.nx } σ2 H2) (hd : ∀ σ' H', Pv xs.length σ' H' → D.nx σ' H') : tFor (iEnum K tl) g tu D σ H :=
  h H (Ex.refl H) _ fun H1 e => ⟨a, xs, rfl, ex_l e hx, for_it (walk_enum (xs := xs)) Pv (h0 H1 e) hl (fun i x σ' H' H'' hi p y => by
    obtain ⟨T, x', y', rfl, hT, rfl, hx', hy'⟩ := y
    have ex : V.int (i : Nat) = x' := Option.some.inj hx'
    subst ex
    exact hs i y' T σ' H' hy' p hT) hd⟩
theorem q_forE {a : Addr} {xs : List V} {tl : TA} (h : EvA tl σ H [.ref a]) (hx : SqL K H a xs) (Pv : Nat → L2.St → Hp → Prop) (h0 : ∀ H1, Ex H H1 → Pv 0 σ H1) (hl : ∀ i σ' H', i ≤ xs.length → Pv i σ' H' → SqL K H' a xs)
    (hs : ∀ i x T σ' H', xs[i]? = some x → Pv i σ' H' → H' T = none → g (.ref T) σ' (upd H' T (.tup [.int (i : Nat), x])) fun σ2 H2 => tu { D with nx := Pv (i + 1), ct := Pv (i + 1), bk := tz D } σ2 H2) (hd : ∀ σ' H', Pv xs.length σ' H' → tz D σ' H') : tSeq (tFor (iEnum K tl) g tu) tz D σ H :=
  s_forE (D := { D with nx := tz D }) h hx Pv h0 hl hs hd
end
theorem cut_from (xs : List V) (k : Nat) : cutV xs (some (k : Int)) none = xs.drop k := by
  unfold cutV
  rw [HT.sIx_nat, HT.sIx_none]
  by_cases c : k ≤ xs.length
  · rw [Nat.min_eq_left c]
    exact List.take_of_length_le (by rw [List.length_drop]; exact Nat.le_refl _)
  · rw [Nat.min_eq_right (by omega), List.drop_eq_nil_of_le (Nat.le_refl _), List.drop_eq_nil_of_le (by omega)]
    simp
theorem Prods.drop {K : PySem.W.Frag} {H H' : Hp} {a b : Addr} {ps : List Pr} {ts : List Addr} (h2 : ts.length = ps.length) (h3 : ∀ (i : Nat) (t : Addr) (q : Pr), ts[i]? = some t → ps[i]? = some q → Tup3 K H t q) (e : Ex H H') (k : Nat) (hb : SqL K H' b ((ts.map V.ref).drop k)) : Prods K H' b (ps.drop k) := by
  refine ⟨ts.drop k, by rw [List.map_drop]; exact hb, by rw [List.length_drop, List.length_drop, h2], fun i t q ht hq => ?_⟩
  rw [List.getElem?_drop] at ht hq
  exact ex_t e (h3 _ t q ht hq)
theorem range_filter_step {α : Type} (p : Nat → Bool) (f : α → Nat → α) (a : α) (t : Nat) : ((List.range (t + 1)).filter p).foldl f a = if p t = true then f (((List.range t).filter p).foldl f a) t else ((List.range t).filter p).foldl f a := by
  rw [List.range_succ, List.filter_append, List.foldl_append, List.filter_cons]
  by_cases c : p t = true
  · rw [if_pos c, if_pos c]
    rfl
  · rw [if_neg c, if_neg c]
    rfl
section
variable {P : Program} {w : World} {K : PySem.W.Frag} {mg : Str → Option Value} {base : Heap}
/-! ### least_part(rests, others, owner, later, worth) -/
abbrev sLeast : Stmt := top 20
def aLeast (K : PySem.W.Frag) : List V → Hp → V → Prop := fun vs H v => ∃ (r o : Addr) (x : List Int) (ps : List Pr) (i m z : Nat), vs = [.ref r, .ref o, .int i, .int m, .int z] ∧ SqL K H r (x.map V.int) ∧ x.length ≤ 8 ∧ Prods K H o ps ∧ ps.length ≤ 16 ∧ v = .int (Vbptao.leastPart x.length ps x i m z : Nat)
theorem scLeast : FnScope ["rests", "others", "owner", "later", "worth", "least", "owners"] ["rests", "others", "owner", "later", "worth"] (defScope sLeast) := ⟨rfl, rfl, rfl, by decide +kernel, rfl, by decide +kernel, by decide +kernel⟩
def lpTerm (n : Nat) (ps : List Pr) (x : List Int) (z : Nat) (m : Nat) : Int := (Vbptao.value ps m : Int) + (z : Int) - Vbptao.shareOf n x m
def lpTo (n : Nat) (ps : List Pr) (x : List Int) (i m z t : Nat) : Int := ((List.range t).filter fun q => Vbptao.inside m q && !q.testBit i).foldl (fun (T : Int) q => if lpTerm n ps x z q > T then lpTerm n ps x z q else T) 0
theorem lpTo_all (n : Nat) (ps : List Pr) (x : List Int) (i m z : Nat) : lpTo n ps x i m z (2 ^ n) = (Vbptao.leastPart n ps x i m z : Nat) := by
  unfold lpTo
  have e := My.foldl_max ((List.range (2 ^ n)).filter fun q => Vbptao.inside m q && !q.testBit i) (lpTerm n ps x z) 0
  refine Eq.trans e ?_
  unfold Vbptao.leastPart
  congr 1
  have e2 : (Vbptao.sets n).filter (fun q => !q.testBit i && Vbptao.inside m q) = (List.range (2 ^ n)).filter fun q => Vbptao.inside m q && !q.testBit i := List.filter_congr fun q _ => Bool.and_comm _ _
  rw [e2]
  rfl
theorem ok_least (B : Bt mg) (F : Def K mg "least_part" sLeast "least_part") (Cw : Cal P w K mg base 1 "is_within" (PV aWithin)) (Ch : Cal P w K mg base 1 "has" (PV aHas)) (Ca : Cal P w K mg base 2 "alone" (PV (aAlone K))) (Cs : Cal P w K mg base 2 "summed" (PV (aSummed K))) :
    Cal P w K mg base 3 "least_part" (PV (aLeast K)) := by
  refine F.cal scLeast (fun vs H Q E h => ?_) (fun _ _ _ _ _ _ us hl => match us, hl with | [_, _, _, _, _], _ => rfl) (fun cdv f A outer s H vs Q E hr h => ⟨_,
    pss_cons (ps_set (i := 5) scLeast.nd rfl (.inl rfl) pe_int)
    (pss_cons (ps_for PassesOwn.never rfl (pi_range1 rfl B.range (pa_cons (pe_op op_shl pe_int (pe_callB call_len_seq (by rfl) B.len PySem.boot_len (pa_cons (pv 0) pa_nil))) pa_nil)) (pg_name (i := 6) scLeast.nd rfl (Or.inl rfl))
      (pss_one (ps_if (PW.pt (pw_and (pt_val (pe_c Cw hr (by decide) (pa_cons (pv 3) (pa_cons (pv 6) pa_nil)))) (pw_and1 (pt_not (pt_val (pe_c Ch hr (by decide) (pa_cons (pv 6) (pa_cons (pv 2) pa_nil))))))))
        (pss_one (ps_set (i := 5) scLeast.nd rfl (.inl rfl) (pe_callB (call_max2 rfl) (by rfl) B.max (by decide +kernel) (pa_cons (pv 5) (pa_cons (pe_op op_sub (pe_op op_add (pe_c Ca hr (by decide) (pa_cons (pv 1) (pa_cons (pv 6) pa_nil))) (pv 4)) (pe_c Cs hr (by decide) (pa_cons (pv 6) (pa_cons (pv 0) pa_nil)))) pa_nil))))) pss_nil)))
    (pss_one (ps_ret (pv 5)))), ?_⟩)
  · obtain ⟨_, ⟨r, o, x, ps, i, m, z, rfl, _⟩, _⟩ := h
    rfl
  · obtain ⟨_, ⟨r, o, x, ps, i, m, z, rfl, hx, hn, hp, hl, rfl⟩, k⟩ := h
    have hz := pow_le hn
    refine q_asg ev_c fun H1 e1 => ?_
    refine q_forR1 (n := ((2 ^ x.length : Nat) : Int)) (ea_cons (ev_shl1 (ev_is (ev_len (ev_var rfl) (ex_l e1 hx)) (by rw [List.length_map])) (by omega)) ea_nil) (in_lid hz)
      (fun t σ H' => (∃ y, σ = [some (.ref r), some (.ref o), some (.int i), some (.int m), some (.int z), some (.int (lpTo x.length ps x i m z t)), y]) ∧ Ex H H') (fun H2 e2 => ⟨⟨none, rfl⟩, e1.trans e2⟩) ?_ ?_
    · rintro t σ H' ht ⟨⟨y, rfl⟩, e⟩
      refine s_ifAsg (b := Vbptao.inside m t && !t.testBit i) (v := .int (lpTo x.length ps x i m z (t + 1))) (et_and (et_B (ev_cv (ea_cons (ev_var rfl) (ea_cons (ev_var rfl) ea_nil)) fun H1 _ => ⟨m, t, rfl, rfl⟩)) fun _ => et_not (et_B (ev_cv (ea_cons (ev_var rfl) (ea_cons (ev_var rfl) ea_nil)) fun H1 _ => ⟨t, i, rfl, rfl⟩))) (fun hb => ?_) (fun hb => ?_) fun H2 e2 => ?_
      · have es : lpTo x.length ps x i m z (t + 1) = if lpTerm x.length ps x z t > lpTo x.length ps x i m z t then lpTerm x.length ps x z t else lpTo x.length ps x i m z t := by
          unfold lpTo
          rw [range_filter_step, if_pos hb]
        rw [es]
        exact ev_max2 (ev_var rfl) (ev_sub (ev_add (ev_cv (ea_cons (ev_var rfl) (ea_cons (ev_var rfl) ea_nil)) fun H1 e1 => ⟨o, ps, t, rfl, hp.mono (e.trans e1), hl, rfl⟩) (ev_var rfl)) (ev_cv (ea_cons (ev_var rfl) (ea_cons (ev_var rfl) ea_nil)) fun H1 e1 => ⟨t, r, x, rfl, ex_l (e.trans e1) hx, hn, rfl⟩))
      · have es : lpTo x.length ps x i m z (t + 1) = lpTo x.length ps x i m z t := by
          unfold lpTo
          rw [range_filter_step, if_neg (by rw [hb]; decide)]
        rw [es]
        rfl
      · exact ⟨⟨_, rfl⟩, e.trans e2⟩
    · rintro σ H' ⟨⟨y, rfl⟩, e⟩
      refine s_ret (ev_is (ev_var rfl) ?_) fun H2 e2 => k H2 (e.trans e2)
      rw [Int.toNat_natCast, lpTo_all]
end
end Ro

set_option Elab.async false
set_option linter.all false
set_option maxRecDepth 100000
set_option maxHeartbeats 2000000
namespace Ro
open PySem PySem.Spec PyProof.Rows L2 Evl
section
variable {P : Program} {w : World} {K : PySem.W.Frag} {mg : Str → Option Value} {base : Heap}
/-! ### parts_of(product, rests, others) -/
abbrev sPartsOf : Stmt := top 21
def ptsL (n : Nat) (ps : List Pr) (l : List Nat) (m z : Nat) (x : List Int) : List Nat := (Vbptao.parts n ps l m z x).1.map fun y => y.2
def ptsX (n : Nat) (ps : List Pr) (l : List Nat) (m z : Nat) (x : List Int) : List Int := (Vbptao.parts n ps l m z x).2
def spPartsOf (K : PySem.W.Frag) : Sp := fun vs H Q _ => ∃ (t r o : Addr) (q : Pr) (ps : List Pr) (x : List Int), vs = [.ref t, .ref r, .ref o] ∧ H r = some (.lst (x.map V.int)) ∧ Tup3 K (del H r) t q ∧ Prods K (del H r) o ps ∧ ps.length ≤ 16 ∧
  x.length ≤ 8 ∧ q.need < 2 ^ x.length ∧ My.Stab x.length ps q.need q.worth x ∧
  ∀ p H', H p = none → Ex (del H r) H' → H' r = some (.lst ((ptsX x.length ps (Vbptao.members x.length q.need) q.need q.worth x).map V.int)) →
    H' p = some (.lst (iv (ptsL x.length ps (Vbptao.members x.length q.need) q.need q.worth x))) → Q (.ref p) H'
theorem scPartsOf : FnScope ["product", "rests", "others", "number", "later", "worth", "found", "owner", "part"] ["product", "rests", "others"] (defScope sPartsOf) := ⟨rfl, rfl, rfl, by decide +kernel, rfl, by decide +kernel, by decide +kernel⟩
theorem pts_len (n : Nat) (ps : List Pr) : ∀ (l : List Nat) (m z : Nat) (x : List Int), (ptsL n ps l m z x).length = l.length
  | [], _, _, _ => rfl
  | i :: l, m, z, x => by
    show (ptsL n ps l _ _ _).length + 1 = l.length + 1
    rw [pts_len n ps l]
theorem iv_get {l : List Nat} {i : Nat} {v : V} (h : (iv l)[i]? = some v) : ∃ j, l[i]? = some j ∧ v = .int (j : Int) := by
  unfold iv at h
  rw [List.getElem?_map] at h
  obtain ⟨j, h1, h2⟩ := Option.map_eq_some_iff.mp h
  exact ⟨j, h1, h2.symm⟩
theorem drop_cons {α : Type} {l : List α} {i : Nat} {q : α} (h : l[i]? = some q) : l.drop i = q :: l.drop (i + 1) := by
  obtain ⟨h1, h2⟩ := List.getElem?_eq_some_iff.mp h
  rw [List.drop_eq_getElem_cons h1, h2]
theorem ok_partsOf (B : Bt mg) (F : Def K mg "parts_of" sPartsOf "parts_of") (Cli : Cal P w K mg base 2 "listed" (PL aListed)) (Cwo : Cal P w K mg base 1 "without" (PV aWithout)) (Cle : Cal P w K mg base 3 "least_part" (PV (aLeast K))) :
    Cal P w K mg base 4 "parts_of" (spPartsOf K) := by
  refine F.cal scPartsOf (fun vs H Q E h => ?_) (fun _ _ _ _ _ _ us hl => match us, hl with | [_, _, _], _ => rfl) (fun cdv f A outer s H vs Q E hr h => ⟨_,
    pss_cons (ps_asg (pv 0) (pg_tup rfl (pgs_cons (pg_name (i := 3) scPartsOf.nd rfl (Or.inl rfl)) (pgs_cons (pg_name (i := 4) scPartsOf.nd rfl (Or.inl rfl)) (pgs_cons (pg_name (i := 5) scPartsOf.nd rfl (Or.inl rfl)) pgs_nil)))))
    (pss_cons (ps_set (i := 6) scPartsOf.nd rfl (.inl rfl) (pe_lst pa_nil))
    (pss_cons (ps_for PassesOwn.never rfl (pi_list (pe_c Cli hr (by decide) (pa_cons (pv 4) (pa_cons (pe_callB call_len_seq (by rfl) B.len PySem.boot_len (pa_cons (pv 1) pa_nil)) pa_nil)))) (pg_name (i := 7) scPartsOf.nd rfl (Or.inl rfl))
      (pss_cons (ps_set (i := 4) scPartsOf.nd rfl (.inl rfl) (pe_c Cwo hr (by decide) (pa_cons (pv 4) (pa_cons (pv 7) pa_nil))))
      (pss_cons (ps_set (i := 8) scPartsOf.nd rfl (.inl rfl) (pv 5))
      (pss_cons (ps_if (pt_cmpR op_ne (pv 4) pe_int (nomark _)) (pss_one (ps_set (i := 8) scPartsOf.nd rfl (.inl rfl) (pe_c Cle hr (by decide) (pa_cons (pv 1) (pa_cons (pv 2) (pa_cons (pv 7) (pa_cons (pv 4) (pa_cons (pv 5) pa_nil)))))))) pss_nil)
      (pss_cons (ps_expr (pe_bm PySem.F.plainAttrs_list PySem.F.slot_list_append PySem.F.type_list_append mt_append (pv 6) (pa_cons (pv 8) pa_nil)))
      (pss_cons (ps_aug (i := 5) scPartsOf.nd rfl (.inl rfl) (pv 8) ip_sub)
      (pss_one (ps_augS (pv 1) (pv 7) get_list (pv 8) ip_sub set_list))))))))
    (pss_one (ps_ret (pv 6))))), ?_⟩)
  · obtain ⟨t, r, o, q, ps, x, rfl, _⟩ := h
    rfl
  · obtain ⟨t, r, o, q, ps, x0, rfl, hr0, ht, hp, hl, hn, hq, hst, k⟩ := h
    have eH : Ex (del H r) H := del_ex H r
    refine q_asgT3 (ev_var rfl) (ex_t eH ht) fun H0 e0 => ?_
    refine q_asgL (xs := []) (el_lst ea_nil (by decide)) fun fn H1 hfn1 e1' hf1 => ?_
    have hfn := fresh_back e0 hfn1
    have e1 := e0.trans e1'
    have hfr : fn ≠ r := del_fresh hr0 hfn
    refine q_forNLn (xs := iv (Vbptao.members x0.length q.need)) (el_cv (ea_cons (ev_var rfl) (ea_cons (ev_is (ev_len (ev_var rfl) (SqL.of (e1 _ _ hr0))) (by rw [List.length_map])) ea_nil)) fun H2 _ => ⟨q.need, x0.length, rfl, hn, rfl⟩)
      (fun pl i σ H' => ∃ (m z : Nat) (x : List Int) (fs : List Nat) (y7 y8 : Option V), σ = [some (.ref t), some (.ref r), some (.ref o), some (.int q.num), some (.int m), some (.int z), some (.ref fn), y7, y8] ∧ Ex (del H r) H' ∧
        pl ≠ r ∧ pl ≠ fn ∧ H' pl = some (.lst (iv (Vbptao.members x0.length q.need))) ∧ H' r = some (.lst (x.map V.int)) ∧ H' fn = some (.lst (iv fs)) ∧ fs.length = i ∧ x.length = x0.length ∧ m < 2 ^ x0.length ∧
        Vbptao.members x0.length m = (Vbptao.members x0.length q.need).drop i ∧ My.Stab x0.length ps m z x ∧
        fs ++ ptsL x0.length ps ((Vbptao.members x0.length q.need).drop i) m z x = ptsL x0.length ps (Vbptao.members x0.length q.need) q.need q.worth x0 ∧
        ptsX x0.length ps ((Vbptao.members x0.length q.need).drop i) m z x = ptsX x0.length ps (Vbptao.members x0.length q.need) q.need q.worth x0)
      (fun pl H2 hpl e2 hpl2 => ?_) (fun pl i σ H' _ h => ?_) ?_ ?_
    · exact ⟨q.need, q.worth, x0, [], none, none, rfl, (eH.trans e1).trans e2, del_fresh (e1 _ _ hr0) hpl, del_fresh hf1 hpl, hpl2, e2 _ _ (e1 _ _ hr0), e2 _ _ hf1, rfl, rfl, hq, rfl, hst, rfl, rfl⟩
    · obtain ⟨m, z, x, fs, y7, y8, _, _, _, _, h5, _⟩ := h
      exact SqL.of h5
    · rintro pl i v σ H' hv ⟨m, z, x, fs, y7, y8, rfl, e, n1, n2, h5, h6, h7, h8, h9, h10, h11, h12, h13, h14⟩
      obtain ⟨j, hj, rfl⟩ := iv_get hv
      have hd := drop_cons hj
      rw [hd] at h11 h13 h14
      have hjm : j ∈ Vbptao.members x0.length m := by rw [h11]; exact List.mem_cons_self
      obtain ⟨hj8, hjt⟩ := My.mem_members.mp hjm
      have hmt := My.members_tail h10 h11
      have hps := My.parts_step h12 h10 h11
      have hi8 : i < 8 := by
        have h1 := (List.getElem?_eq_some_iff.mp hj).1
        have h2 := My.size_le x0.length q.need
        unfold Vbptao.size at h2
        omega
      refine q_asg (ev_cv (ea_cons (ev_var rfl) (ea_cons (ev_var rfl) ea_nil)) fun H1 _ => ⟨m, j, rfl, by omega, hjt, rfl⟩) fun H3 e3 => ?_
      refine q_asg (ev_var rfl) fun H4 e4 => ?_
      have e34 := e3.trans e4
      refine q_ifAsg (b := decide (m - 2 ^ j ≠ 0)) (v := .int (My.part x0.length ps x j m z : Nat)) (et_is (et_test (ev_neI (ev_var rfl) ev_c)) (nat_ne _ 0)) (fun hb => ?_) (fun hb => ?_) fun H5 e5 => ?_
      · have ep : My.part x0.length ps x j m z = Vbptao.leastPart x.length ps x j (m - 2 ^ j) z := by
          unfold My.part
          rw [if_neg (of_decide_eq_true hb), h9]
        rw [ep]
        exact ev_cv (ea_cons (ev_var rfl) (ea_cons (ev_var rfl) (ea_cons (ev_var rfl) (ea_cons (ev_var rfl) (ea_cons (ev_var rfl) ea_nil))))) fun H6 e6 => ⟨r, o, x, ps, j, m - 2 ^ j, z, rfl, ex_l (e34.trans e6) (SqL.of h6), by omega, hp.mono ((e.trans e34).trans e6), hl, rfl⟩
      · have ep : My.part x0.length ps x j m z = z := by
          unfold My.part
          rw [if_pos (Decidable.not_not.mp (of_decide_eq_false hb))]
        rw [ep]
        rfl
      have e35 := e34.trans e5
      have hle := My.part_le (i := j) h12
      refine q_app (l := fn) (xs := iv fs) (e35 _ _ h7) (ev_var rfl) (ev_var rfl) (by rw [iv, List.length_map]; omega) fun H6 e6 => ?_
      have e36 := e35.trans e6
      have eU : Ex (del H r) (upd H6 fn (.lst (iv fs ++ [V.int (My.part x0.length ps x j m z : Nat)]))) := Ex.mut (e.trans e36) (by rw [del_ne hfr]; exact hfn)
      refine q_aug (f := fun i j => i - j) rfl (ev_var rfl) fun H7 e7 => ?_
      have hr7 : H7 r = some (.lst (x.map V.int)) := e7 _ _ (by rw [upd_ne (Ne.symm hfr)]; exact e36 _ _ h6)
      have hf7 : H7 fn = some (.lst (iv fs ++ [V.int (My.part x0.length ps x j m z : Nat)])) := e7 _ _ upd_same
      have hp7 : H7 pl = some (.lst (iv (Vbptao.members x0.length q.need))) := e7 _ _ (by rw [upd_ne n2]; exact e36 _ _ h5)
      have hxj : x[j]? = some (x.getD j 0) := by
        rw [List.getD_eq_getElem?_getD, List.getElem?_eq_getElem (by omega)]
        rfl
      refine s_augL (f := fun i j => i - j) (ev_var rfl) (ev_var rfl) (ev_var rfl) hr7 hxj fun H8 e8 => ?_
      have e78 := eU.trans (e7.trans e8)
      refine ⟨m - 2 ^ j, z - My.part x0.length ps x j m z, x.set j (x.getD j 0 - (My.part x0.length ps x j m z : Int)), fs ++ [My.part x0.length ps x j m z], some (.int (j : Int)), some (.int (My.part x0.length ps x j m z : Nat)), ?_, Ex.mut e78 (del_self H r), n1, n2, ?_, upd_same, ?_, ?_, ?_, hmt.2.2, hmt.1, ?_, ?_, ?_⟩
      · rw [Int.ofNat_sub hle]
        rfl
      · rw [upd_ne n1]
        exact e8 _ _ hp7
      · rw [upd_ne hfr, iv_app]
        exact e8 _ _ hf7
      · rw [List.length_append, h8]
        rfl
      · rw [List.length_set]
        exact h9
      · exact My.part_step h12 h10 hjt h9
      · rw [← h13]
        unfold ptsL
        rw [hps, List.append_assoc]
        rfl
      · rw [← h14]
        unfold ptsX
        rw [hps]
    · rintro pl σ H' ⟨m, z, x, fs, y7, y8, rfl, e, n1, n2, h5, h6, h7, h8, h9, h10, h11, h12, h13, h14⟩
      have hnil : (Vbptao.members x0.length q.need).drop (iv (Vbptao.members x0.length q.need)).length = [] := by
        rw [iv, List.length_map]
        exact List.drop_eq_nil_of_le (Nat.le_refl _)
      rw [hnil] at h13 h14
      have e13 : fs = ptsL x0.length ps (Vbptao.members x0.length q.need) q.need q.worth x0 := by
        rw [← h13]
        exact (List.append_nil _).symm
      have e14 : x = ptsX x0.length ps (Vbptao.members x0.length q.need) q.need q.worth x0 := h14
      refine s_ret (ev_var rfl) fun H3 e3 => k fn H3 hfn (e.trans e3) ?_ ?_
      · rw [← e14]
        exact e3 _ _ h6
      · rw [← e13]
        exact e3 _ _ h7
end
end Ro

set_option Elab.async false
set_option linter.all false
set_option maxRecDepth 100000
set_option maxHeartbeats 2000000
namespace Ro
open PySem PySem.Spec PyProof.Rows L2 Evl
section
variable {K : PySem.W.Frag} {σ : L2.St} {H : Hp} {to ti te ta tb : TE} {D : Ends} {tu tz : TS} {g : TG}
/-- for x, y in zip(xs, ys), ys a new list -/
theorem s_forZ {a : Addr} {xs ys : List V} (ha : Ev ta σ H (.ref a)) (hx : SqL K H a xs) (hb : EvL tb σ H ys) (hlen : xs.length = ys.length) (Pv : Addr → Nat → L2.St → Hp → Prop) (h0 : ∀ b H1, H b = none → Ex H H1 → H1 b = some (.lst ys) → Pv b 0 σ H1)
    (hq : ∀ b i σ' H', Pv b i σ' H' → SqL K H' a xs ∧ SqL K H' b ys)
    (hs : ∀ b (i : Nat) x y T σ' H', xs[i]? = some x → ys[i]? = some y → Pv b i σ' H' → H' T = none → g (.ref T) σ' (upd H' T (.tup [x, y])) fun σ2 H2 => tu { D with nx := Pv b (i + 1), ct := Pv b (i + 1), bk := D.nx } σ2 H2) (hd : ∀ b σ' H', Pv b xs.length σ' H' → D.nx σ' H') :
    tFor (iZip K (tCons ta (tCons tb tNil))) g tu D σ H :=
  ha H (Ex.refl H) _ fun H1 e1 => hb H1 e1 _ fun b H2 hb1 e2 h2 => ⟨a, b, xs, ys, rfl, ex_l (e1.trans e2) hx, SqL.of h2, RZ.for_zipL hlen (Pv b) (h0 b H2 (fresh_back e1 hb1) (e1.trans e2) h2) (hq b) (hs b) (hd b)⟩
theorem q_forZ {a : Addr} {xs ys : List V} (ha : Ev ta σ H (.ref a)) (hx : SqL K H a xs) (hb : EvL tb σ H ys) (hlen : xs.length = ys.length) (Pv : Addr → Nat → L2.St → Hp → Prop) (h0 : ∀ b H1, H b = none → Ex H H1 → H1 b = some (.lst ys) → Pv b 0 σ H1)
    (hq : ∀ b i σ' H', Pv b i σ' H' → SqL K H' a xs ∧ SqL K H' b ys)
    (hs : ∀ b (i : Nat) x y T σ' H', xs[i]? = some x → ys[i]? = some y → Pv b i σ' H' → H' T = none → g (.ref T) σ' (upd H' T (.tup [x, y])) fun σ2 H2 => tu { D with nx := Pv b (i + 1), ct := Pv b (i + 1), bk := tz D } σ2 H2) (hd : ∀ b σ' H', Pv b xs.length σ' H' → tz D σ' H') :
    tSeq (tFor (iZip K (tCons ta (tCons tb tNil))) g tu) tz D σ H := s_forZ (D := { D with nx := tz D }) ha hx hb hlen Pv h0 hq hs hd
end
section
variable {P : Program} {w : World} {K : PySem.W.Frag} {mg : Str → Option Value} {base : Heap}
/-! ### first_division(products, shares) -/
abbrev sDivision : Stmt := top 22
def dvL (n : Nat) (ps : List Pr) (x : List Int) : List Nat := ((Vbptao.division n ps x).map fun l => l.map fun y => y.2).flatten
theorem dvL_nil (n : Nat) (x : List Int) : dvL n [] x = [] := rfl
theorem dvL_cons (n : Nat) (q : Pr) (ps : List Pr) (x : List Int) : dvL n (q :: ps) x = ptsL n ps (Vbptao.members n q.need) q.need q.worth x ++ dvL n ps (ptsX n ps (Vbptao.members n q.need) q.need q.worth x) := rfl
def aDivision (K : PySem.W.Frag) : List V → Hp → List V → Prop := fun vs H xs => ∃ (a b : Addr) (ps : List Pr) (x : List Int), vs = [.ref a, .ref b] ∧ Prods K H a ps ∧ ps.length ≤ 16 ∧ SqL K H b (x.map V.int) ∧ x.length ≤ 8 ∧ (∀ q ∈ ps, q.need < 2 ^ x.length) ∧
  (∀ m, m < 2 ^ x.length → (Vbptao.value ps m : Int) ≤ Vbptao.shareOf x.length x m) ∧ xs = iv (dvL x.length ps x)
theorem scDivision : FnScope ["products", "shares", "rests", "found", "place", "product"] ["products", "shares"] (defScope sDivision) := ⟨rfl, rfl, rfl, by decide +kernel, rfl, by decide +kernel, by decide +kernel⟩
theorem ptsX_len (n : Nat) (ps : List Pr) : ∀ (l : List Nat) (m z : Nat) (x : List Int), (ptsX n ps l m z x).length = x.length
  | [], _, _, _ => rfl
  | i :: l, m, z, x => by
    show (ptsX n ps l _ _ _).length = x.length
    rw [ptsX_len n ps l, List.length_set]
/-- behind a product's parts the rests are enough for what's behind -/
theorem pts_stab {n : Nat} {ps : List Pr} : ∀ (l : List Nat) {m z : Nat} {x : List Int}, My.Stab n ps m z x → m < 2 ^ n → Vbptao.members n m = l → x.length = n → ∀ q, q < 2 ^ n → (Vbptao.value ps q : Int) ≤ Vbptao.shareOf n (ptsX n ps l m z x) q
  | [], m, z, x, h, hm, hl, hx => fun q hq => h.base hq
  | i :: l, m, z, x, h, hm, hl, hx => fun q hq => by
    have hmt := My.members_tail hm hl
    have hps := My.parts_step h hm hl
    have hs := My.part_step h hm hmt.2.1 hx
    have ih := pts_stab l hs hmt.2.2 hmt.1 (by rw [List.length_set]; exact hx) q hq
    unfold ptsX
    rw [hps]
    exact ih
theorem ok_division (B : Bt mg) (F : Def K mg "first_division" sDivision "first_division") (Cp : Cal P w K mg base 4 "parts_of" (spPartsOf K)) : Cal P w K mg base 5 "first_division" (PL (aDivision K)) := by
  refine F.cal scDivision (fun vs H Q E h => ?_) (fun _ _ _ _ _ _ us hl => match us, hl with | [_, _], _ => rfl) (fun cdv f A outer s H vs Q E hr h => ⟨_,
    pss_cons (ps_set (i := 2) scDivision.nd rfl (.inl rfl) (pe_callTy call_list_of (by rfl) B.list (by decide +kernel) (pa_cons (pv 1) pa_nil)))
    (pss_cons (ps_set (i := 3) scDivision.nd rfl (.inl rfl) (pe_lst pa_nil))
    (pss_cons (ps_for PassesOwn.never rfl (pi_enum rfl B.enumerate (pa_cons (pv 0) pa_nil)) (pg_tup rfl (pgs_cons (pg_name (i := 4) scDivision.nd rfl (Or.inl rfl)) (pgs_cons (pg_name (i := 5) scDivision.nd rfl (Or.inl rfl)) pgs_nil)))
      (pss_one (ps_expr (pe_bm PySem.F.plainAttrs_list PySem.F.slot_list_extend PySem.F.type_list_extend mt_extend (pv 3) (pa_cons (pe_c Cp hr (by decide) (pa_cons (pv 5) (pa_cons (pv 2) (pa_cons (pe_slice sl_list (pv 0) (po_some (pe_op op_add (pv 4) pe_int)) po_none) pa_nil)))) pa_nil)))))
    (pss_one (ps_ret (pv 3))))), ?_⟩)
  · obtain ⟨_, ⟨a, b, ps, x, rfl, _⟩, _⟩ := h
    rfl
  · obtain ⟨_, ⟨a, b, ps, x0, rfl, ⟨ts, h1, h2, h3⟩, hl, hx, hn, hq, hc, rfl⟩, k⟩ := h
    refine q_asgL (el_list (ev_var rfl) hx) fun r H1 hr1 e1 hr2 => ?_
    refine q_asgL (xs := []) (el_lst ea_nil (by decide)) fun fn H2 hf1 e2 hf2 => ?_
    have hfn := fresh_back e1 hf1
    have hrf : fn ≠ r := fun z => by rw [z, hr2] at hf1; cases hf1
    refine q_forE (xs := ts.map V.ref) (ea_cons (ev_var rfl) ea_nil) (ex_l (e1.trans e2) h1)
      (fun i σ H' => ∃ (x : List Int) (fs : List Nat) (y4 y5 : Option V), σ = [some (.ref a), some (.ref b), some (.ref r), some (.ref fn), y4, y5] ∧ Ex H H' ∧ H' r = some (.lst (x.map V.int)) ∧ H' fn = some (.lst (iv fs)) ∧ x.length = x0.length ∧ fs.length ≤ 8 * i ∧
        (∀ m, m < 2 ^ x0.length → (Vbptao.value (ps.drop i) m : Int) ≤ Vbptao.shareOf x0.length x m) ∧ fs ++ dvL x0.length (ps.drop i) x = dvL x0.length ps x0)
      (fun H3 e3 => ⟨x0, [], none, none, rfl, (e1.trans e2).trans e3, e3 _ _ (e2 _ _ hr2), e3 _ _ hf2, rfl, Nat.zero_le _, hc, rfl⟩) (fun i σ H' _ h => by obtain ⟨x, fs, y4, y5, _, e, _⟩ := h; exact ex_l e h1) ?_ ?_
    · rintro i v T σ H' hv ⟨x, fs, y4, y5, rfl, e, g1, g2, g3, g4, g5, g6⟩ hT
      have hi : i < ts.length := by have := (List.getElem?_eq_some_iff.mp hv).1; rwa [List.length_map] at this
      have ht : ts[i]? = some ts[i] := List.getElem?_eq_getElem hi
      obtain ⟨q, hqi⟩ : ∃ q, ps[i]? = some q := ⟨ps[i]'(by omega), List.getElem?_eq_getElem _⟩
      rw [List.getElem?_map, ht] at hv
      have ex : V.ref ts[i] = v := Option.some.inj hv
      subst ex
      refine g_tup2 (SqT.of upd_same) ?_
      have eT : Ex H' (upd H' T (.tup [.int (i : Nat), .ref ts[i]])) := Ex.new hT
      generalize upd H' T (.tup [.int (i : Nat), .ref ts[i]]) = H3 at eT
      have e3 := e.trans eT
      refine ⟨.ref fn, rfl, Or.inl ⟨rfl, _, SqL.of (eT _ _ g2)⟩, ?_⟩
      refine ⟨_, rfl, _, rfl, ?_⟩
      refine el_sl (hi := none) (ev_var rfl) (eo_some (i := ((i + 1 : Nat) : Int)) (ev_is (ev_add (ev_var rfl) ev_c) rfl)) eo_none (ex_l e3 h1) H3 (Ex.refl _) _ fun p H4 hp e4 hp4 => ?_
      rw [cut_from] at hp4
      have e34 := e3.trans e4
      have hr4 : H4 r = some (.lst (x.map V.int)) := e4 _ _ (eT _ _ g1)
      have hpr : p ≠ r := fun z => by rw [z, eT _ _ g1] at hp; cases hp
      have hdr := drop_cons hqi
      rw [hdr] at g5 g6
      have hq0 := hq _ (List.mem_of_getElem? hqi)
      have hps : Prods K (del H4 r) p (ps.drop (i + 1)) := by
        refine Prods.drop (K := K) (a := p) h2 h3 (ex_del e34 hr1) (i + 1) (sqL_del hpr (SqL.of hp4))
      refine ⟨ts[i], r, p, _, ps.drop (i + 1), x, rfl, hr4, ex_t (ex_del e34 hr1) (h3 i _ _ ht hqi), hps, by rw [List.length_drop]; omega, by omega, by rw [g3]; exact hq0, by rw [g3]; exact My.stab_next g5, fun p2 H5 hp2 e5 hr5 hp5 => ?_⟩
      rw [g3] at hr5 hp5
      have hf5 : H5 fn = some (.lst (iv fs)) := e5 _ _ (by rw [del_ne hrf]; exact e4 _ _ (eT _ _ g2))
      have hpl : (ptsL x0.length (ps.drop (i + 1)) (Vbptao.members x0.length q.need) q.need q.worth x).length ≤ 8 := by
        rw [pts_len]
        have := My.size_le x0.length q.need
        unfold Vbptao.size at this
        omega
      refine ⟨fn, p2, iv fs, _, rfl, rfl, hf5, hp5, sz_of (by rw [iv, List.length_map, iv, List.length_map]; omega), ?_⟩
      refine ⟨ptsX x0.length (ps.drop (i + 1)) (Vbptao.members x0.length q.need) q.need q.worth x, fs ++ ptsL x0.length (ps.drop (i + 1)) (Vbptao.members x0.length q.need) q.need q.worth x, some (.int (i : Int)), some (.ref ts[i]), rfl, Ex.mut ((ex_del e34 hr1).trans e5) hfn, ?_, ?_, ?_, ?_, ?_, ?_⟩
      · rw [upd_ne (Ne.symm hrf)]
        exact hr5
      · rw [upd_same, iv_app]
      · rw [ptsX_len]
        exact g3
      · rw [List.length_append]
        omega
      · exact pts_stab _ (My.stab_next g5) hq0 rfl g3
      · rw [← g6, dvL_cons, List.append_assoc]
    · rintro σ H' ⟨x, fs, y4, y5, rfl, e, g1, g2, g3, g4, g5, g6⟩
      have hnil : ps.drop (ts.map V.ref).length = [] := List.drop_eq_nil_of_le (by rw [List.length_map, h2]; exact Nat.le_refl _)
      rw [hnil, dvL_nil, List.append_nil] at g6
      refine s_ret (ev_var rfl) fun H3 e3 => k fn H3 hfn (e.trans e3) ?_
      rw [← g6]
      exact e3 _ _ g2
end
end Ro

set_option Elab.async false
set_option linter.all false
set_option maxRecDepth 100000
set_option maxHeartbeats 2000000
namespace Ro
open PySem PySem.Spec PyProof.Rows L2 Evl
def rMod : R2 := rI (fun _ j => 0 < j) fun i j => .int (i % j)
def rFdiv : R2 := rI CDiv fun i j => .int (i / j)
def rMul : R2 := rI CMul fun i j => .int (i * j)
section
variable {σ : L2.St} {H : Hp} {ta tb : TE}
theorem ev_mod {a b : Nat} (h1 : Ev ta σ H (.int a)) (h2 : Ev tb σ H (.int b)) (hb : 0 < b) : Ev (tOp rMod ta tb) σ H (.int ((a % b : Nat) : Int)) := ev_is (ev_op h1 h2 (rv_I (by omega))) (congrArg V.int (Int.natCast_emod a b).symm)
theorem ev_fdiv {a b : Nat} (h1 : Ev ta σ H (.int a)) (h2 : Ev tb σ H (.int b)) (hb : 0 < b) (hb2 : b < 1073741824) : Ev (tOp rFdiv ta tb) σ H (.int ((a / b : Nat) : Int)) := ev_is (ev_op h1 h2 (rv_I ⟨by omega, by omega⟩)) (congrArg V.int (Int.natCast_ediv a b).symm)
theorem ev_mul {a b : Nat} (h1 : Ev ta σ H (.int a)) (h2 : Ev tb σ H (.int b)) (ha : a < 2 ^ 63) : Ev (tOp rMul ta tb) σ H (.int ((a * b : Nat) : Int)) := ev_is (ev_op h1 h2 (rv_I (.inl ⟨by omega, by omega⟩))) (congrArg V.int (Int.natCast_mul a b).symm)
theorem ev_addN {a b : Nat} (h1 : Ev ta σ H (.int a)) (h2 : Ev tb σ H (.int b)) : Ev (tOp rAddI ta tb) σ H (.int ((a + b : Nat) : Int)) := ev_is (ev_add h1 h2) (congrArg V.int (Int.natCast_add a b).symm)
theorem ev_subN {a b : Nat} (h1 : Ev ta σ H (.int a)) (h2 : Ev tb σ H (.int b)) (h : b ≤ a) : Ev (tOp rSubI ta tb) σ H (.int ((a - b : Nat) : Int)) := ev_is (ev_sub h1 h2) (congrArg V.int (Int.ofNat_sub h).symm)
theorem ev_gtN {a b : Nat} (h1 : Ev ta σ H (.int a)) (h2 : Ev tb σ H (.int b)) : Ev (tOp (rI0 fun i j => .bl (decide (j < i))) ta tb) σ H (.bl (decide (b < a))) := ev_is (ev_op h1 h2 rv_I0) (congrArg V.bl (by rw [Bool.eq_iff_iff, decide_eq_true_eq, decide_eq_true_eq]; exact Int.ofNat_lt))
theorem ev_neN {a b : Nat} (h1 : Ev ta σ H (.int a)) (h2 : Ev tb σ H (.int b)) : Ev (tOp rNe ta tb) σ H (.bl (decide (a ≠ b))) := ev_is (ev_neI h1 h2) (congrArg V.bl (nat_ne a b))
theorem ev_eqN {a b : Nat} (h1 : Ev ta σ H (.int a)) (h2 : Ev tb σ H (.int b)) : Ev (tOp rEq ta tb) σ H (.bl (decide (a = b))) := ev_is (ev_eqI h1 h2) (congrArg V.bl (by rw [Bool.eq_iff_iff, decide_eq_true_eq, decide_eq_true_eq]; exact Int.natCast_inj))
end
section
variable {P : Program} {w : World} {K : PySem.W.Frag} {mg : Str → Option Value} {base : Heap}
/-! ### common_divisor(one, other) -/
abbrev sGcd : Stmt := top 24
def aGcd : List V → Hp → V → Prop := fun vs _ v => ∃ a b : Nat, vs = [.int a, .int b] ∧ v = .int (Nat.gcd a b : Nat)
theorem scGcd : FnScope ["one", "other"] ["one", "other"] (defScope sGcd) := ⟨rfl, rfl, rfl, by decide +kernel, rfl, by decide +kernel, by decide +kernel⟩
theorem ok_gcd (F : Def K mg "common_divisor" sGcd "common_divisor") : Cal P w K mg base 1 "common_divisor" (PV aGcd) := by
  refine F.cal scGcd (fun vs H Q E h => ?_) (fun _ _ _ _ _ _ us hl => match us, hl with | [_, _], _ => rfl) (fun cdv f A outer s H vs Q E hr h => ⟨_,
    pss_cons (ps_while PassesOwn.never (pt_cmpR op_gt (pv 0) pe_int (nomark _)) (pss_one (ps_par (i := 0) (j := 1) (by rfl) scGcd.nd rfl rfl (by decide) rfl rfl (pa_cons (pe_op op_mod (pv 1) (pv 0)) (pa_cons (pv 0) pa_nil)) (by rfl))))
    (pss_one (ps_ret (pv 1))), ?_⟩)
  · obtain ⟨_, ⟨a, b, rfl, _⟩, _⟩ := h
    rfl
  · obtain ⟨_, ⟨a, b, rfl, rfl⟩, k⟩ := h
    refine q_while (fun m σ H' => ∃ c d : Nat, σ = [some (.int c), some (.int d)] ∧ Ex H H' ∧ Nat.gcd c d = Nat.gcd a b ∧ m = c) _ ⟨a, b, rfl, Ex.refl _, rfl, rfl⟩ ?_
    rintro m σ H' ⟨c, d, rfl, e, hg, rfl⟩
    refine ⟨decide (0 < m), et_test (ev_gtN (ev_var rfl) (ev_c (v := .int (0 : Nat)))), fun hb H3 e3 => ?_, fun hb H3 e3 => ?_⟩
    · have hc := of_decide_eq_true hb
      refine ⟨fun σ' H'' => ∃ m', m' < m ∧ ∃ c d : Nat, σ' = [some (.int c), some (.int d)] ∧ Ex H H'' ∧ Nat.gcd c d = Nat.gcd a b ∧ m' = c, fun _ _ h => h, ?_⟩
      refine ea_cons (ev_mod (ev_var rfl) (ev_var rfl) hc) (ea_cons (ev_var rfl) ea_nil) H3 (Ex.refl _) _ fun H4 e4 => ⟨_, _, rfl, ?_⟩
      exact ⟨d % m, Nat.mod_lt _ hc, d % m, m, rfl, (e.trans e3).trans e4, by rw [My.gcd_turn hc, hg], rfl⟩
    · have hc : m = 0 := by have := of_decide_eq_false hb; omega
      subst hc
      rw [Nat.gcd_zero_left] at hg
      subst hg
      exact s_ret (ev_var rfl) fun H4 e4 => k H4 ((e.trans e3).trans e4)
/-! ### equal_parts_of(number, worth, many) -/
abbrev sEqOf : Stmt := top 25
def aEqOf : List V → Hp → List V → Prop := fun vs _ xs => ∃ q z n : Nat, vs = [.int q, .int z, .int n] ∧ 0 < n ∧ n ≤ 8 ∧ z ≤ 1000000000 ∧ xs = iv (My.unitsAt q (z / n) n (z % n))
theorem scEqOf : FnScope ["number", "worth", "many", "part", "found", "place", "unit"] ["number", "worth", "many"] (defScope sEqOf) := ⟨rfl, rfl, rfl, by decide +kernel, rfl, by decide +kernel, by decide +kernel⟩
theorem iv_map (l : List Nat) : iv l = (l.map fun (n : Nat) => (n : Int)).map V.int := by
  rw [List.map_map]
  rfl
theorem iv_set (l : List Nat) (i t : Nat) : (iv l).set i (.int (t : Int)) = iv (l.set i t) := by
  unfold iv
  rw [List.map_set]
theorem iv_setI {l : List Nat} {i t : Nat} {z : Int} (e : z = (t : Int)) : ((l.map fun (n : Nat) => (n : Int)).set i z).map V.int = iv (l.set i t) := by
  subst e
  rw [iv_map, List.map_set, List.map_set, List.map_set]
theorem ok_eqOf (B : Bt mg) (F : Def K mg "equal_parts_of" sEqOf "equal_parts_of") : Cal P w K mg base 1 "equal_parts_of" (PL aEqOf) := by
  refine F.cal scEqOf (fun vs H Q E h => ?_) (fun _ _ _ _ _ _ us hl => match us, hl with | [_, _, _], _ => rfl) (fun cdv f A outer s H vs Q E hr h => ⟨_,
    pss_cons (ps_set (i := 3) scEqOf.nd rfl (.inr rfl) (pe_op op_fdiv (pv 1) (pv 2)))
    (pss_cons (ps_setLc (i := 4) (own := [("place", 5)]) (g := gName 5) (by rfl) scEqOf.nd rfl rfl (sw_true rfl rfl rfl (by decide +kernel)) (pi_range1 rfl B.range (pa_cons (pv 2) pa_nil)) (blkOk_by (own := [("place", 5)]) (N := ["number", "worth", "many", "part", "found", "place", "unit"]) (sc := defScope sEqOf) (by decide +kernel))
      (fun _ _ _ _ _ => pg_name (i := 5) scEqOf.nd rfl (Or.inl rfl)) (fun _ _ _ _ _ => pts_nil) (fun _ _ _ _ _ => pv 3))
    (pss_cons (ps_for PassesOwn.never rfl (pi_range1 rfl B.range (pa_cons (pe_op op_sub (pv 1) (pe_op op_mul (pv 3) (pv 2))) pa_nil)) (pg_name (i := 6) scEqOf.nd rfl (Or.inl rfl))
      (pss_one (ps_augS (pv 4) (pe_op op_mod (pe_op op_add (pv 0) (pv 6)) (pv 2)) get_list pe_int ip_add set_list)))
    (pss_one (ps_ret (pv 4))))), ?_⟩)
  · obtain ⟨_, ⟨q, z, n, rfl, _⟩, _⟩ := h
    rfl
  · obtain ⟨_, ⟨q, z, n, rfl, hn, h8, hz, rfl⟩, k⟩ := h
    have hmul : z / n * n ≤ z := Nat.div_mul_le_self z n
    have hsub : z - z / n * n = z % n := by
      have h1 := Nat.div_add_mod z n
      have h2 := Nat.mul_comm n (z / n)
      omega
    have hmod : z % n < n := Nat.mod_lt _ hn
    refine q_asg (ev_fdiv (ev_var rfl) (ev_var rfl) hn (by omega)) fun H1 e1 => ?_
    have hl0 : ((List.range n).filter fun _ => true).map (fun _ => V.int ((z / n : Nat) : Int)) = iv (My.unitsAt q (z / n) n 0) := by
      rw [My.unitsAt_zero, List.filter_eq_self.mpr (fun _ _ => rfl), iv, List.map_map]
      rfl
    refine q_asgL (el_range (n := n) (fun _ => true) (fun _ => V.int ((z / n : Nat) : Int)) (fun (i : Nat) => [some (.int q), some (.int z), some (.int n), some (.int ((z / n : Nat) : Int)), none, some (.int (i : Int)), none]) (ea_cons (ev_var rfl) ea_nil) (by omega) (fun _ => rfl) (fun _ _ => rfl)
      (fun i _ H' _ => et_yes) (fun i _ H' _ _ => ev_var rfl)) fun l H2 hl1 e2 h2 => ?_
    rw [hl0] at h2
    have hl := fresh_back e1 hl1
    refine q_forR1 (n := ((z % n : Nat) : Int)) (ea_cons (ev_is (ev_subN (ev_var rfl) (ev_mul (ev_var rfl) (ev_var rfl) (Nat.lt_of_le_of_lt (Nat.div_le_self _ _) (by omega))) hmul) (by rw [hsub])) ea_nil) (by omega)
      (fun i σ H' => (∃ o5 o6, σ = [some (.int q), some (.int z), some (.int n), some (.int ((z / n : Nat) : Int)), some (.ref l), o5, o6]) ∧ Ex H H' ∧ H' l = some (.lst (iv (My.unitsAt q (z / n) n i)))) (fun H3 e3 => ⟨⟨_, _, rfl⟩, (e1.trans e2).trans e3, e3 _ _ h2⟩) ?_ ?_
    · rintro i σ H' hi ⟨⟨o5, o6, rfl⟩, e, hL⟩
      have hin : i < n := by omega
      have hp : (q + i) % n < n := Nat.mod_lt _ hn
      have hget : ((My.unitsAt q (z / n) n i).map fun (n : Nat) => (n : Int))[(q + i) % n]? = some (((My.unitsAt q (z / n) n i).getD ((q + i) % n) 0 : Nat) : Int) := by
        rw [List.getElem?_map, List.getD_eq_getElem?_getD, List.getElem?_eq_getElem (by rw [My.unitsAt_len]; exact hp)]
        rfl
      rw [iv_map] at hL
      refine s_augL (l := l) (f := fun i j => i + j) (ev_var rfl) (ev_mod (ev_addN (ev_var rfl) (ev_var rfl)) (ev_var rfl) hn) ev_c hL hget fun H3 e3 => ?_
      refine ⟨⟨_, _, rfl⟩, Ex.mut (e.trans e3) hl, ?_⟩
      rw [← My.unitsAt_step hin, upd_same]
      exact congrArg (fun z => some (HO.lst z)) (iv_setI rfl)
    · rintro σ H' ⟨⟨o5, o6, rfl⟩, e, hL⟩
      rw [Int.toNat_natCast] at hL
      exact s_ret (ev_var rfl) fun H3 e3 => k l H3 hl (e.trans e3) (e3 _ _ hL)
/-! ### equal_parts(products, many) -/
abbrev sEqual : Stmt := top 26
def aEqual (K : PySem.W.Frag) : List V → Hp → List V → Prop := fun vs H xs => ∃ (a : Addr) (s : Vbptao.State), vs = [.ref a, .int s.n] ∧ Prods K H a s.products ∧ My.WF s ∧ xs = iv (Vbptao.equal s)
theorem scEqual : FnScope ["products", "many", "shares", "number", "needs", "worth", "owners", "owner", "part"] ["products", "many"] (defScope sEqual) := ⟨rfl, rfl, rfl, by decide +kernel, rfl, by decide +kernel, by decide +kernel⟩
theorem zip_get {α β : Type} {xs : List α} {ys : List β} {i : Nat} {x : α} {y : β} (hx : xs[i]? = some x) (hy : ys[i]? = some y) : (xs.zip ys)[i]? = some (x, y) := by
  rw [List.getElem?_zip_eq_some]
  exact ⟨hx, hy⟩
theorem ok_equal (B : Bt mg) (F : Def K mg "equal_parts" sEqual "equal_parts") (Cl : Cal P w K mg base 2 "listed" (PL aListed)) (Ce : Cal P w K mg base 1 "equal_parts_of" (PL aEqOf)) : Cal P w K mg base 3 "equal_parts" (PL (aEqual K)) := by
  refine F.cal scEqual (fun vs H Q E h => ?_) (fun _ _ _ _ _ _ us hl => match us, hl with | [_, _], _ => rfl) (fun cdv f A outer s H vs Q E hr h => ⟨_,
    pss_cons (ps_setLc (i := 2) (own := [("owner", 7)]) (g := gName 7) (by rfl) scEqual.nd rfl rfl (sw_true rfl rfl rfl (by decide +kernel)) (pi_range1 rfl B.range (pa_cons (pv 1) pa_nil)) (blkOk_by (own := [("owner", 7)]) (N := ["products", "many", "shares", "number", "needs", "worth", "owners", "owner", "part"]) (sc := defScope sEqual) (by decide +kernel))
      (fun _ _ _ _ _ => pg_name (i := 7) scEqual.nd rfl (Or.inl rfl)) (fun _ _ _ _ _ => pts_nil) (fun _ _ _ _ _ => pe_int))
    (pss_cons (ps_for PassesOwn.never rfl (pi_list (pv 0)) (pg_tup rfl (pgs_cons (pg_name (i := 3) scEqual.nd rfl (Or.inl rfl)) (pgs_cons (pg_name (i := 4) scEqual.nd rfl (Or.inl rfl)) (pgs_cons (pg_name (i := 5) scEqual.nd rfl (Or.inl rfl)) pgs_nil))))
      (pss_cons (ps_set (i := 6) scEqual.nd rfl (.inl rfl) (pe_c Cl hr (by decide) (pa_cons (pv 4) (pa_cons (pv 1) pa_nil))))
      (pss_one (ps_for PassesOwn.never rfl (pi_zip rfl B.zip (pa_cons (pv 6) (pa_cons (pe_c Ce hr (by decide) (pa_cons (pv 3) (pa_cons (pv 5) (pa_cons (pe_callB call_len_seq (by rfl) B.len PySem.boot_len (pa_cons (pv 6) pa_nil)) pa_nil)))) pa_nil)))
        (pg_tup rfl (pgs_cons (pg_name (i := 7) scEqual.nd rfl (Or.inl rfl)) (pgs_cons (pg_name (i := 8) scEqual.nd rfl (Or.inl rfl)) pgs_nil)))
        (pss_one (ps_augS (pv 2) (pv 7) get_list (pv 8) ip_add set_list))))))
    (pss_one (ps_ret (pv 2)))), ?_⟩)
  · obtain ⟨_, ⟨a, s, rfl, _⟩, _⟩ := h
    rfl
  · obtain ⟨_, ⟨a, s, rfl, ⟨ts, h1, h2, h3⟩, wf, rfl⟩, k⟩ := h
    have h8 := wf.n8
    have hl0 : ((List.range s.n).filter fun _ => true).map (fun _ => V.int 0) = iv (My.addedF s.n []) := by
      rw [My.addedF_nil, List.filter_eq_self.mpr (fun _ _ => rfl), iv, List.map_map]
      rfl
    refine q_asgL (el_range (n := s.n) (fun _ => true) (fun _ => V.int 0) (fun (i : Nat) => [some (.ref a), some (.int s.n), none, none, none, none, none, some (.int (i : Int)), none]) (ea_cons (ev_var rfl) ea_nil) (by omega) (fun _ => rfl) (fun _ _ => rfl)
      (fun i _ H' _ => et_yes) (fun i _ H' _ _ => ev_c)) fun l H1 hl e1 hL1 => ?_
    rw [hl0] at hL1
    refine q_forL (xs := ts.map V.ref) (ev_var rfl) (ex_l e1 h1)
      (fun i σ H' => (∃ o3 o4 o5 o6 o7 o8, σ = [some (.ref a), some (.int s.n), some (.ref l), o3, o4, o5, o6, o7, o8]) ∧ Ex H H' ∧ H' l = some (.lst (iv (My.addedF s.n ((s.products.take i).map (Vbptao.equalParts s.n)).flatten))))
      (fun H2 e2 => ⟨⟨_, _, _, _, _, _, rfl⟩, e1.trans e2, e2 _ _ hL1⟩) (fun i σ H' _ p => ex_l p.2.1 h1) ?_ ?_
    · rintro i v σ H' hv ⟨⟨o3, o4, o5, o6, o7, o8, rfl⟩, e, hL⟩
      have hi : i < ts.length := by have := (List.getElem?_eq_some_iff.mp hv).1; rwa [List.length_map] at this
      have ht : ts[i]? = some ts[i] := List.getElem?_eq_getElem hi
      obtain ⟨q, hq⟩ : ∃ q, s.products[i]? = some q := ⟨s.products[i]'(by omega), List.getElem?_eq_getElem _⟩
      rw [List.getElem?_map, ht] at hv
      have ex : V.ref ts[i] = v := Option.some.inj hv
      subst ex
      have hqm := List.mem_of_getElem? hq
      have hk : 0 < Vbptao.size s.n q.need := My.size_pos (wf.need q hqm).2 (wf.need q hqm).1
      have hk8 := My.size_le s.n q.need
      have hw9 := wf.worth q hqm
      unfold Vbptao.size at hk hk8
      refine g_tup3 (ex_t e (h3 i _ _ ht hq)) ?_
      refine q_asgL (el_cv (xs := iv (Vbptao.members s.n q.need)) (ea_cons (ev_var rfl) (ea_cons (ev_var rfl) ea_nil)) fun H2 _ => ⟨q.need, s.n, rfl, h8, rfl⟩) fun ol H2 hol e2 ho2 => ?_
      have hol_l : ol ≠ l := fun z => by rw [z, hL] at hol; cases hol
      have hlen : (iv (Vbptao.members s.n q.need)).length = (Vbptao.members s.n q.need).length := by rw [iv, List.length_map]
      have hstep : ((s.products.take (i + 1)).map (Vbptao.equalParts s.n)).flatten = ((s.products.take i).map (Vbptao.equalParts s.n)).flatten ++ Vbptao.equalParts s.n q := by
        rw [List.take_add_one, hq, List.map_append, List.flatten_append]
        show _ ++ (Vbptao.equalParts s.n q ++ []) = _
        rw [List.append_nil]
      have hup := My.unitsAt_len q.num (q.worth / (Vbptao.members s.n q.need).length) (Vbptao.members s.n q.need).length (q.worth % (Vbptao.members s.n q.need).length)
      have hzl : (Vbptao.equalParts s.n q).length = (Vbptao.members s.n q.need).length := by
        rw [My.equalParts_eq, List.length_zip, hup]
        omega
      refine s_forZ (a := ol) (xs := iv (Vbptao.members s.n q.need)) (ys := iv (My.unitsAt q.num (q.worth / (Vbptao.members s.n q.need).length) (Vbptao.members s.n q.need).length (q.worth % (Vbptao.members s.n q.need).length))) (ev_var rfl) (SqL.of ho2)
        (el_cv (ea_cons (ev_var rfl) (ea_cons (ev_var rfl) (ea_cons (ev_is (ev_len (ev_var rfl) (SqL.of ho2)) (by rw [hlen])) ea_nil))) fun H3 _ => ⟨q.num, q.worth, (Vbptao.members s.n q.need).length, rfl, hk, by omega, hw9, rfl⟩) (by rw [hlen, iv, List.length_map, hup])
        (fun b j σ H' => (∃ o7 o8, σ = [some (.ref a), some (.int s.n), some (.ref l), some (.int q.num), some (.int q.need), some (.int q.worth), some (.ref ol), o7, o8]) ∧ Ex H H' ∧ b ≠ l ∧ H' ol = some (.lst (iv (Vbptao.members s.n q.need))) ∧
          H' b = some (.lst (iv (My.unitsAt q.num (q.worth / (Vbptao.members s.n q.need).length) (Vbptao.members s.n q.need).length (q.worth % (Vbptao.members s.n q.need).length)))) ∧
          H' l = some (.lst (iv (My.addedF s.n (((s.products.take i).map (Vbptao.equalParts s.n)).flatten ++ (Vbptao.equalParts s.n q).take j)))))
        (fun b H3 hb e3 hb3 => ⟨⟨_, _, rfl⟩, (e.trans e2).trans e3, fun z => (by rw [z, e2 _ _ hL] at hb; cases hb), e3 _ _ ho2, hb3, by rw [List.take_zero, List.append_nil]; exact e3 _ _ (e2 _ _ hL)⟩) (fun b j σ H' h => ⟨SqL.of h.2.2.2.1, SqL.of h.2.2.2.2.1⟩) ?_ ?_
      · rintro b j x y T σ H3 hx hy ⟨⟨o7', o8', rfl⟩, e', hbl, g1, g2, g3⟩ hT
        obtain ⟨o, ho, rfl⟩ := iv_get hx
        obtain ⟨t, ht', rfl⟩ := iv_get hy
        have hon := (My.mem_members.mp (List.mem_of_getElem? ho)).1
        refine g_tup2 (SqT.of upd_same) ?_
        have eT : Ex H3 (upd H3 T (.tup [.int (o : Int), .int (t : Int)])) := Ex.new hT
        generalize upd H3 T (.tup [.int (o : Int), .int (t : Int)]) = H4 at eT
        have gl := eT _ _ g3
        rw [iv_map] at gl
        have hget : ((My.addedF s.n (((s.products.take i).map (Vbptao.equalParts s.n)).flatten ++ (Vbptao.equalParts s.n q).take j)).map fun (n : Nat) => (n : Int))[o]? = some ((My.tot (((s.products.take i).map (Vbptao.equalParts s.n)).flatten ++ (Vbptao.equalParts s.n q).take j) o : Nat) : Int) := by
          rw [List.getElem?_map, My.addedF_get _ hon]
          rfl
        refine s_augL (l := l) (f := fun i j => i + j) (ev_var rfl) (ev_var rfl) (ev_var rfl) gl hget fun H5 e5 => ?_
        have hzj : (Vbptao.equalParts s.n q)[j]? = some (o, t) := by
          rw [My.equalParts_eq]
          exact zip_get ho ht'
        refine ⟨⟨_, _, rfl⟩, Ex.mut ((e'.trans eT).trans e5) hl, hbl, ?_, ?_, ?_⟩
        · rw [upd_ne hol_l]
          exact e5 _ _ (eT _ _ g1)
        · rw [upd_ne hbl]
          exact e5 _ _ (eT _ _ g2)
        · rw [upd_same, List.take_add_one, hzj, ← List.append_assoc]
          show some (HO.lst _) = some (HO.lst (iv (My.addedF s.n (_ ++ [(o, t)]))))
          rw [← My.addedF_step _ _ hon]
          exact congrArg (fun z => some (HO.lst z)) (iv_setI rfl)
      · rintro b σ H3 ⟨⟨o7', o8', rfl⟩, e', hbl, g1, g2, g3⟩
        refine ⟨⟨_, _, _, _, _, _, rfl⟩, e', ?_⟩
        rw [hstep]
        rw [hlen, ← hzl, List.take_length] at g3
        exact g3
    · rintro σ H' ⟨⟨o3, o4, o5, o6, o7, o8, rfl⟩, e, hL⟩
      rw [List.length_map, h2, List.take_length] at hL
      refine s_ret (ev_var rfl) fun H3 e3 => k l H3 hl (e.trans e3) ?_
      rw [My.equal_eq]
      exact e3 _ _ hL
end
end Ro

set_option Elab.async false
set_option linter.all false
set_option maxRecDepth 100000
set_option maxHeartbeats 2000000
namespace Ro
open PySem PySem.Spec PyProof.Rows L2 Evl
section
variable {P : Program} {w : World} {K : PySem.W.Frag} {mg : Str → Option Value} {base : Heap}
/-! ### by_order(products, order) -/
abbrev sOrder : Stmt := top 27
def aOrder (K : PySem.W.Frag) : List V → Hp → List V → Prop := fun vs H xs => ∃ (a b : Addr) (s : Vbptao.State) (l : List Nat), vs = [.ref a, .ref b] ∧ Prods K H a s.products ∧ s.products.length ≤ 16 ∧ SqL K H b (iv l) ∧ l.Nodup ∧ (∀ i ∈ l, i < s.n) ∧ l.length = s.n ∧ s.n ≤ 8 ∧ xs = iv (Vbptao.ordered s l)
theorem scOrder : FnScope ["products", "order", "shares", "come", "owner"] ["products", "order"] (defScope sOrder) := ⟨rfl, rfl, rfl, by decide +kernel, rfl, by decide +kernel, by decide +kernel⟩
theorem bo_cons (ps : List Pr) (m i : Nat) (l : List Nat) : Vbptao.byOrder ps m (i :: l) = (i, Vbptao.value ps (m + 2 ^ i) - Vbptao.value ps m) :: Vbptao.byOrder ps (m + 2 ^ i) l := rfl
theorem const_list {α : Type} (l : List α) (v : V) : ((l.filter fun _ => true).map fun _ => v) = (List.range l.length).map fun _ => v := by
  rw [List.filter_eq_self.mpr (fun _ _ => rfl), List.map_const', List.map_const', List.length_range]
theorem ok_order (F : Def K mg "by_order" sOrder "by_order") (Cc : Cal P w K mg base 3 "comes_worths" (PV (aComes K))) : Cal P w K mg base 4 "by_order" (PL (aOrder K)) := by
  refine F.cal scOrder (fun vs H Q E h => ?_) (fun _ _ _ _ _ _ us hl => match us, hl with | [_, _], _ => rfl) (fun cdv f A outer s H vs Q E hr h => ⟨_,
    pss_cons (ps_setLc (i := 2) (own := [("owner", 4)]) (g := gName 4) (by rfl) scOrder.nd rfl rfl (sw_true rfl rfl rfl (by decide +kernel)) (pi_list (pv 1)) (blkOk_by (own := [("owner", 4)]) (N := ["products", "order", "shares", "come", "owner"]) (sc := defScope sOrder) (by decide +kernel))
      (fun _ _ _ _ _ => pg_name (i := 4) scOrder.nd rfl (Or.inl rfl)) (fun _ _ _ _ _ => pts_nil) (fun _ _ _ _ _ => pe_int))
    (pss_cons (ps_set (i := 3) scOrder.nd rfl (.inl rfl) pe_int)
    (pss_cons (ps_for PassesOwn.never rfl (pi_list (pv 1)) (pg_name (i := 4) scOrder.nd rfl (Or.inl rfl))
      (pss_cons (ps_asg (pe_c Cc hr (by decide) (pa_cons (pv 0) (pa_cons (pv 3) (pa_cons (pv 4) pa_nil)))) (pg_sub (pv 2) (pv 4) set_list))
      (pss_one (ps_set (i := 3) scOrder.nd rfl (.inl rfl) (pe_op op_or (pv 3) (pe_op op_shl pe_int (pv 4)))))))
    (pss_one (ps_ret (pv 2))))), ?_⟩)
  · obtain ⟨_, ⟨a, b, s, l, rfl, _⟩, _⟩ := h
    rfl
  · obtain ⟨_, ⟨a, b, s, l, rfl, hp, h16, hb, nd, hin, hlen, h8, rfl⟩, k⟩ := h
    have hl0 : ((l.filter fun _ => true).map fun _ => V.int 0) = iv (My.addedF s.n []) := by
      rw [const_list, hlen, My.addedF_nil, iv, List.map_map]
      rfl
    refine q_asgL (el_items (l := l) (u := fun (i : Nat) => V.int (i : Int)) (fun _ => true) (fun _ => V.int 0) (fun (i : Nat) => [some (.ref a), some (.ref b), none, none, some (.int (i : Int))]) (ev_var rfl) hb (by omega) (fun _ => rfl) (fun _ _ => rfl)
      (fun i _ H' _ => et_yes) (fun i _ H' _ _ => ev_c)) fun sl H1 hs1 e1 hL1 => ?_
    rw [hl0] at hL1
    refine q_asg ev_c fun H2 e2 => ?_
    refine q_forLn (xs := iv l) (ev_var rfl) (ex_l (e1.trans e2) hb)
      (fun i σ H' => ∃ (m : Nat) (done : List (Nat × Nat)) (o4 : Option V), σ = [some (.ref a), some (.ref b), some (.ref sl), some (.int m), o4] ∧ Ex H H' ∧ H' sl = some (.lst (iv (My.addedF s.n done))) ∧ done.map (·.1) = l.take i ∧ (∀ j, m.testBit j = true ↔ j ∈ l.take i) ∧
        done ++ Vbptao.byOrder s.products m (l.drop i) = Vbptao.byOrder s.products 0 l)
      (fun H3 e3 => ⟨0, [], none, rfl, (e1.trans e2).trans e3, e3 _ _ (e2 _ _ hL1), rfl, fun j => by simp, rfl⟩) (fun i σ H' _ h => by obtain ⟨_, _, _, _, e, _⟩ := h; exact ex_l e hb) ?_ ?_
    · rintro i v σ H' hv ⟨m, done, o4, rfl, e, g1, g2, g3, g4⟩
      obtain ⟨j, hj, rfl⟩ := iv_get hv
      have hjn := hin j (List.mem_of_getElem? hj)
      have htk : l.take (i + 1) = l.take i ++ [j] := by rw [List.take_add_one, hj]; rfl
      have hnot : j ∉ l.take i := by
        intro hm
        obtain ⟨k', e'⟩ := List.mem_iff_getElem?.mp hm
        have hk' := (List.getElem?_eq_some_iff.mp e').1
        rw [List.length_take] at hk'
        rw [List.getElem?_take_of_lt (by omega)] at e'
        have := nd_ix nd e' hj
        omega
      have hbit : m.testBit j = false := by
        cases c : m.testBit j with
        | false => rfl
        | true => exact absurd ((g3 j).mp c) hnot
      have hor := My.add_two hbit
      have hmono : Vbptao.value s.products m ≤ Vbptao.value s.products (m + 2 ^ j) := by rw [hor]; exact My.value_or
      rw [drop_cons hj, bo_cons] at g4
      have hget : j < (iv (My.addedF s.n done)).length := by rw [iv, List.length_map, My.addedF_len]; exact hjn
      refine q_setL (l := sl) (xs := iv (My.addedF s.n done)) (v := .int ((Vbptao.value s.products (m + 2 ^ j) - Vbptao.value s.products m : Nat) : Int)) g1 (ev_is (ev_cv (ea_cons (ev_var rfl) (ea_cons (ev_var rfl) (ea_cons (ev_var rfl) ea_nil))) fun H3 e3 => ⟨a, s.products, m, j, rfl, hp.mono (e.trans e3), h16, by omega, rfl⟩) ?_) (ev_var rfl) (ev_var rfl) hget fun H3 e3 => ?_
      · rw [← hor, Int.ofNat_sub hmono]
      · refine s_asg (ev_or (ev_var rfl) (ev_shl1 (ev_var rfl) (by omega))) fun H4 e4 => ?_
        refine ⟨m ||| 2 ^ j, done ++ [(j, Vbptao.value s.products (m + 2 ^ j) - Vbptao.value s.products m)], some (.int (j : Int)), rfl, (Ex.mut (e.trans e3) hs1).trans e4, ?_, ?_, fun q => ?_, ?_⟩
        · have hz : My.tot done j = 0 := My.tot_zero fun y hy q => hnot (by rw [← g2]; exact q ▸ List.mem_map_of_mem hy)
          rw [e4 _ _ upd_same, ← My.addedF_step _ _ hjn, hz, Nat.zero_add, iv_set]
        · rw [List.map_append, g2, htk]
          rfl
        · rw [My.tb_or_two, htk, List.mem_append, List.mem_singleton, Bool.or_eq_true, g3 q, decide_eq_true_eq]
          exact or_congr Iff.rfl ⟨fun h => h.symm, fun h => h.symm⟩
        · rw [← g4, List.append_assoc, hor]
          rfl
    · rintro σ H' ⟨m, done, o4, rfl, e, g1, g2, g3, g4⟩
      have hnil : l.drop (iv l).length = [] := by rw [iv, List.length_map]; exact List.drop_eq_nil_of_le (Nat.le_refl _)
      rw [hnil] at g4
      have e5 : done = Vbptao.byOrder s.products 0 l := by rw [← g4]; exact (List.append_nil _).symm
      refine s_ret (ev_var rfl) fun H3 e3 => k sl H3 hs1 (e.trans e3) ?_
      rw [My.ordered_eq, ← e5]
      exact e3 _ _ g1
/-! ### least_and_most(products, many, owner) -/
abbrev sLM : Stmt := top 28
def aLM (K : PySem.W.Frag) : List V → Hp → List V → Prop := fun vs H xs => ∃ (a : Addr) (s : Vbptao.State) (i : Nat), vs = [.ref a, .int s.n, .int i] ∧ Prods K H a s.products ∧ My.WF s ∧ i < s.n ∧ xs = iv [Vbptao.value s.products (2 ^ i), Vbptao.all s - Vbptao.value s.products (Vbptao.full s.n - 2 ^ i)]
theorem scLM : FnScope ["products", "many", "owner", "rest"] ["products", "many", "owner"] (defScope sLM) := ⟨rfl, rfl, rfl, by decide +kernel, rfl, by decide +kernel, by decide +kernel⟩
theorem all_sub {s : Vbptao.State} {i : Nat} (h : i < s.n) : ((Vbptao.value s.products ((Vbptao.full s.n - 2 ^ i) ||| 2 ^ i) : Nat) : Int) - (Vbptao.value s.products (Vbptao.full s.n - 2 ^ i) : Nat) = ((Vbptao.all s - Vbptao.value s.products (Vbptao.full s.n - 2 ^ i) : Nat) : Int) := by
  rw [My.rest_or h]
  have : Vbptao.value s.products (Vbptao.full s.n - 2 ^ i) ≤ Vbptao.all s := My.value_mono fun j hj => by
    rw [My.tb_sub_two (My.full_two h)] at hj
    exact ((Bool.and_eq_true _ _).mp hj).1
  show ((Vbptao.all s : Nat) : Int) - _ = _
  rw [Int.ofNat_sub this]
theorem ok_LM (F : Def K mg "least_and_most" sLM "least_and_most") (Ce : Cal P w K mg base 1 "everybody" (PV aEvery)) (Cc : Cal P w K mg base 3 "comes_worths" (PV (aComes K))) : Cal P w K mg base 4 "least_and_most" (PL (aLM K)) := by
  refine F.cal scLM (fun vs H Q E h => ?_) (fun _ _ _ _ _ _ us hl => match us, hl with | [_, _, _], _ => rfl) (fun cdv f A outer s H vs Q E hr h => ⟨_,
    pss_cons (ps_set (i := 3) scLM.nd rfl (.inl rfl) (pe_op op_sub (pe_c Ce hr (by decide) (pa_cons (pv 1) pa_nil)) (pe_op op_shl pe_int (pv 2))))
    (pss_one (ps_ret (pe_lst (pa_cons (pe_c Cc hr (by decide) (pa_cons (pv 0) (pa_cons pe_int (pa_cons (pv 2) pa_nil)))) (pa_cons (pe_c Cc hr (by decide) (pa_cons (pv 0) (pa_cons (pv 3) (pa_cons (pv 2) pa_nil)))) pa_nil))))), ?_⟩)
  · obtain ⟨_, ⟨a, s, i, rfl, _⟩, _⟩ := h
    rfl
  · obtain ⟨_, ⟨a, s, i, rfl, hp, wf, hi, rfl⟩, k⟩ := h
    have h8 := wf.n8
    refine q_asg (ev_subN (a := Vbptao.full s.n) (ev_cv (ea_cons (ev_var rfl) ea_nil) fun H1 _ => ⟨s.n, rfl, h8, rfl⟩) (ev_shl1 (ev_var rfl) (by omega)) (My.rest_two hi)) fun H1 e1 => ?_
    refine s_retL (el_lst (ea_cons (ev_is (ev_cv (ea_cons (ev_var rfl) (ea_cons ev_c (ea_cons (ev_var rfl) ea_nil))) fun H2 e2 => ⟨a, s.products, 0, i, rfl, hp.mono (e1.trans e2), wf.few, by omega, rfl⟩) ?_)
      (ea_cons (ev_is (ev_cv (ea_cons (ev_var rfl) (ea_cons (ev_var rfl) (ea_cons (ev_var rfl) ea_nil))) fun H2 e2 => ⟨a, s.products, Vbptao.full s.n - 2 ^ i, i, rfl, hp.mono (e1.trans e2), wf.few, by omega, rfl⟩) (congrArg V.int (all_sub hi))) ea_nil)) (by show 2 ≤ 100000; decide)) fun p H2 hp2 e2 h2 => k p H2 (fresh_back e1 hp2) (e1.trans e2) h2
    rw [My.value_zero wf.ne, Nat.zero_or]
    exact congrArg V.int (Int.sub_zero _)
/-! ### is_better(gain, people, most, most_people) -/
abbrev sBetter : Stmt := top 29
def aBetter : List V → Hp → V → Prop := fun vs _ v => ∃ g k G L : Nat, vs = [.int g, .int k, .int G, .int L] ∧ g < 2 ^ 63 ∧ G < 2 ^ 63 ∧ v = .bl (My.better g k G L)
theorem scBetter : FnScope ["gain", "people", "most", "most_people"] ["gain", "people", "most", "most_people"] (defScope sBetter) := ⟨rfl, rfl, rfl, by decide +kernel, rfl, by decide +kernel, by decide +kernel⟩
theorem ok_better (F : Def K mg "is_better" sBetter "is_better") : Cal P w K mg base 1 "is_better" (PV aBetter) := by
  refine F.cal scBetter (fun vs H Q E h => ?_) (fun _ _ _ _ _ _ us hl => match us, hl with | [_, _, _, _], _ => rfl) (fun cdv f A outer s H vs Q E hr h => ⟨_,
    pss_cons (ps_if (pt_cmpR op_ne (pe_op op_mul (pv 0) (pv 3)) (pe_op op_mul (pv 2) (pv 1)) (nomark _)) (pss_one (ps_ret (pe_cmpR op_gt (pe_op op_mul (pv 0) (pv 3)) (pe_op op_mul (pv 2) (pv 1)) (nomark _)))) pss_nil)
    (pss_one (ps_ret (pe_cmpR op_gt (pv 1) (pv 3) (nomark _)))), ?_⟩)
  · obtain ⟨_, ⟨g, k, G, L, rfl, _⟩, _⟩ := h
    rfl
  · obtain ⟨_, ⟨g, k', G, L, rfl, hg, hG, rfl⟩, k⟩ := h
    refine q_when (et_test (ev_neN (ev_mul (ev_var rfl) (ev_var rfl) hg) (ev_mul (ev_var rfl) (ev_var rfl) hG))) (fun hb H1 e1 => ?_) (fun hb H1 e1 => ?_)
    · refine s_ret (ev_is (ev_gtN (ev_mul (ev_var rfl) (ev_var rfl) hg) (ev_mul (ev_var rfl) (ev_var rfl) hG)) ?_) fun H2 e2 => k H2 (e1.trans e2)
      unfold My.better
      rw [if_pos (of_decide_eq_true hb)]
    · refine s_ret (ev_is (ev_gtN (ev_var rfl) (ev_var rfl)) ?_) fun H2 e2 => k H2 (e1.trans e2)
      unfold My.better
      rw [if_neg (of_decide_eq_false hb)]
end
end Ro

set_option Elab.async false
set_option linter.all false
set_option maxRecDepth 100000
set_option maxHeartbeats 2000000
namespace Ro
open PySem PySem.Spec PyProof.Rows L2 Evl
/-! ### a comprehension that makes an object an item: C tells what stands at it -/
def RelTo {α : Type} (C : α → Addr → Hp → Prop) (l : List α) (H : Hp) (ts : List Addr) : Prop := ts.length = l.length ∧ ∀ (i : Nat) (t : Addr) (q : α), ts[i]? = some t → l[i]? = some q → C q t H
theorem RelTo.snoc {α : Type} {C : α → Addr → Hp → Prop} {l : List α} {H H' : Hp} {ts : List Addr} {q : α} {t : Addr} (h : RelTo C l H ts) (m : ∀ q t, C q t H → C q t H') (c : C q t H') : RelTo C (l ++ [q]) H' (ts ++ [t]) := by
  refine ⟨by rw [List.length_append, List.length_append, h.1]; rfl, fun i t' q' ht hq => ?_⟩
  by_cases hi : i < ts.length
  · rw [List.getElem?_append_left hi] at ht
    rw [List.getElem?_append_left (by rw [← h.1]; exact hi)] at hq
    exact m _ _ (h.2 i t' q' ht hq)
  · rw [List.getElem?_append_right (by omega)] at ht
    rw [List.getElem?_append_right (by rw [← h.1]; omega)] at hq
    have hi0 : i - ts.length = 0 := by
      have := (List.getElem?_eq_some_iff.mp ht).1
      simp at this
      omega
    rw [hi0] at ht
    rw [show i - l.length = 0 by rw [← h.1]; exact hi0] at hq
    have e1 : t = t' := Option.some.inj ht
    have e2 : q = q' := Option.some.inj hq
    rw [← e1, ← e2]
    exact c
theorem lc_rel {α : Type} {J : It} {n : Nat} {G : Hp → Prop} {Y : Nat → Hp → V → Hp → Prop} (w : Walk J n G Y) {g : TG} {te : TE} {vs : List Nat} {σ : L2.St} {H1 : Hp} {D : Addr} {Qd : Hp → Prop} (hD : H1 D = none)
    (l : List α) (hn : n = l.length) (hl : l.length ≤ 40000) (C : α → Addr → Hp → Prop) (hC : ∀ q t H H', Ex H H' → C q t H → C q t H') (hU : ∀ q t H (acc acc' : List V), H D = some (.lst acc) → C q t H → C q t (upd H D (.lst acc')))
    (τ : α → L2.St) (hG : ∀ H', Ex H1 H' → G H') (hY : ∀ m x H' H'', Y m H' x H'' → Ex H' H'')
    (hg : ∀ m q x H' H'', l[m]? = some q → Ex H1 H' → Y m H' x H'' → ∀ Q : L2.St → Hp → Prop, Q (τ q) H'' → g x (wipe σ vs) H'' Q) (hw : ∀ q ∈ l, wipe (τ q) vs = wipe σ vs)
    (he : ∀ q ∈ l, ∀ H', Ex H1 H' → ∀ Q : VK, (∀ t H'', Ex H' H'' → C q t H'' → Q (.ref t) H'') → te (τ q) H' Q)
    (hd : ∀ H' ts, Ex H1 H' → H' D = some (.lst (ts.map V.ref)) → RelTo C l H' ts → Qd H') :
    ∃ W : Nat → Nat → Hp → Prop, (∃ m, W 0 m (upd H1 D (.lst []))) ∧ ∀ i m H, W i m H →
      (J.stop i H ∧ Qd H) ∨ (J.go i H ∧ ∃ Nx : Hp → Prop, (∀ H', Nx H' → ∃ m', m' < m ∧ W (i + 1) m' H') ∧ ∀ x H', J.yld i H x H' → g x (wipe σ vs) H' fun σ2 H2 => wipe σ2 vs = wipe σ vs ∧ tYes σ2 H2 fun b H3 =>
        if b = true then te σ2 H3 fun y H4 => ∃ acc, H4 D = some (.lst acc) ∧ acc.length < sizeLine ∧ Nx (upd H4 D (.lst (acc ++ [y]))) else Nx H3) := by
  subst hn
  refine lc_it w (fun m H' => ∃ ts, Made H1 D (ts.map V.ref) H' ∧ RelTo C (l.take m) H' ts) ⟨[], ⟨Ex.new hD, upd_same⟩, rfl, fun i t q h => by simp at h⟩ (fun m H' _ h => by obtain ⟨_, h, _⟩ := h; exact hG H' h.1) (fun m x H' H'' hm h y => ?_) (fun H' h => ?_)
  · obtain ⟨ts, h1, h2⟩ := h
    have hq : l[m]? = some l[m] := List.getElem?_eq_getElem hm
    have hin : l[m] ∈ l := List.getElem_mem hm
    have e2 := hY m x H' H'' y
    refine hg m _ x H' H'' hq h1.1 y _ ⟨hw _ hin, ?_⟩
    show te (τ l[m]) H'' _
    refine he _ hin H'' (h1.1.trans e2) _ fun t H4 e4 c4 => ?_
    have e24 := e2.trans e4
    have hD4 := e24 _ _ h1.2
    have htl : ts.length ≤ m := by rw [h2.1, List.length_take]; omega
    refine ⟨ts.map V.ref, hD4, sz_lt (by rw [List.length_map]; omega), ts ++ [t], ⟨Ex.mut (h1.1.trans e24) hD, by rw [upd_same, List.map_append]; rfl⟩, ?_⟩
    have hs : l.take (m + 1) = l.take m ++ [l[m]] := by rw [List.take_add_one, hq]; rfl
    rw [hs]
    exact h2.snoc (fun q t c => hU _ _ _ _ _ hD4 (hC _ _ _ _ e24 c)) (hU _ _ _ _ _ hD4 c4)
  · obtain ⟨ts, h1, h2⟩ := h
    rw [List.take_length] at h2
    exact hd H' ts h1.1 h1.2 h2
/-! ### a promise of a new tuple -/
def PU (args : List V → Hp → List V → Prop) : Sp := fun vs H Q _ => ∃ xs, args vs H xs ∧ ∀ p H2, H p = none → Ex H H2 → H2 p = some (.tup xs) → Q (.ref p) H2
section
variable {K : PySem.W.Frag} {σ : L2.St} {H : Hp} {z : V} {xs vs : List V} {ta : TA} {te : TE} {tz : TS} {D : Ends}
theorem eu_cv {args : List V → Hp → List V → Prop} (h : EvA ta σ H vs) (hs : ∀ H1, Ex H H1 → args vs H1 xs) : EvU (tCall (PU args) [] E0 ta) σ H xs := fun H1 e Q q =>
  h H1 e _ fun H2 e2 => by
    show PU args (vs ++ []) H2 Q E0
    rw [List.append_nil]
    exact ⟨xs, hs H2 (e.trans e2), fun p H3 hp e3 h3 => q p H3 (fresh_back e2 hp) (e2.trans e3) h3⟩
theorem q_asgUn2 {i j : Nat} {x y : V} (h : EvU te σ H [x, y]) (q : ∀ H1, Ex H H1 → tz D ((σ.set i (some x)).set j (some y)) H1) : tSeq (tAsg te (gTup K 2 (gCons (gName i) (gCons (gName j) gNil)))) tz D σ H :=
  h H (Ex.refl H) _ fun p H1 _ e1 h1 => g_tup2 (SqT.of h1) (q H1 e1)
theorem q_asgUn3 {i j k : Nat} {x y z : V} (h : EvU te σ H [x, y, z]) (q : ∀ H1, Ex H H1 → tz D (((σ.set i (some x)).set j (some y)).set k (some z)) H1) : tSeq (tAsg te (gTup K 3 (gCons (gName i) (gCons (gName j) (gCons (gName k) gNil))))) tz D σ H :=
  h H (Ex.refl H) _ fun p H1 _ e1 h1 => g_tup3 (SqT.of h1) (q H1 e1)
theorem s_par3 {i j k : Nat} {x y z : V} (h : EvA ta σ H [x, y, z]) (q : ∀ H1, Ex H H1 → D.nx (((σ.set i (some x)).set j (some y)).set k (some z)) H1) : tPar3 i j k ta D σ H :=
  h H (Ex.refl H) _ fun H1 e1 => ⟨x, y, z, rfl, q H1 e1⟩
end
section
variable {P : Program} {w : World} {K : PySem.W.Frag} {mg : Str → Option Value} {base : Heap}
/-! ### next_group(products, many, come) -/
abbrev sNext : Stmt := top 30
def aNext (K : PySem.W.Frag) : List V → Hp → List V → Prop := fun vs H xs => ∃ (a : Addr) (s : Vbptao.State) (m : Nat), vs = [.ref a, .int s.n, .int m] ∧ Prods K H a s.products ∧ My.WF s ∧ m < 2 ^ s.n ∧ xs = [.int ((Vbptao.richest s.n s.products m).1 : Nat), .int ((Vbptao.richest s.n s.products m).2 : Nat)]
theorem scNext : FnScope ["products", "many", "come", "rest", "before", "group", "most", "most_people", "owners", "gain", "people"] ["products", "many", "come"] (defScope sNext) := ⟨rfl, rfl, rfl, by decide +kernel, rfl, by decide +kernel, by decide +kernel⟩
/-- the best behind the first i sets -/
def bestTo (n : Nat) (ps : List Pr) (m i : Nat) : Nat × Nat := ((List.range i).filter (My.cand n m)).foldl (My.pick n ps m) (0, 0)
theorem bestTo_snd {s : Vbptao.State} (wf : My.WF s) (m i : Nat) : (bestTo s.n s.products m i).2 < 2 ^ 63 := by
  rcases My.pick_snd s.n s.products m ((List.range i).filter (My.cand s.n m)) (0, 0) (fun h => absurd rfl h) (fun _ => rfl) with h | h
  · unfold bestTo
    rw [h.1]
    decide
  · unfold bestTo
    rw [h]
    have := wf.value_le ((((List.range i).filter (My.cand s.n m)).foldl (My.pick s.n s.products m) (0, 0)).1 + m)
    omega
theorem ok_next (B : Bt mg) (F : Def K mg "next_group" sNext "next_group") (Ce : Cal P w K mg base 1 "everybody" (PV aEvery)) (Ca : Cal P w K mg base 2 "alone" (PV (aAlone K))) (Cw : Cal P w K mg base 1 "is_within" (PV aWithin)) (Cs : Cal P w K mg base 3 "size" (PV aSize)) (Cb : Cal P w K mg base 1 "is_better" (PV aBetter)) :
    Cal P w K mg base 4 "next_group" (PU (aNext K)) := by
  refine F.cal scNext (fun vs H Q E h => ?_) (fun _ _ _ _ _ _ us hl => match us, hl with | [_, _, _], _ => rfl) (fun cdv f A outer s H vs Q E hr h => ⟨_,
    pss_cons (ps_set (i := 3) scNext.nd rfl (.inl rfl) (pe_op op_sub (pe_c Ce hr (by decide) (pa_cons (pv 1) pa_nil)) (pv 2)))
    (pss_cons (ps_set (i := 4) scNext.nd rfl (.inl rfl) (pe_c Ca hr (by decide) (pa_cons (pv 0) (pa_cons (pv 2) pa_nil))))
    (pss_cons (ps_asg (pe_tup (pa_cons pe_int (pa_cons pe_int (pa_cons pe_int pa_nil)))) (pg_tup rfl (pgs_cons (pg_name (i := 5) scNext.nd rfl (Or.inl rfl)) (pgs_cons (pg_name (i := 6) scNext.nd rfl (Or.inl rfl)) (pgs_cons (pg_name (i := 7) scNext.nd rfl (Or.inl rfl)) pgs_nil)))))
    (pss_cons (ps_for PassesOwn.never rfl (pi_range2 rfl B.range (pa_cons pe_int (pa_cons (pe_op op_shl pe_int (pv 1)) pa_nil))) (pg_name (i := 8) scNext.nd rfl (Or.inl rfl))
      (pss_one (ps_if (pt_val (pe_c Cw hr (by decide) (pa_cons (pv 8) (pa_cons (pv 3) pa_nil))))
        (pss_cons (ps_set (i := 9) scNext.nd rfl (.inl rfl) (pe_op op_sub (pe_c Ca hr (by decide) (pa_cons (pv 0) (pa_cons (pe_op op_or (pv 2) (pv 8)) pa_nil))) (pv 4)))
        (pss_cons (ps_set (i := 10) scNext.nd rfl (.inl rfl) (pe_c Cs hr (by decide) (pa_cons (pv 8) (pa_cons (pv 1) pa_nil))))
        (pss_one (ps_if (PW.pt (pw_or (pt_cmpR op_eq (pv 5) pe_int (nomark _)) (pw_or1 (pt_val (pe_c Cb hr (by decide) (pa_cons (pv 9) (pa_cons (pv 10) (pa_cons (pv 6) (pa_cons (pv 7) pa_nil)))))))))
          (pss_one (ps_par3 (i := 5) (j := 6) (l := 7) (by rfl) scNext.nd rfl rfl rfl (by decide) (by decide) (by decide) rfl rfl rfl (pa_cons (pv 8) (pa_cons (pv 9) (pa_cons (pv 10) pa_nil))) (by rfl))) pss_nil)))) pss_nil)))
    (pss_one (ps_ret (pe_tup (pa_cons (pv 5) (pa_cons (pv 6) pa_nil)))))))), ?_⟩)
  · obtain ⟨_, ⟨a, s, m, rfl, _⟩, _⟩ := h
    rfl
  · obtain ⟨_, ⟨a, s, m, rfl, hp, wf, hm, rfl⟩, k⟩ := h
    have h8 := wf.n8
    have hz := pow_le h8
    have hmf := My.lt_iff_full.mp hm
    have hpos := Nat.two_pow_pos s.n
    refine q_asg (ev_subN (a := Vbptao.full s.n) (ev_cv (ea_cons (ev_var rfl) ea_nil) fun H1 _ => ⟨s.n, rfl, h8, rfl⟩) (ev_var rfl) hmf) fun H1 e1 => ?_
    refine q_asg (ev_cv (ea_cons (ev_var rfl) (ea_cons (ev_var rfl) ea_nil)) fun H2 e2 => ⟨a, s.products, m, rfl, hp.mono (e1.trans e2), wf.few, rfl⟩) fun H2 e2 => ?_
    refine q_asgUn3 (eu_tup (ea_cons ev_c (ea_cons ev_c (ea_cons ev_c ea_nil))) (by decide)) fun H3 e3 => ?_
    have e13 := (e1.trans e2).trans e3
    refine q_forR2 (lo := 1) (n := ((2 ^ s.n : Nat) : Int)) (ea_cons ev_c (ea_cons (ev_shl1 (ev_var rfl) (by omega)) ea_nil)) ⟨by decide, by decide, by have := (in_lid hz).1; omega, (in_lid hz).2⟩
      (fun i σ H' => (∃ o8 o9 o10, σ = [some (.ref a), some (.int s.n), some (.int m), some (.int ((Vbptao.full s.n - m : Nat) : Int)), some (.int (Vbptao.value s.products m : Nat)), some (.int ((bestTo s.n s.products m (i + 1)).1 : Nat)), some (.int ((bestTo s.n s.products m (i + 1)).2 : Nat)), some (.int (Vbptao.size s.n (bestTo s.n s.products m (i + 1)).1 : Nat)), o8, o9, o10]) ∧ Ex H H')
      (fun H4 e4 => ⟨⟨none, none, none, ?_⟩, e13.trans e4⟩) ?_ ?_
    · have : Vbptao.size s.n 0 = 0 := by
        unfold Vbptao.size
        rw [(My.members_nil hpos).mpr rfl]
        rfl
      have hb0 : bestTo s.n s.products m (0 + 1) = (0, 0) := rfl
      have this' : Vbptao.size s.n ((0, 0) : Nat × Nat).1 = 0 := this
      rw [hb0, this']
      rfl
    · rintro i σ H' hi ⟨⟨o8, o9, o10, rfl⟩, e⟩
      have hi' : i + 1 < 2 ^ s.n := by
        have : ((1 + i : Nat) : Int) < ((2 ^ s.n : Nat) : Int) := by rw [Int.natCast_add]; exact hi
        have := Int.ofNat_lt.mp this
        omega
      have hcast : (1 : Int) + (i : Int) = ((i + 1 : Nat) : Int) := by omega
      have hin := My.inside_rest hm hi'
      have hstep : bestTo s.n s.products m (i + 1 + 1) = if My.cand s.n m (i + 1) = true then My.pick s.n s.products m (bestTo s.n s.products m (i + 1)) (i + 1) else bestTo s.n s.products m (i + 1) := by
        unfold bestTo
        rw [range_filter_step]
      have hcand : My.cand s.n m (i + 1) = Vbptao.inside (i + 1) (Vbptao.full s.n - m) := by
        rw [hin]
        unfold My.cand
        rw [Bool.beq_eq_decide_eq]
        simp
      rw [hcast]
      refine s_when (b := Vbptao.inside (i + 1) (Vbptao.full s.n - m)) (et_B (ev_cv (ea_cons (ev_var rfl) (ea_cons (ev_var rfl) ea_nil)) fun H1 _ => ⟨i + 1, Vbptao.full s.n - m, rfl, rfl⟩)) (fun hb H4 e4 => ?_) (fun hb H4 e4 => ?_)
      · rw [hcand, if_pos hb] at hstep
        have hdis : (i + 1) &&& m = 0 := by rw [hin] at hb; exact of_decide_eq_true hb
        have hor := My.or_disj hdis
        have hmono : Vbptao.value s.products m ≤ Vbptao.value s.products (i + 1 + m) := by rw [← hor]; exact My.value_or
        have hv := wf.value_le (i + 1 + m)
        have hb2 := bestTo_snd wf m (i + 1)
        generalize bestTo s.n s.products m (i + 1) = b at hstep hb2 ⊢
        refine q_asg (v := V.int ((Vbptao.value s.products (i + 1 + m) - Vbptao.value s.products m : Nat) : Int)) (ev_is (ev_sub (ev_cv (ea_cons (ev_var rfl) (ea_cons (ev_or (ev_var rfl) (ev_var rfl)) ea_nil)) fun H5 e5 => ⟨a, s.products, m ||| (i + 1), rfl, hp.mono ((e.trans e4).trans e5), wf.few, rfl⟩) (ev_var rfl)) (by rw [hor, Int.ofNat_sub hmono])) fun H5 e5 => ?_
        refine q_asg (ev_cv (ea_cons (ev_var rfl) (ea_cons (ev_var rfl) ea_nil)) fun H6 _ => ⟨i + 1, s.n, rfl, h8, rfl⟩) fun H6 e6 => ?_
        have e46 := (e4.trans e5).trans e6
        refine s_when (b := decide (b.1 = 0) || My.better (Vbptao.value s.products (i + 1 + m) - Vbptao.value s.products m) (Vbptao.size s.n (i + 1)) b.2 (Vbptao.size s.n b.1)) (et_or (et_test (ev_eqN (ev_var rfl) (ev_c (v := .int (0 : Nat))))) fun _ => et_B (ev_cv (ea_cons (ev_var rfl) (ea_cons (ev_var rfl) (ea_cons (ev_var rfl) (ea_cons (ev_var rfl) ea_nil)))) fun H7 _ => ⟨_, _, _, _, rfl, by omega, hb2, rfl⟩)) (fun hc H7 e7 => ?_) (fun hc H7 e7 => ?_)
        · have hpick : My.pick s.n s.products m b (i + 1) = (i + 1, Vbptao.value s.products (i + 1 + m) - Vbptao.value s.products m) := by
            unfold My.pick
            rw [Bool.or_eq_true, decide_eq_true_eq] at hc
            rw [if_pos hc]
          rw [hpick] at hstep
          refine s_par3 (ea_cons (ev_var rfl) (ea_cons (ev_var rfl) (ea_cons (ev_var rfl) ea_nil))) fun H8 e8 => ?_
          refine ⟨⟨some (V.int ((i + 1 : Nat) : Int)), some (V.int ((Vbptao.value s.products (i + 1 + m) - Vbptao.value s.products m : Nat) : Int)), some (V.int (Vbptao.size s.n (i + 1) : Nat)), ?_⟩, ((e.trans e46).trans e7).trans e8⟩
          rw [hstep]
          rfl
        · have hpick : My.pick s.n s.products m b (i + 1) = b := by
            unfold My.pick
            rw [Bool.or_eq_false_iff, decide_eq_false_iff_not] at hc
            rw [if_neg (fun q => q.elim hc.1 fun q => by rw [hc.2] at q; cases q)]
          rw [hpick] at hstep
          refine ⟨⟨some (V.int ((i + 1 : Nat) : Int)), some (V.int ((Vbptao.value s.products (i + 1 + m) - Vbptao.value s.products m : Nat) : Int)), some (V.int (Vbptao.size s.n (i + 1) : Nat)), ?_⟩, (e.trans e46).trans e7⟩
          rw [hstep]
          rfl
      · rw [hcand, if_neg (by rw [hb]; decide)] at hstep
        refine ⟨⟨some (V.int ((i + 1 : Nat) : Int)), o9, o10, ?_⟩, e.trans e4⟩
        rw [hstep]
        rfl
    · rintro σ H' ⟨⟨o8, o9, o10, rfl⟩, e⟩
      have hN : (((2 ^ s.n : Nat) : Int) - 1).toNat + 1 = 2 ^ s.n := by
        generalize 2 ^ s.n = N at hpos
        omega
      rw [hN]
      have hr : bestTo s.n s.products m (2 ^ s.n) = Vbptao.richest s.n s.products m := by
        rw [My.richest_eq]
        rfl
      rw [hr]
      exact s_retU (eu_tup (ea_cons (ev_var rfl) (ea_cons (ev_var rfl) ea_nil)) (by show 2 ≤ 100000; decide)) fun p H4 hp4 e4 h4 => k p H4 (fresh_back e hp4) (e.trans e4) h4
end
end Ro

set_option Elab.async false
set_option linter.all false
set_option maxRecDepth 100000
set_option maxHeartbeats 2000000
namespace Ro
open PySem PySem.Spec PyProof.Rows L2 Evl
/-- a list of pairs of numbers as tuples -/
def Pair2 : Nat × Nat → Addr → Hp → Prop := fun y t H => H t = some (.tup [.int (y.1 : Int), .int (y.2 : Int)])
abbrev ShAt (H : Hp) (ts : List Addr) (l : List (Nat × Nat)) : Prop := RelTo Pair2 l H ts
theorem Pair2.mono {y : Nat × Nat} {t : Addr} {H H' : Hp} (e : Ex H H') (h : Pair2 y t H) : Pair2 y t H' := e _ _ h
theorem Pair2.keep {y : Nat × Nat} {t D : Addr} {H : Hp} {acc acc' : List V} (hD : H D = some (.lst acc)) (h : Pair2 y t H) : Pair2 y t (upd H D (.lst acc')) := by
  unfold Pair2 at h ⊢
  rw [upd_ne (ne_of h hD (by intro z; cases z))]
  exact h
theorem RelTo.mono {α : Type} {C : α → Addr → Hp → Prop} {l : List α} {H H' : Hp} {ts : List Addr} (h : RelTo C l H ts) (m : ∀ q t, C q t H → C q t H') : RelTo C l H' ts := ⟨h.1, fun i t q a b => m _ _ (h.2 i t q a b)⟩
theorem RelTo.set {α : Type} {C : α → Addr → Hp → Prop} {l : List α} {H : Hp} {ts : List Addr} {j : Nat} {q : α} {t : Addr} (h : RelTo C l H ts) (c : C q t H) : RelTo C (l.set j q) H (ts.set j t) := by
  refine ⟨by rw [List.length_set, List.length_set, h.1], fun i t' q' ht hq => ?_⟩
  by_cases e : j = i
  · subst e
    have h1 : j < ts.length := by have := (List.getElem?_eq_some_iff.mp ht).1; rwa [List.length_set] at this
    rw [List.getElem?_set_self h1] at ht
    rw [List.getElem?_set_self (by rw [← h.1]; exact h1)] at hq
    cases ht
    cases hq
    exact c
  · rw [List.getElem?_set_ne e] at ht hq
    exact h.2 i t' q' ht hq
section
variable {K : PySem.W.Frag} {σ : L2.St} {H : Hp} {te : TE} {vs : List Nat} {D : Ends} {tz : TS}
theorem rel_range {tl : TA} {i j n : Nat} {C : Nat → Addr → Hp → Prop} (τ : Nat → L2.St) (h : EvA tl σ H [.int (n : Int)]) (hl : n ≤ 40000) (hC : ∀ q t H H', Ex H H' → C q t H → C q t H') (hU : ∀ q t H D (acc acc' : List V), H D = some (.lst acc) → C q t H → C q t (upd H D (.lst acc')))
    (hτ : ∀ m : Nat, τ m = (wipe σ vs).set i (some (.int (m : Int)))) (hw : ∀ m, m < n → wipe (τ m) vs = wipe σ vs)
    (he : ∀ m, m < n → ∀ H', Ex H H' → ∀ Q : VK, (∀ t H'', Ex H' H'' → C m t H'' → Q (.ref t) H'') → te (τ m) H' Q)
    (k : ∀ l ts H', H l = none → Ex H H' → H' l = some (.lst (ts.map V.ref)) → RelTo C (List.range n) H' ts → tz D (σ.set j (some (.ref l))) H') :
    tSeq (tAsg (tLc (iRng1 tl) (gName i) tYes te vs) (gName j)) tz D σ H := h H (Ex.refl _) _ fun H1 e1 => by
  refine ⟨(n : Int), rfl, by omega, by omega, fun D' hD => ?_⟩
  refine lc_rel (walk_range (lo := 0) (n := (n : Int).toNat)) hD (List.range n) (by rw [List.length_range, Int.toNat_natCast]) (by rw [List.length_range]; exact hl) C hC (fun q t H acc acc' => hU q t H D' acc acc') τ (fun _ _ => trivial) (fun m x H' H'' y => by rw [y.1]; exact Ex.refl _) (fun m q x H' H'' hq e' y Q hQ => ?_) (fun q hq => hw q (List.mem_range.mp hq))
    (fun q hq H' e' => he q (List.mem_range.mp hq) H' (e1.trans e')) (fun H' ts e' hD' hr => k D' ts H' (fresh_back e1 hD) (e1.trans e') hD' hr)
  obtain ⟨rfl, rfl⟩ := y
  have hm : m < n := by have := (List.getElem?_eq_some_iff.mp hq).1; rwa [List.length_range] at this
  rw [List.getElem?_range hm] at hq
  have em : m = q := Option.some.inj hq
  subst em
  show Q ((wipe σ vs).set i (some (.int (0 + (m : Int))))) _
  rw [Int.zero_add, ← hτ m]
  exact hQ
end
section
variable {P : Program} {w : World} {K : PySem.W.Frag} {mg : Str → Option Value} {base : Heap}
/-! ### most_even(products, many) -/
abbrev sEven : Stmt := top 31
def spEven (K : PySem.W.Frag) : Sp := fun vs H Q _ => ∃ (a : Addr) (s : Vbptao.State), vs = [.ref a, .int s.n] ∧ Prods K H a s.products ∧ My.WF s ∧ ∀ p ts H2, H p = none → Ex H H2 → H2 p = some (.lst (ts.map V.ref)) → ShAt H2 ts (Vbptao.evenShares s) → Q (.ref p) H2
theorem scEven : FnScope ["products", "many", "shares", "come", "group", "gain", "people", "by", "owner"] ["products", "many"] (defScope sEven) := ⟨rfl, rfl, rfl, by decide +kernel, rfl, by decide +kernel, by decide +kernel⟩
theorem ok_even (B : Bt mg) (F : Def K mg "most_even" sEven "most_even") (Ce : Cal P w K mg base 1 "everybody" (PV aEvery)) (Cn : Cal P w K mg base 4 "next_group" (PU (aNext K))) (Cs : Cal P w K mg base 3 "size" (PV aSize)) (Cg : Cal P w K mg base 1 "common_divisor" (PV aGcd)) (Cl : Cal P w K mg base 2 "listed" (PL aListed)) :
    Cal P w K mg base 5 "most_even" (spEven K) := by
  refine F.cal scEven (fun vs H Q E h => ?_) (fun _ _ _ _ _ _ us hl => match us, hl with | [_, _], _ => rfl) (fun cdv f A outer s H vs Q E hr h => ⟨_,
    pss_cons (ps_setLc (i := 2) (own := [("owner", 8)]) (g := gName 8) (by rfl) scEven.nd rfl rfl (sw_true rfl rfl rfl (by decide +kernel)) (pi_range1 rfl B.range (pa_cons (pv 1) pa_nil)) (blkOk_by (own := [("owner", 8)]) (N := ["products", "many", "shares", "come", "group", "gain", "people", "by", "owner"]) (sc := defScope sEven) (by decide +kernel))
      (fun _ _ _ _ _ => pg_name (i := 8) scEven.nd rfl (Or.inl rfl)) (fun _ _ _ _ _ => pts_nil) (fun _ _ _ _ _ => pe_tup (pa_cons pe_int (pa_cons pe_int pa_nil))))
    (pss_cons (ps_set (i := 3) scEven.nd rfl (.inl rfl) pe_int)
    (pss_cons (ps_while PassesOwn.never (pt_cmpR op_ne (pv 3) (pe_c Ce hr (by decide) (pa_cons (pv 1) pa_nil)) (nomark _))
      (pss_cons (ps_asg (pe_c Cn hr (by decide) (pa_cons (pv 0) (pa_cons (pv 1) (pa_cons (pv 3) pa_nil)))) (pg_tup rfl (pgs_cons (pg_name (i := 4) scEven.nd rfl (Or.inl rfl)) (pgs_cons (pg_name (i := 5) scEven.nd rfl (Or.inl rfl)) pgs_nil))))
      (pss_cons (ps_set (i := 6) scEven.nd rfl (.inl rfl) (pe_c Cs hr (by decide) (pa_cons (pv 4) (pa_cons (pv 1) pa_nil))))
      (pss_cons (ps_set (i := 7) scEven.nd rfl (.inl rfl) (pe_c Cg hr (by decide) (pa_cons (pv 5) (pa_cons (pv 6) pa_nil))))
      (pss_cons (ps_for PassesOwn.never rfl (pi_list (pe_c Cl hr (by decide) (pa_cons (pv 4) (pa_cons (pv 1) pa_nil)))) (pg_name (i := 8) scEven.nd rfl (Or.inl rfl))
        (pss_one (ps_asg (pe_tup (pa_cons (pe_op op_fdiv (pv 5) (pv 7)) (pa_cons (pe_op op_fdiv (pv 6) (pv 7)) pa_nil))) (pg_sub (pv 2) (pv 8) set_list))))
      (pss_one (ps_set (i := 3) scEven.nd rfl (.inl rfl) (pe_op op_or (pv 3) (pv 4)))))))))
    (pss_one (ps_ret (pv 2))))), ?_⟩)
  · obtain ⟨a, s, rfl, _⟩ := h
    rfl
  · obtain ⟨a, s, rfl, hp, wf, k⟩ := h
    have h8 := wf.n8
    have hpos := Nat.two_pow_pos s.n
    refine rel_range (n := s.n) (C := fun (_ : Nat) => Pair2 (0, 1)) (fun (i : Nat) => [some (.ref a), some (.int s.n), none, none, none, none, none, none, some (.int (i : Int))]) (ea_cons (ev_var rfl) ea_nil) (by omega) (fun q t H H' e h => h.mono e) (fun q t H D acc acc' hD h => h.keep hD)
      (fun _ => rfl) (fun _ _ => rfl) (fun i _ H' e' Q' hQ => eu_tup (ea_cons ev_c (ea_cons ev_c ea_nil)) (by decide) H' (Ex.refl _) Q' fun p H2 _ e2 h2 => hQ p H2 e2 h2) fun sl ts0 H1 hsl e1 hl1 hr1 => ?_
    have hr0 : ShAt H1 ts0 (My.toldL s.n []) := by
      refine ⟨by rw [My.toldL_len, hr1.1, List.length_range], fun i t q ht hq => ?_⟩
      have hi : i < s.n := by have := (List.getElem?_eq_some_iff.mp hq).1; rwa [My.toldL_len] at this
      have := hr1.2 i t i ht (List.getElem?_range hi)
      rw [My.toldL_get _ hi] at hq
      cases hq
      exact this
    refine q_asg ev_c fun H2 e2 => ?_
    refine q_while (fun m σ H' => ∃ (L : List (Nat × Nat × Nat)) (done f : Nat) (ts : List Addr) (o4 o5 o6 o7 o8 : Option V), σ = [some (.ref a), some (.int s.n), some (.ref sl), some (.int done), o4, o5, o6, o7, o8] ∧ Ex H H' ∧ H' sl = some (.lst (ts.map V.ref)) ∧ ShAt H' ts (My.toldL s.n L) ∧
        done < 2 ^ s.n ∧ (∀ y ∈ L, done.testBit y.1 = true) ∧ L ++ Vbptao.even s.n s.products f done = Vbptao.even s.n s.products (s.n + 1) 0 ∧ s.n - Vbptao.size s.n done < f ∧ m = s.n - Vbptao.size s.n done) _
      ⟨[], 0, s.n + 1, ts0, none, none, none, none, none, rfl, e1.trans e2, e2 _ _ hl1, hr0.mono fun q t h => h.mono e2, hpos, fun y h => (nomatch h), rfl, by omega, rfl⟩ ?_
    rintro m σ H' ⟨L, done, f, ts, o4, o5, o6, o7, o8, rfl, e, g1, g2, g3, g4, g5, g6, rfl⟩
    refine ⟨decide (done ≠ Vbptao.full s.n), et_test (ev_neN (ev_var rfl) (ev_cv (ea_cons (ev_var rfl) ea_nil) fun H1 _ => ⟨s.n, rfl, h8, rfl⟩)), fun hb H3 e3 => ?_, fun hb H3 e3 => ?_⟩
    · have hne := of_decide_eq_true hb
      obtain ⟨r0, r1, r2⟩ := My.richest_ok (ps := s.products) g3 hne
      have hgain := My.richest_gain (n := s.n) (ps := s.products) (done := done) (W := 16000000000) wf.value_le
      have hsz := My.size_pos r1 r0
      have hsz8 := My.size_le s.n (Vbptao.richest s.n s.products done).1
      obtain ⟨f', rfl⟩ : ∃ f', f = f' + 1 := ⟨f - 1, by omega⟩
      rw [My.even_step hne] at g5
      have hor := My.or_disj r2
      have hgrow := My.size_grow r1 g3 r2 r0
      have hlt := My.or_lt g3 r1
      have hdisj : ∀ i, (Vbptao.richest s.n s.products done).1.testBit i = true → done.testBit i = false := fun i hi => by
        cases c : done.testBit i with
        | false => rfl
        | true =>
          have : ((Vbptao.richest s.n s.products done).1 &&& done).testBit i = true := by rw [Nat.testBit_and, hi, c]; rfl
          rw [r2, Nat.zero_testBit] at this
          cases this
      refine ⟨fun σ' H'' => ∃ m', m' < s.n - Vbptao.size s.n done ∧ ∃ (L : List (Nat × Nat × Nat)) (done f : Nat) (ts : List Addr) (o4 o5 o6 o7 o8 : Option V), σ' = [some (.ref a), some (.int s.n), some (.ref sl), some (.int done), o4, o5, o6, o7, o8] ∧ Ex H H'' ∧ H'' sl = some (.lst (ts.map V.ref)) ∧ ShAt H'' ts (My.toldL s.n L) ∧
        done < 2 ^ s.n ∧ (∀ y ∈ L, done.testBit y.1 = true) ∧ L ++ Vbptao.even s.n s.products f done = Vbptao.even s.n s.products (s.n + 1) 0 ∧ s.n - Vbptao.size s.n done < f ∧ m' = s.n - Vbptao.size s.n done, fun _ _ h => h, ?_⟩
      refine q_asgUn2 (eu_cv (ea_cons (ev_var rfl) (ea_cons (ev_var rfl) (ea_cons (ev_var rfl) ea_nil))) fun H4 e4 => ⟨a, s, done, rfl, hp.mono ((e.trans e3).trans e4), wf, g3, rfl⟩) fun H4 e4 => ?_
      generalize Vbptao.richest s.n s.products done = b at r0 r1 r2 hgain hsz hsz8 g5 hor hgrow hlt hdisj ⊢
      refine q_asg (ev_cv (ea_cons (ev_var rfl) (ea_cons (ev_var rfl) ea_nil)) fun H5 _ => ⟨b.1, s.n, rfl, h8, rfl⟩) fun H5 e5 => ?_
      refine q_asg (ev_cv (ea_cons (ev_var rfl) (ea_cons (ev_var rfl) ea_nil)) fun H6 _ => ⟨b.2, Vbptao.size s.n b.1, rfl, rfl⟩) fun H6 e6 => ?_
      have e36 := ((e3.trans e4).trans e5).trans e6
      have hgp : 0 < Nat.gcd b.2 (Vbptao.size s.n b.1) := Nat.gcd_pos_of_pos_right _ hsz
      have hgl : Nat.gcd b.2 (Vbptao.size s.n b.1) ≤ 8 := Nat.le_trans (Nat.gcd_le_right _ hsz) (by omega)
      refine q_forNLn (xs := iv (Vbptao.members s.n b.1)) (el_cv (ea_cons (ev_var rfl) (ea_cons (ev_var rfl) ea_nil)) fun H7 _ => ⟨b.1, s.n, rfl, h8, rfl⟩)
        (fun pl i σ H'' => ∃ (ts : List Addr) (o8 : Option V), σ = [some (.ref a), some (.int s.n), some (.ref sl), some (.int done), some (.int (b.1 : Nat)), some (.int (b.2 : Nat)), some (.int (Vbptao.size s.n b.1 : Nat)), some (.int (Nat.gcd b.2 (Vbptao.size s.n b.1) : Nat)), o8] ∧ Ex H H'' ∧
          pl ≠ sl ∧ H'' pl = some (.lst (iv (Vbptao.members s.n b.1))) ∧ H'' sl = some (.lst (ts.map V.ref)) ∧ ShAt H'' ts (My.toldL s.n (L ++ ((Vbptao.members s.n b.1).take i).map fun i => (i, b.2, Vbptao.size s.n b.1))))
        (fun pl H7 hpl e7 h7 => ⟨ts, o8, rfl, (e.trans e36).trans e7, del_fresh (e36 _ _ g1) hpl, h7, e7 _ _ (e36 _ _ g1), by rw [List.take_zero, List.map_nil, List.append_nil]; exact g2.mono fun q t h => h.mono (e36.trans e7)⟩) (fun pl i σ H'' _ h => by obtain ⟨_, _, _, _, _, h, _⟩ := h; exact SqL.of h) ?_ ?_
      · rintro pl i v σ H7 hv ⟨ts', o8', rfl, e', n1, k1, k2, k3⟩
        obtain ⟨j, hj, rfl⟩ := iv_get hv
        have hjm := List.mem_of_getElem? hj
        obtain ⟨hjn, hjt⟩ := My.mem_members.mp hjm
        have hnot : ∀ y ∈ L ++ ((Vbptao.members s.n b.1).take i).map (fun i => (i, b.2, Vbptao.size s.n b.1)), y.1 ≠ j := by
          intro y hy hyj
          rcases List.mem_append.mp hy with h | h
          · have h1 := g4 y h
            rw [hyj, hdisj j hjt] at h1
            cases h1
          · obtain ⟨z, hz, rfl⟩ := List.mem_map.mp h
            have hzj : z = j := hyj
            subst hzj
            obtain ⟨k', e''⟩ := List.mem_iff_getElem?.mp hz
            have hk' := (List.getElem?_eq_some_iff.mp e'').1
            rw [List.length_take] at hk'
            rw [List.getElem?_take_of_lt (by omega)] at e''
            have := nd_ix (My.members_nodup s.n b.1) e'' hj
            omega
        have hstep : ((Vbptao.members s.n b.1).take (i + 1)).map (fun i => (i, b.2, Vbptao.size s.n b.1)) = ((Vbptao.members s.n b.1).take i).map (fun i => (i, b.2, Vbptao.size s.n b.1)) ++ [(j, b.2, Vbptao.size s.n b.1)] := by
          rw [List.take_add_one, hj, List.map_append]
          rfl
        refine eu_tup (ea_cons (ev_fdiv (ev_var rfl) (ev_var rfl) hgp (by omega)) (ea_cons (ev_fdiv (ev_var rfl) (ev_var rfl) hgp (by omega)) ea_nil)) (by show 2 ≤ 100000; decide) H7 (Ex.refl _) _ fun p H8 hp8 e8 h8p => ?_
        have hsl8 := e8 _ _ k2
        refine ⟨_, rfl, _, rfl, sl, ts'.map V.ref, (j : Int), j, rfl, rfl, hsl8, ixN_nat (by rw [List.length_map, k3.1, My.toldL_len]; exact hjn), ?_⟩
        refine ⟨ts'.set j p, some (.int (j : Int)), rfl, Ex.mut (e'.trans e8) hsl, n1, ?_, ?_, ?_⟩
        · rw [upd_ne n1]
          exact e8 _ _ k1
        · rw [upd_same, List.map_set]
        · rw [hstep, ← List.append_assoc, ← My.toldL_step hjn hnot]
          have c8 : Pair2 (My.cut (j, b.2, Vbptao.size s.n b.1)) p H8 := h8p
          exact ((k3.mono fun q t h => h.mono e8).set c8).mono fun q t h => h.keep hsl8
      · rintro pl σ H7 ⟨ts', o8', rfl, e', n1, k1, k2, k3⟩
        rw [iv, List.length_map, List.take_length] at k3
        refine s_asg (ev_or (ev_var rfl) (ev_var rfl)) fun H8 e8 => ?_
        refine ⟨_, ?_, L ++ (Vbptao.members s.n b.1).map (fun i => (i, b.2, Vbptao.size s.n b.1)), done ||| b.1, f', ts', some (.int (b.1 : Nat)), some (.int (b.2 : Nat)), some (.int (Vbptao.size s.n b.1 : Nat)), some (.int (Nat.gcd b.2 (Vbptao.size s.n b.1) : Nat)), o8', rfl, e'.trans e8, e8 _ _ k2, k3.mono fun q t h => h.mono e8, hlt, fun y hy => ?_, ?_, ?_, rfl⟩
        · have := My.size_le s.n (done ||| b.1)
          omega
        · rw [Nat.testBit_or]
          rcases List.mem_append.mp hy with h | h
          · rw [g4 y h]
            rfl
          · obtain ⟨z, hz, rfl⟩ := List.mem_map.mp h
            rw [(My.mem_members.mp hz).2]
            simp
        · rw [← g5, List.append_assoc, hor, Nat.add_comm]
        · have := My.size_le s.n (done ||| b.1)
          omega
    · have hfull : done = Vbptao.full s.n := by
        have := of_decide_eq_false hb
        exact Decidable.not_not.mp this
      refine s_ret (ev_var rfl) fun H4 e4 => k sl ts H4 hsl ((e.trans e3).trans e4) (e4 _ _ (e3 _ _ g1)) ?_
      rw [hfull, My.even_full, List.append_nil] at g5
      rw [My.evenShares_eq, ← g5]
      exact g2.mono fun q t h => h.mono (e3.trans e4)
end
end Ro

set_option Elab.async false
set_option linter.all false
set_option maxRecDepth 100000
set_option maxHeartbeats 2000000
namespace Ro
open PySem PySem.Spec PyProof.Rows L2 Evl
/-! ### the pool as it lies -/
abbrev Ent := Pr × Addr
def kvE (es : List Ent) : List (Key × V) := es.map fun e => (Sum.inl (e.1.num : Int), V.ref e.2)
def poolF (n : Nat) (d : Addr) : List (Str × V) := [("many", .int (n : Int)), ("known", .ref d)]
structure PoolAt (C : Addr) (H : Hp) (p d : Addr) (s : Vbptao.State) : Prop where
  ex : ∃ (dx : Addr) (es : List Ent), H p = some (.ins C dx (poolF s.n d)) ∧ H d = some (.dK (kvE es)) ∧ (∀ e ∈ es, H e.2 = some (.tup [.int (e.1.need : Int), .int (e.1.worth : Int)])) ∧ (es.map (·.1)).Perm s.products
theorem PoolAt.mono {C : Addr} {H H' : Hp} {p d : Addr} {s : Vbptao.State} (e : Ex H H') (h : PoolAt C H p d s) : PoolAt C H' p d s := by
  obtain ⟨dx, es, h1, h2, h3, h4⟩ := h.ex
  exact ⟨dx, es, e _ _ h1, e _ _ h2, fun y hy => e _ _ (h3 y hy), h4⟩
theorem poolF_many (n : Nat) (d : Addr) : (poolF n d).lookup ("many" : Str) = some (.int (n : Int)) := by
  show List.lookup ("many" : Str) ((("many" : Str), V.int (n : Int)) :: _) = _
  rw [List.lookup_cons]
  rfl
theorem lk_past {k g : Str} {v : V} {r : List (Str × V)} (h : (k == g) = false) : List.lookup k ((g, v) :: r) = List.lookup k r := by
  rw [List.lookup_cons, h]
theorem lk_here {k : Str} {v : V} {r : List (Str × V)} : List.lookup k ((k, v) :: r) = some v := by
  rw [List.lookup_cons, beq_self_eq_true]
theorem poolF_known (n : Nat) (d : Addr) : (poolF n d).lookup ("known" : Str) = some (.ref d) := (lk_past (by decide +kernel)).trans lk_here
theorem poolF_no {m : Str} (n : Nat) (d : Addr) (h1 : (m == ("many" : Str)) = false) (h2 : (m == ("known" : Str)) = false) : (poolF n d).lookup m = none := (lk_past h1).trans ((lk_past h2).trans rfl)
theorem put_here {f : Str} {v x : V} {r : List (Str × V)} : putF f v ((f, x) :: r) = (f, v) :: r := if_pos rfl
theorem put_past {f g : Str} {v x : V} {r : List (Str × V)} (h : ¬ g = f) : putF f v ((g, x) :: r) = (g, x) :: putF f v r := if_neg h
theorem poolF_putMany (n m : Nat) (d : Addr) : putF "many" (.int (m : Int)) (poolF n d) = poolF m d := put_here
theorem poolF_putKnown (n : Nat) (d d' : Addr) : putF "known" (.ref d') (poolF n d) = poolF n d' := (put_past (by decide +kernel)).trans (congrArg _ put_here)
/-! ### what the dict holds -/
theorem kvE_val {es : List Ent} (nd : (es.map fun e => e.1.num).Nodup) {e : Ent} (he : e ∈ es) : valV (kvE es) (Sum.inl (e.1.num : Int)) = some (.ref e.2) := by
  induction es with
  | nil => cases he
  | cons a es ih =>
    rw [List.map_cons, List.nodup_cons] at nd
    unfold valV kvE
    rw [List.map_cons, List.find?_cons]
    by_cases c : a.1.num = e.1.num
    · rcases List.mem_cons.mp he with q | q
      · subst q
        rw [show decide ((Sum.inl (e.1.num : Int) : Key) = Sum.inl (e.1.num : Int)) = true from decide_eq_true rfl]
        rfl
      · exact absurd (c ▸ List.mem_map_of_mem (f := fun e : Ent => e.1.num) q) nd.1
    · have hn : ¬ (Sum.inl (a.1.num : Int) : Key) = Sum.inl (e.1.num : Int) := fun q => c (by have := Sum.inl.inj q; omega)
      rw [decide_eq_false hn]
      rcases List.mem_cons.mp he with q | q
      · subst q
        exact absurd rfl c
      · exact ih nd.2 q
theorem kvE_none {es : List Ent} {k : Int} (h : ∀ e ∈ es, (e.1.num : Int) ≠ k) : valV (kvE es) (Sum.inl k) = none := by
  unfold valV kvE
  have : (List.map (fun e : Ent => ((Sum.inl (e.1.num : Int) : Key), V.ref e.2)) es).find? (fun kv => decide (kv.1 = Sum.inl k)) = none := by
    rw [List.find?_eq_none]
    intro x hx
    obtain ⟨e, he, rfl⟩ := List.mem_map.mp hx
    have := h e he
    simp only [decide_eq_true_eq]
    exact fun q => this (Sum.inl.inj q)
  rw [this]
  rfl
theorem num_nodup {s : Vbptao.State} (wf : My.WF s) : (s.products.map fun q => q.num).Nodup := by
  rw [List.Nodup, List.pairwise_map]
  exact wf.sorted.imp fun h e => by omega
theorem es_nodup {s : Vbptao.State} {es : List Ent} (wf : My.WF s) (hp : (es.map (·.1)).Perm s.products) : (es.map fun e => e.1.num).Nodup := by
  have h := (hp.map fun q => q.num).nodup_iff.mpr (num_nodup wf)
  rwa [List.map_map] at h
theorem prodAt_some {s : Vbptao.State} {k : Int} {q : Pr} (h : My.prodAt s k = some q) : q ∈ s.products ∧ (q.num : Int) = k := by
  unfold My.prodAt at h
  by_cases c : k < 0
  · rw [if_pos c] at h
    cases h
  · rw [if_neg c] at h
    have := My.productAt_some h
    exact ⟨this.1, by omega⟩
theorem prodAt_none {s : Vbptao.State} {k : Int} (h : My.prodAt s k = none) : ∀ q ∈ s.products, (q.num : Int) ≠ k := by
  intro q hq e
  unfold My.prodAt at h
  rw [if_neg (by omega)] at h
  have := My.productAt_none.mp (by rw [h]; rfl) q hq
  omega
/-- looked up by any number -/
theorem es_look {s : Vbptao.State} {es : List Ent} (wf : My.WF s) (hp : (es.map (·.1)).Perm s.products) (k : Int) :
    (∃ e ∈ es, My.prodAt s k = some e.1 ∧ valV (kvE es) (Sum.inl k) = some (.ref e.2)) ∨ (My.prodAt s k = none ∧ valV (kvE es) (Sum.inl k) = none) := by
  cases h : My.prodAt s k with
  | some q =>
    obtain ⟨h1, h2⟩ := prodAt_some h
    obtain ⟨e, he, rfl⟩ := List.mem_map.mp (hp.mem_iff.mpr h1)
    refine .inl ⟨e, he, rfl, ?_⟩
    rw [← h2]
    exact kvE_val (es_nodup wf hp) he
  | none => exact .inr ⟨rfl, kvE_none fun e he => prodAt_none h _ (hp.mem_iff.mp (List.mem_map_of_mem he))⟩
theorem es_len {s : Vbptao.State} {es : List Ent} (hp : (es.map (·.1)).Perm s.products) : es.length = s.products.length := by
  have := hp.length_eq
  rwa [List.length_map] at this
/-! ### methods -/
structure Met (P : Program) (w : World) (K : PySem.W.Frag) (mg : Str → Option Value) (base : Heap) (C : Addr) (k : Nat) (m : Str) (sp : Sp) : Prop where
  ex : ∃ (f : Addr) (fd : FuncData) (ps : List Str), Meth K C m f ∧ FnOk P w K mg base CX0 k f fd ps sp ∧ Binds K fd ps []
structure DefM (K : PySem.W.Frag) (C : Addr) (x qual : Str) (st : Stmt) : Prop where
  ex : ∃ (f : Addr) (fd : FuncData), L2.Fun K x qual st f fd ∧ Meth K C x f
section
variable {P : Program} {w : World} {K : PySem.W.Frag} {mg : Str → Option Value} {base : Heap}
theorem DefM.met {C : Addr} {x qual : Str} {st : Stmt} {N ps : List Str} {k : Nat} {sp : Sp} (F : DefM K C x qual st) (S : FnScope N ps (defScope st)) (len : ∀ vs H Q E, sp vs H Q E → vs.length = ps.length)
    (hb : ∀ (kV doc pm : Value) (an : Option Addr) (cdv ct : Value) (us : List Value), us.length = ps.length → bindArgs (PySem.W.fnOf x qual (defArgs st) (defBody st) (defScope st) .none kV doc pm an cdv ct) ⟨us, []⟩ = pure (ps.zip us))
    (hbody : ∀ (cdv : Value) (f : Addr) (A : Around) (outer : List Env) (s : Shared) (H : Hp) (vs : List V) (Q : VK) (E : XK), Room k (A.deeper (envOfC qual (defScope st) s.heap.objs.size f cdv)) → sp vs H Q E →
      ∃ t, PSs (cxOf CX0 P w K mg base N qual (defScope st) f cdv A outer s H E).nox (defBody st) t ∧ t { nx := fun _ H' => Q .non H', rt := Q } (start N vs) H) : Met P w K mg base C (k + 1) x sp := by
  obtain ⟨f, fd, F, hm⟩ := F.ex
  exact ⟨f, fd, ps, hm, F.ok S len fun cdv A outer s H vs Q E hr h => hbody cdv f A outer s H vs Q E hr h, F.binds hb⟩
end
section
variable {X : Cx} {k j : Nat} {C : Addr} {x m : Str} {sp : Sp} {p pos apos : Pos} {e o : Expr} {es : List Expr} {ta : TE} {t : TA}
theorem pe_m {pl : Sem Bool} (c : Met X.prog X.w X.K X.mg X.base C k m sp) (cl : Cls X.K C) (hr : Room j X.A) (hk : k ≤ j) (he : PE X o ta) (ha : PA X (e :: es) t)
    (hst : starEach (e :: es) X.env = (false, eval e X.env) :: starEach es X.env := by rfl) (hpl : (backTo pos (starEach es X.env)).any (·.1) = false := by rfl)
    (ht : eval (.Call (.Attribute o m apos) (e :: es) [] pos) X.env = (do
      let ov ← eval o X.env
      standAt apos.atName
      let (f, first) ← holding [ov] (getMethod ov m pl)
      callWith pos f first (backTo pos (starEach (e :: es) X.env)) (backToKw pos (keywordEach [] X.env))) := by rfl) :
    PE X (.Call (.Attribute o m apos) (e :: es) [] pos) (tMeth C m sp [] E0 ta t) := by
  obtain ⟨f, fd, ps, hm, F, b⟩ := c.ex
  exact pe_meth (pl := pl) he cl hm F (hr.mono hk) b .nil pass0 ha hst hpl ht
theorem pe_m0 {pl : Sem Bool} (c : Met X.prog X.w X.K X.mg X.base C k m sp) (cl : Cls X.K C) (hr : Room j X.A) (hk : k ≤ j) (he : PE X o ta)
    (ht : eval (.Call (.Attribute o m apos) [] [] pos) X.env = (do
      let ov ← eval o X.env
      standAt apos.atName
      let (f, first) ← holding [ov] (getMethod ov m pl)
      callWith pos f first (backTo pos (starEach [] X.env)) (backToKw pos (keywordEach [] X.env))) := by rfl) :
    PE X (.Call (.Attribute o m apos) [] [] pos) (tMeth C m sp [] E0 ta tNil) := by
  obtain ⟨f, fd, ps, hm, F, b⟩ := c.ex
  exact pe_meth0 (pl := pl) he cl hm F (hr.mono hk) b .nil pass0 ht
end
/-- a whole number of the module -/
def Cst (mg : Str → Option Value) (x : Str) (i : Int) : Prop := ∃ t, mg x = some (.int i t)
theorem pe_k {X : Cx} {x : Str} {i : Int} {pos : Pos} (c : Cst X.mg x i) (hg : Gl X x := by rfl) (hd : (x == ("__debug__" : Str)) = false := by decide) : PE X (.Name x pos) (tC (.int i)) := by
  obtain ⟨t, h⟩ := c
  exact pe_glob hg h ⟨t, rfl⟩ hd
/-- what the text has of the class and the constants -/
structure Txt (K : PySem.W.Frag) (mg : Str → Option Value) (C : Addr) : Prop where
  cl : Cls K C
  nM : NoAttr K C "many"
  nK : NoAttr K C "known"
  gC : mg "Pool" = some (.ref C)
  kMO : Cst mg "MOST_OWNERS" 8
  kMP : Cst mg "MOST_PRODUCTS" 16
  kGN : Cst mg "GREATEST_NUMBER" 99
  kGW : Cst mg "GREATEST_WORTH" 1000000000
  kGS : Cst mg "GREATEST_SHARE" 1000000000000
  k3 : Cst mg "OUT_OF_RANGE" (-3)
  k4 : Cst mg "NO_FORM" (-4)
  k5 : Cst mg "NO_PRODUCT" (-5)
  k6 : Cst mg "THERE" (-6)
  k7 : Cst mg "NO_PAIR" (-7)
  k8 : Cst mg "NOT_STABLE" (-8)
  k9 : Cst mg "FULL" (-9)
section
variable {K : PySem.W.Frag} {mg : Str → Option Value} {C : Addr} {σ : L2.St} {H : Hp} {ta tb tc te : TE} {t tr : TA}
theorem ev_fld {a dx : Addr} {fs : List (Str × V)} {f : Str} {v : V} (h : Ev ta σ H (.ref a)) (ho : H a = some (.ins C dx fs)) (c : Cls K C) (n : NoAttr K C f) (l : fs.lookup f = some v) : Ev (tFld K ta f) σ H v := fun H1 e Q q =>
  h H1 e _ fun H2 e2 => ⟨a, C, dx, fs, v, rfl, e2 _ _ (e _ _ ho), c, n, l, q H2 e2⟩
theorem ev_many (T : Txt K mg C) {p d : Addr} {s : Vbptao.State} (h : Ev ta σ H (.ref p)) (hp : PoolAt C H p d s) : Ev (tFld K ta "many") σ H (.int (s.n : Int)) := by
  obtain ⟨dx, es, h1, _⟩ := hp.ex
  exact ev_fld h h1 T.cl T.nM (poolF_many _ _)
theorem ev_known (T : Txt K mg C) {p d : Addr} {s : Vbptao.State} (h : Ev ta σ H (.ref p)) (hp : PoolAt C H p d s) : Ev (tFld K ta "known") σ H (.ref d) := by
  obtain ⟨dx, es, h1, _⟩ := hp.ex
  exact ev_fld h h1 T.cl T.nK (poolF_known _ _)
/-- a method's value -/
theorem ev_mv {args : List V → Hp → V → Prop} {m : Str} {p dx : Addr} {fs : List (Str × V)} {vs : List V} {z : V} (ho : Ev ta σ H (.ref p)) (hp : H p = some (.ins C dx fs)) (hl : fs.lookup m = none) (h : EvA t σ H vs) (hs : ∀ H1, Ex H H1 → args (.ref p :: vs) H1 z) :
    Ev (tMeth C m (PV args) [] E0 ta t) σ H z := fun H1 e Q q => ho H1 e _ fun H2 e2 => ⟨p, dx, fs, rfl, e2 _ _ (e _ _ hp), hl, h H2 (e.trans e2) _ fun H3 e3 => by
  rw [List.append_nil]
  exact ⟨z, hs H3 ((e.trans e2).trans e3), fun H4 e4 => q H4 ((e2.trans e3).trans e4)⟩⟩
/-- a < b < c as a value -/
theorem ev_chain {r r' : R2} {x y : V} {z : V} {b b' : Bool} (h1 : Ev ta σ H x) (h2 : Ev tb σ H y) (hr : RV r x y H (.bl b)) (h3 : b = true → Ev tc σ H z) (hr' : b = true → RV r' y z H (.bl b')) : Ev (tChain r r' ta tb tc) σ H (.bl (b && b')) := fun H1 e Q q =>
  h1 H1 e _ fun H2 e2 => h2 H2 (e.trans e2) _ fun H3 e3 => hr H3 ((e.trans e2).trans e3) _ fun H4 e4 => ⟨b, rfl, by
    cases b with
    | true =>
      show tc σ H4 _
      exact h3 rfl H4 (((e.trans e2).trans e3).trans e4) _ fun H5 e5 => hr' rfl H5 ((((e.trans e2).trans e3).trans e4).trans e5) Q fun H6 e6 => q H6 ((((e2.trans e3).trans e4).trans e5).trans e6)
    | false =>
      show Q (.bl false) H4
      exact q H4 ((e2.trans e3).trans e4)⟩
/-- all of a new list of truths -/
theorem ev_allN {bs : List Bool} (h : EvL te σ H (bs.map V.bl)) : Ev (tCB (rAll K) (tCons te tNil)) σ H (.bl (bs.all id)) := fun H1 e Q q =>
  h H1 e _ fun p H2 _ e2 h2 => ⟨p, bs, rfl, SqL.of h2, q H2 e2⟩
end
section
variable {P : Program} {w : World} {K : PySem.W.Frag} {mg : Str → Option Value} {base : Heap} {C : Addr}
/-! ### Pool.is_set(self, number) -/
abbrev sIsSet : Stmt := inClass (top 45) 2
def aIsSet (C : Addr) : List V → Hp → V → Prop := fun vs H v => ∃ (p d : Addr) (s : Vbptao.State) (m : Int), vs = [.ref p, .int m] ∧ PoolAt C H p d s ∧ s.n ≤ 8 ∧ v = .bl (decide (My.inSet s.n m))
theorem scIsSet : FnScope ["self", "number"] ["self", "number"] (defScope sIsSet) := ⟨rfl, rfl, rfl, by decide +kernel, rfl, by decide +kernel, by decide +kernel⟩
theorem ok_isSet (T : Txt K mg C) (F : DefM K C "is_set" "Pool.is_set" sIsSet) (Ce : Cal P w K mg base 1 "everybody" (PV aEvery)) : Met P w K mg base C 2 "is_set" (PV (aIsSet C)) := by
  refine F.met scIsSet (fun vs H Q E h => ?_) (fun _ _ _ _ _ _ us hl => match us, hl with | [_, _], _ => rfl) (fun cdv f A outer s H vs Q E hr h => ⟨_,
    pss_one (ps_ret (pe_chain op_le op_le pe_int (pv 1) (pe_c Ce hr (by decide) (pa_cons (pe_fld (pv 0) rfl) pa_nil)))), ?_⟩)
  · obtain ⟨_, ⟨p, d, s, m, rfl, _⟩, _⟩ := h
    rfl
  · obtain ⟨_, ⟨p, d, s, m, rfl, hp, h8, rfl⟩, k⟩ := h
    refine s_ret (ev_is (ev_chain (b := decide (0 ≤ m)) (b' := decide (m ≤ (Vbptao.full s.n : Int))) ev_c (ev_var rfl) rv_I0 (fun _ => ev_cv (ea_cons (ev_many T (ev_var rfl) hp) ea_nil) fun H1 _ => ⟨s.n, rfl, h8, rfl⟩) (fun _ => rv_I0)) ?_) k
    congr 1
    rw [Bool.eq_iff_iff, Bool.and_eq_true, decide_eq_true_eq, decide_eq_true_eq, decide_eq_true_eq]
    exact Iff.rfl
/-! ### Pool.is_owner(self, number) -/
abbrev sIsOwner : Stmt := inClass (top 45) 3
def aIsOwner (C : Addr) : List V → Hp → V → Prop := fun vs H v => ∃ (p d : Addr) (s : Vbptao.State) (m : Int), vs = [.ref p, .int m] ∧ PoolAt C H p d s ∧ v = .bl (decide (My.inOwn s.n m))
theorem scIsOwner : FnScope ["self", "number"] ["self", "number"] (defScope sIsOwner) := ⟨rfl, rfl, rfl, by decide +kernel, rfl, by decide +kernel, by decide +kernel⟩
theorem ok_isOwner (T : Txt K mg C) (F : DefM K C "is_owner" "Pool.is_owner" sIsOwner) : Met P w K mg base C 1 "is_owner" (PV (aIsOwner C)) := by
  refine F.met scIsOwner (fun vs H Q E h => ?_) (fun _ _ _ _ _ _ us hl => match us, hl with | [_, _], _ => rfl) (fun cdv f A outer s H vs Q E hr h => ⟨_,
    pss_one (ps_ret (pe_chain op_le op_lt pe_int (pv 1) (pe_fld (pv 0) rfl))), ?_⟩)
  · obtain ⟨_, ⟨p, d, s, m, rfl, _⟩, _⟩ := h
    rfl
  · obtain ⟨_, ⟨p, d, s, m, rfl, hp, rfl⟩, k⟩ := h
    refine s_ret (ev_is (ev_chain (b := decide (0 ≤ m)) (b' := decide (m < (s.n : Int))) ev_c (ev_var rfl) rv_I0 (fun _ => ev_many T (ev_var rfl) hp) (fun _ => rv_I0)) ?_) k
    congr 1
    rw [Bool.eq_iff_iff, Bool.and_eq_true, decide_eq_true_eq, decide_eq_true_eq, decide_eq_true_eq]
    exact Iff.rfl
/-! ### Pool.are_shares(self, row) -/
abbrev sAreShares : Stmt := inClass (top 45) 4
def aAreShares (K : PySem.W.Frag) (C : Addr) : List V → Hp → V → Prop := fun vs H v => ∃ (p d a : Addr) (s : Vbptao.State) (x : List Int), vs = [.ref p, .ref a] ∧ PoolAt C H p d s ∧ SqL K H a (x.map V.int) ∧ x.length ≤ 20 ∧ v = .bl (decide (My.areShares s.n x))
theorem scAreShares : FnScope ["self", "row", "share"] ["self", "row"] (defScope sAreShares) := ⟨rfl, rfl, rfl, by decide +kernel, rfl, by decide +kernel, by decide +kernel⟩
theorem ok_areShares (B : Bt mg) (T : Txt K mg C) (F : DefM K C "are_shares" "Pool.are_shares" sAreShares) : Met P w K mg base C 1 "are_shares" (PV (aAreShares K C)) := by
  refine F.met scAreShares (fun vs H Q E h => ?_) (fun _ _ _ _ _ _ us hl => match us, hl with | [_, _], _ => rfl) (fun cdv f A outer s H vs Q E hr h => ⟨_,
    pss_one (ps_ret (pe_and (pe_cmpR op_eq (pe_callB call_len_seq (by rfl) B.len PySem.boot_len (pa_cons (pv 1) pa_nil)) (pe_fld (pv 0) rfl) (nomark _))
      (pe_one (pe_callB (cr_all rfl) (by rfl) B.all (by decide +kernel) (pa_cons (pe_lc (own := [("share", 2)]) (g := gName 2) (by rfl) scAreShares.nd (pi_list (pv 1)) (blkOk_by (own := [("share", 2)]) (N := ["self", "row", "share"]) (sc := defScope sAreShares) (by decide +kernel))
        (fun _ _ _ _ _ => pg_name (i := 2) scAreShares.nd rfl (Or.inl rfl)) (fun _ _ _ _ _ => pts_nil) (fun _ _ _ _ _ => pe_chain op_le op_le (pe_un un_neg (pe_k T.kGS)) (pv 2) (pe_k T.kGS))) pa_nil))))), ?_⟩)
  · obtain ⟨_, ⟨p, d, a, s, x, rfl, _⟩, _⟩ := h
    rfl
  · obtain ⟨_, ⟨p, d, a, s, x, rfl, hp, hx, h20, rfl⟩, k⟩ := h
    refine s_ret (ev_is (ev_andV (a := decide (x.length = s.n)) (b := (x.map fun y => decide (-1000000000000 ≤ y ∧ y ≤ 1000000000000)).all id) (ev_is (ev_eqN (a := x.length) (ev_is (ev_len (ev_var rfl) hx) (by rw [List.length_map])) (ev_many T (ev_var rfl) hp)) rfl) (fun _ => ev_allN ?_)) ?_) k
    · have e : (x.map fun y => decide (-1000000000000 ≤ y ∧ y ≤ 1000000000000)).map V.bl = (x.filter fun _ => true).map fun y => V.bl (decide (-1000000000000 ≤ y ∧ y ≤ 1000000000000)) := by
        rw [List.filter_eq_self.mpr (fun _ _ => rfl), List.map_map]
        rfl
      rw [e]
      refine el_items (l := x) (u := V.int) (fun _ => true) (fun y => V.bl (decide (-1000000000000 ≤ y ∧ y ≤ 1000000000000))) (fun y => [some (.ref p), some (.ref a), some (.int y)]) (ev_var rfl) hx (by omega) (fun _ => rfl) (fun _ _ => rfl) (fun _ _ _ _ => et_yes) (fun y _ H' _ _ => ?_)
      refine ev_is (ev_chain (b := decide (-1000000000000 ≤ y)) (b' := decide (y ≤ 1000000000000)) (ev_un ev_c (ru_neg (i := 1000000000000))) (ev_var rfl) rv_I0 (fun _ => ev_c) (fun _ => rv_I0)) ?_
      congr 1
      rw [Bool.eq_iff_iff, Bool.and_eq_true, decide_eq_true_eq, decide_eq_true_eq, decide_eq_true_eq]
    · congr 1
      rw [Bool.eq_iff_iff, Bool.and_eq_true, decide_eq_true_eq, decide_eq_true_eq, List.all_eq_true]
      unfold My.areShares
      constructor
      · rintro ⟨h1, h2⟩
        refine ⟨h1, fun y hy => ?_⟩
        have := h2 _ (List.mem_map_of_mem hy)
        exact of_decide_eq_true this
      · rintro ⟨h1, h2⟩
        refine ⟨h1, fun b hb => ?_⟩
        obtain ⟨y, hy, rfl⟩ := List.mem_map.mp hb
        exact decide_eq_true (h2 y hy)
end
end Ro

set_option Elab.async false
set_option linter.all false
set_option maxRecDepth 100000
set_option maxHeartbeats 2000000
namespace Ro
open PySem PySem.Spec PyProof.Rows L2 Evl
/-! ### something that makes a new object of which R tells -/
def EvR (te : TE) (σ : L2.St) (H : Hp) (R : Addr → Hp → Prop) : Prop := ∀ H1, Ex H H1 → ∀ Q : VK, (∀ p H2, H1 p = none → Ex H1 H2 → R p H2 → Q (.ref p) H2) → te σ H1 Q
section
variable {K : PySem.W.Frag} {σ : L2.St} {H : Hp} {te td ty ta tb : TE} {tr : TA} {R : Addr → Hp → Prop} {vs xs ys : List V} {z : V}
theorem ev_cR {args : List V → Hp → V → Prop} (h : EvR te σ H R) (ht : EvA tr σ H vs) (hR : ∀ a H H', Ex H H' → R a H → R a H') (hs : ∀ a H1, Ex H H1 → R a H1 → args (.ref a :: vs) H1 z) : Ev (tCall (PV args) [] E0 (tCons te tr)) σ H z := fun H1 e Q q =>
  h H1 e _ fun a H2 _ e2 hr => ht H2 (e.trans e2) _ fun H3 e3 => by
    show PV args (_ ++ []) H3 Q E0
    rw [List.append_nil]
    exact ⟨z, hs a H3 ((e.trans e2).trans e3) (hR _ _ _ e3 hr), fun H4 e4 => q H4 ((e2.trans e3).trans e4)⟩
theorem el_cR {args : List V → Hp → List V → Prop} (h : EvR te σ H R) (ht : EvA tr σ H vs) (hR : ∀ a H H', Ex H H' → R a H → R a H') (hs : ∀ a H1, Ex H H1 → R a H1 → args (.ref a :: vs) H1 xs) : EvL (tCall (PL args) [] E0 (tCons te tr)) σ H xs := fun H1 e Q q =>
  h H1 e _ fun a H2 _ e2 hr => ht H2 (e.trans e2) _ fun H3 e3 => by
    show PL args (_ ++ []) H3 Q E0
    rw [List.append_nil]
    exact ⟨xs, hs a H3 ((e.trans e2).trans e3) (hR _ _ _ e3 hr), fun p H4 hp e4 h4 => q p H4 (fresh_back (e2.trans e3) hp) ((e2.trans e3).trans e4) h4⟩
theorem ev_dget {d : Addr} {k : Int} {kvs : List (Key × V)} {v : V} (h1 : Ev td σ H (.ref d)) (h2 : Ev ty σ H (.int k)) (hd : H d = some (.dK kvs)) (hv : valV kvs (Sum.inl k) = some v) : Ev (tDGet td ty) σ H v := fun H1 e Q q =>
  h1 H1 e _ fun H2 e2 => h2 H2 (e.trans e2) _ fun H3 e3 => ⟨d, v, rfl, by rw [← hv]; exact DGet.k (k := Sum.inl k) (((e.trans e2).trans e3) _ _ hd), q H3 (e2.trans e3)⟩
theorem ev_din {d : Addr} {k : Int} {kvs : List (Key × V)} (h2 : Ev ty σ H (.int k)) (h1 : Ev td σ H (.ref d)) (hd : H d = some (.dK kvs)) : Ev (tDIn ty td) σ H (.bl (valV kvs (Sum.inl k)).isSome) := fun H1 e Q q =>
  h2 H1 e _ fun H2 e2 => h1 H2 (e.trans e2) _ fun H3 e3 => ⟨d, _, rfl, DGet.k (k := Sum.inl k) (((e.trans e2).trans e3) _ _ hd), q H3 (e2.trans e3)⟩
theorem ev_dnotin {d : Addr} {k : Int} {kvs : List (Key × V)} (h2 : Ev ty σ H (.int k)) (h1 : Ev td σ H (.ref d)) (hd : H d = some (.dK kvs)) : Ev (tDNotIn ty td) σ H (.bl (!(valV kvs (Sum.inl k)).isSome)) := fun H1 e Q q =>
  h2 H1 e _ fun H2 e2 => h1 H2 (e.trans e2) _ fun H3 e3 => ⟨d, _, rfl, DGet.k (k := Sum.inl k) (((e.trans e2).trans e3) _ _ hd), q H3 (e2.trans e3)⟩
theorem ev_ixT {t : Addr} {k : Int} {xs : List V} {v : V} (h1 : Ev ta σ H (.ref t)) (h2 : Ev tb σ H (.int k)) (ht : SqT K H t xs) (hv : atI xs k = some v) : Ev (tOp (rIxT K) ta tb) σ H v := ev_op h1 h2 (rv_ixT ht hv)
/-- xs + ys, both new -/
theorem el_cat (h1 : EvL ta σ H xs) (h2 : EvL tb σ H ys) (hz : xs.length + ys.length ≤ 100000) : EvL (tOp rCat ta tb) σ H (xs ++ ys) := fun H1 e Q q =>
  h1 H1 e _ fun p H2 hp e2 hx => h2 H2 (e.trans e2) _ fun p2 H3 hp2 e3 hy => ⟨p, p2, xs, ys, rfl, rfl, e3 _ _ hx, hy, sz_of hz, fun l hl => q l _ (fresh_back (e2.trans e3) hl) ((e2.trans e3).trans (Ex.new hl)) upd_same⟩
end
theorem sorted_num {s : Vbptao.State} (wf : My.WF s) {es : List Ent} (hp : (es.map (·.1)).Perm s.products) {ys : List Int} (h1 : ys.Perm (es.map fun e => (e.1.num : Int))) (h2 : ys.Pairwise (· ≤ ·)) : ys = s.products.map fun q => (q.num : Int) := by
  refine My.sorted_same (h1.trans ?_) h2 ?_
  · have := hp.map fun q => (q.num : Int)
    rwa [List.map_map] at this
  · rw [List.pairwise_map]
    exact wf.sorted.imp fun h => by omega
theorem kvE_keys (es : List Ent) : (kvE es).map (·.1) = (es.map fun e => (e.1.num : Int)).map Sum.inl := by
  unfold kvE
  rw [List.map_map, List.map_map]
  rfl
section
variable {P : Program} {w : World} {K : PySem.W.Frag} {mg : Str → Option Value} {base : Heap} {C : Addr}
/-! ### Pool.products(self) -/
abbrev sProducts : Stmt := inClass (top 45) 1
def spProducts (K : PySem.W.Frag) (C : Addr) : Sp := fun vs H Q _ => ∃ (p d : Addr) (s : Vbptao.State), vs = [.ref p] ∧ PoolAt C H p d s ∧ My.WF s ∧ ∀ a H', H a = none → Ex H H' → Prods K H' a s.products → Q (.ref a) H'
theorem scProducts : FnScope ["self", "number"] ["self"] (defScope sProducts) := ⟨rfl, rfl, rfl, by decide +kernel, rfl, by decide +kernel, by decide +kernel⟩
theorem ok_products (B : Bt mg) (T : Txt K mg C) (F : DefM K C "products" "Pool.products" sProducts) : Met P w K mg base C 1 "products" (spProducts K C) := by
  refine F.met scProducts (fun vs H Q E h => ?_) (fun _ _ _ _ _ _ us hl => match us, hl with | [_], _ => rfl) (fun cdv f A outer s H vs Q E hr h => ⟨_,
    pss_one (ps_ret (pe_lc (own := [("number", 1)]) (g := gName 1) (te := tTup (tCons (tVar 1) (tCons (tOp (rIxT K) (tDGet (tFld K (tVar 0) "known") (tVar 1)) (tC (.int 0))) (tCons (tOp (rIxT K) (tDGet (tFld K (tVar 0) "known") (tVar 1)) (tC (.int 1))) tNil)))) (by rfl) scProducts.nd (pi_list (pe_callB (call_sortedDI rfl) (by rfl) B.sorted (by decide +kernel) (pa_cons (pe_fld (pv 0) rfl) pa_nil))) (blkOk_by (own := [("number", 1)]) (N := ["self", "number"]) (sc := defScope sProducts) (by decide +kernel))
      (fun _ _ _ _ _ => pg_name (i := 1) scProducts.nd rfl (Or.inl rfl)) (fun _ _ _ _ _ => pts_nil)
      (fun _ _ _ _ _ => pe_tup (pa_cons (pv 1) (pa_cons (pe_ix ix_tup (pe_dget (hu_of hr) (pe_fld (pv 0) rfl) (pv 1) (fun _ _ => rfl)) pe_int (fun _ _ => rfl)) (pa_cons (pe_ix ix_tup (pe_dget (hu_of hr) (pe_fld (pv 0) rfl) (pv 1) (fun _ _ => rfl)) pe_int (fun _ _ => rfl)) pa_nil)))))), ?_⟩)
  · obtain ⟨p, d, s, rfl, _⟩ := h
    rfl
  · obtain ⟨p, d, s, rfl, hp, wf, k⟩ := h
    obtain ⟨dx, es, h1, h2, h3, h4⟩ := id hp.ex
    have hlen := es_len h4
    have hfew := wf.few
    refine ev_known T (ev_var rfl) hp H (Ex.refl _) _ fun H1 e1 => ?_
    refine ⟨d, kvE es, es.map fun e => (e.1.num : Int), rfl, .inl (e1 _ _ h2), kvE_keys es, by rw [List.length_map]; omega, fun ys a hy1 hy2 ha => ?_⟩
    have hys := sorted_num wf h4 hy1 hy2
    subst hys
    have e2 := e1.trans (Ex.new (o := .lst ((s.products.map fun q => (q.num : Int)).map V.int)) ha)
    have hL : upd H1 a (.lst ((s.products.map fun q => (q.num : Int)).map V.int)) a = some (.lst (s.products.map fun q => V.int (q.num : Int))) := by rw [upd_same, List.map_map]; rfl
    generalize upd H1 a (.lst ((s.products.map fun q => (q.num : Int)).map V.int)) = H2 at e2 hL
    refine ⟨a, rfl, ⟨_, SqL.of hL⟩, fun D hD => ?_⟩
    refine lc_rel (walk_list (xs := s.products.map fun q => V.int (q.num : Int))) hD s.products (by rw [List.length_map]) (by omega) (fun q t H => H t = some (.tup [.int (q.num : Int), .int (q.need : Int), .int (q.worth : Int)])) (fun q t H H' e h => e _ _ h)
      (fun q t H acc acc' hD' h => by rw [upd_ne (ne_of h hD' (by intro z; cases z))]; exact h) (fun q => [some (.ref p), some (.int (q.num : Int))]) (fun H' e' => SqL.of (e' _ _ hL)) (fun m x H' H'' y => by rw [y.1]; exact Ex.refl _) (fun m q x H' H'' hq e' y Q' hQ => ?_) (fun _ _ => rfl) (fun q hq H' e' Q' hQ => ?_) (fun H' ts e' hD' hr' => ?_)
    · obtain ⟨y1, y2⟩ := y
      subst y1
      rw [List.getElem?_map, hq] at y2
      have ex : V.int (q.num : Int) = x := Option.some.inj y2
      subst ex
      exact hQ
    · have e4 := e2.trans e'
      obtain ⟨e, he, rfl⟩ := List.mem_map.mp (h4.mem_iff.mpr hq)
      have hv := kvE_val (es_nodup wf h4) he
      have ht := SqT.of (K := K) (e4 _ _ (h3 e he))
      exact eu_tup (ea_cons (ev_var rfl) (ea_cons (ev_ixT (ev_dget (ev_known T (ev_var rfl) (hp.mono e4)) (ev_var rfl) (e4 _ _ h2) hv) ev_c ht (at_of (j := 0) rfl rfl)) (ea_cons (ev_ixT (ev_dget (ev_known T (ev_var rfl) (hp.mono e4)) (ev_var rfl) (e4 _ _ h2) hv) ev_c ht (at_of (j := 1) rfl rfl)) ea_nil))) (by show 3 ≤ 100000; decide) H' (Ex.refl _) Q' fun t H'' _ e'' h'' => hQ t H'' e'' h''
    · exact k D H' (fresh_back e2 hD) (e2.trans e') ⟨ts, SqL.of hD', hr'.1, fun i t q ht hq => SqT.of (hr'.2 i t q ht hq)⟩
theorem er_products {T : Txt K mg C} {σ : L2.St} {H : Hp} {ta : TE} {p d : Addr} {s : Vbptao.State} (h : Ev ta σ H (.ref p)) (hp : PoolAt C H p d s) (wf : My.WF s) : EvR (tMeth C "products" (spProducts K C) [] E0 ta tNil) σ H (fun a H' => Prods K H' a s.products) := fun H1 e Q q =>
  h H1 e _ fun H2 e2 => by
    obtain ⟨dx, es, h1, _⟩ := hp.ex
    refine ⟨p, dx, _, rfl, (e.trans e2) _ _ h1, poolF_no _ _ (by decide +kernel) (by decide +kernel), ?_⟩
    exact ⟨p, d, s, rfl, hp.mono (e.trans e2), wf, fun a H3 ha e3 hr => q a H3 (fresh_back e2 ha) (e2.trans e3) hr⟩
theorem pr_mono {ps : List Pr} : ∀ (a : Addr) (H H' : Hp), Ex H H' → Prods K H a ps → Prods K H' a ps := fun _ _ _ e h => h.mono e
theorem ev_isSet {σ : L2.St} {H : Hp} {ta tb : TE} {p d : Addr} {s : Vbptao.State} {m : Int} (h : Ev ta σ H (.ref p)) (h2 : Ev tb σ H (.int m)) (hp : PoolAt C H p d s) (wf : My.WF s) : Ev (tMeth C "is_set" (PV (aIsSet C)) [] E0 ta (tCons tb tNil)) σ H (.bl (decide (My.inSet s.n m))) := by
  obtain ⟨dx, es, h1, _⟩ := id hp.ex
  exact ev_mv h h1 (poolF_no _ _ (by decide +kernel) (by decide +kernel)) (ea_cons h2 ea_nil) fun H1 e => ⟨p, d, s, m, rfl, hp.mono e, wf.n8, rfl⟩
theorem ev_isOwner {σ : L2.St} {H : Hp} {ta tb : TE} {p d : Addr} {s : Vbptao.State} {m : Int} (h : Ev ta σ H (.ref p)) (h2 : Ev tb σ H (.int m)) (hp : PoolAt C H p d s) : Ev (tMeth C "is_owner" (PV (aIsOwner C)) [] E0 ta (tCons tb tNil)) σ H (.bl (decide (My.inOwn s.n m))) := by
  obtain ⟨dx, es, h1, _⟩ := id hp.ex
  exact ev_mv h h1 (poolF_no _ _ (by decide +kernel) (by decide +kernel)) (ea_cons h2 ea_nil) fun H1 e => ⟨p, d, s, m, rfl, hp.mono e, rfl⟩
theorem ev_areShares {σ : L2.St} {H : Hp} {ta tb : TE} {p d a : Addr} {s : Vbptao.State} {x : List Int} (h : Ev ta σ H (.ref p)) (h2 : Ev tb σ H (.ref a)) (hp : PoolAt C H p d s) (hx : SqL K H a (x.map V.int)) (h20 : x.length ≤ 20) : Ev (tMeth C "are_shares" (PV (aAreShares K C)) [] E0 ta (tCons tb tNil)) σ H (.bl (decide (My.areShares s.n x))) := by
  obtain ⟨dx, es, h1, _⟩ := id hp.ex
  exact ev_mv h h1 (poolF_no _ _ (by decide +kernel) (by decide +kernel)) (ea_cons h2 ea_nil) fun H1 e => ⟨p, d, a, s, x, rfl, hp.mono e, ex_l e hx, h20, rfl⟩
/-! ### what a call on the pool promises -/
def FrP (p d : Addr) (H H' : Hp) : Prop := ∀ b o, H b = some o → b ≠ p → b ≠ d → H' b = some o
def spM (C : Addr) (A : List V → Hp → Vbptao.State → Vbptao.State × List Int → Prop) : Sp := fun vs H Q _ => ∃ (p d : Addr) (s : Vbptao.State) (r : Vbptao.State × List Int) (rest : List V), vs = .ref p :: rest ∧ PoolAt C H p d s ∧ My.WF s ∧ A rest H s r ∧
  ∀ l d' H', H l = none → (d' = d ∨ H d' = none) → FrP p d H H' → PoolAt C H' p d' r.1 → H' l = some (.lst (r.2.map V.int)) → Q (.ref l) H'
/-- a call that changes nothing -/
theorem ro {H : Hp} {Q : VK} {p d : Addr} {s : Vbptao.State} {r : Vbptao.State × List Int} {xs : List Int} (hp : PoolAt C H p d s) (hr : r = (s, xs)) (k : ∀ l d' H', H l = none → (d' = d ∨ H d' = none) → FrP p d H H' → PoolAt C H' p d' r.1 → H' l = some (.lst (r.2.map V.int)) → Q (.ref l) H') :
    RetL (xs.map V.int) H Q := fun l H' hl e h => by
  subst hr
  exact k l d H' hl (.inl rfl) (fun b o hb _ _ => e _ _ hb) (hp.mono e) h
def A1 (c : Int) : List V → Hp → Vbptao.State → Vbptao.State × List Int → Prop := fun rest _ s r => ∃ x : Int, rest = [.int x] ∧ r = Vbptao.step s [[c, x]]
def A2 (c : Int) : List V → Hp → Vbptao.State → Vbptao.State × List Int → Prop := fun rest _ s r => ∃ x y : Int, rest = [.int x, .int y] ∧ r = Vbptao.step s [[c, x, y]]
def A3 (c : Int) : List V → Hp → Vbptao.State → Vbptao.State × List Int → Prop := fun rest _ s r => ∃ x y z : Int, rest = [.int x, .int y, .int z] ∧ r = Vbptao.step s [[c, x, y, z]]
def A0 (c : Int) : List V → Hp → Vbptao.State → Vbptao.State × List Int → Prop := fun rest _ s r => rest = [] ∧ r = Vbptao.step s [[c]]
def AL (K : PySem.W.Frag) (c : Int) : List V → Hp → Vbptao.State → Vbptao.State × List Int → Prop := fun rest H s r => ∃ (a : Addr) (x : List Int), rest = [.ref a] ∧ SqL K H a (x.map V.int) ∧ x.length ≤ 20 ∧ r = Vbptao.step s [[c], x]
def A1L (K : PySem.W.Frag) (c : Int) : List V → Hp → Vbptao.State → Vbptao.State × List Int → Prop := fun rest H s r => ∃ (a : Addr) (m : Int) (x : List Int), rest = [.int m, .ref a] ∧ SqL K H a (x.map V.int) ∧ x.length ≤ 20 ∧ r = Vbptao.step s [[c, m], x]
theorem iv_ints (l : List Nat) : (Vbptao.ints l).map V.int = iv l := by
  unfold Vbptao.ints
  rw [iv_map]
/-! ### Pool.worth(self, owners) -/
abbrev sWorth : Stmt := inClass (top 45) 8
theorem scWorth : FnScope ["self", "owners"] ["self", "owners"] (defScope sWorth) := ⟨rfl, rfl, rfl, by decide +kernel, rfl, by decide +kernel, by decide +kernel⟩
theorem nat_of {n : Nat} {m : Int} (h : My.inSet n m) : ∃ q : Nat, m = (q : Int) ∧ m.toNat = q ∧ q < 2 ^ n := by
  refine ⟨m.toNat, by have := h.1; omega, rfl, My.lt_iff_full.mpr (by have := h.1; have := h.2; omega)⟩
theorem own_of {n : Nat} {m : Int} (h : My.inOwn n m) : ∃ q : Nat, m = (q : Int) ∧ m.toNat = q ∧ q < n := ⟨m.toNat, by have := h.1; omega, rfl, by have := h.1; have := h.2; omega⟩
theorem ok_worth (T : Txt K mg C) (F : DefM K C "worth" "Pool.worth" sWorth) (Mp : Met P w K mg base C 1 "products" (spProducts K C)) (Ms : Met P w K mg base C 2 "is_set" (PV (aIsSet C))) (Ca : Cal P w K mg base 2 "alone" (PV (aAlone K))) : Met P w K mg base C 3 "worth" (spM C (A1 3)) := by
  refine F.met scWorth (fun vs H Q E h => ?_) (fun _ _ _ _ _ _ us hl => match us, hl with | [_, _], _ => rfl) (fun cdv f A outer s H vs Q E hr h => ⟨_,
    pss_cons (ps_if (pt_not (pt_val (pe_m Ms T.cl hr (by decide) (pv 0) (pa_cons (pv 1) pa_nil)))) (pss_one (ps_ret (pe_lst (pa_cons (pe_k T.k3) pa_nil)))) pss_nil)
    (pss_one (ps_ret (pe_lst (pa_cons (pe_c Ca hr (by decide) (pa_cons (pe_m0 Mp T.cl hr (by decide) (pv 0)) (pa_cons (pv 1) pa_nil))) pa_nil)))), ?_⟩)
  · obtain ⟨p, d, s, r, rest, rfl, _, _, ⟨x, rfl, _⟩, _⟩ := h
    rfl
  · obtain ⟨p, d, s, r, rest, rfl, hp, wf, ⟨m, rfl, rfl⟩, k⟩ := h
    have k := ro hp (My.step_worth s m) k
    refine q_when (et_not (et_B (ev_isSet (ev_var rfl) (ev_var rfl) hp wf))) (fun hb H1 e1 => ?_) (fun hb H1 e1 => ?_)
    · have hn : ¬ My.inSet s.n m := by simpa using hb
      rw [if_neg hn] at k
      exact s_retL (el_lst (ea_cons ev_c ea_nil) (by decide)) fun l H2 hl e2 h2 => k.go e1 hl e2 h2
    · have hy : My.inSet s.n m := by simpa using hb
      rw [if_pos hy] at k
      obtain ⟨q, rfl, hq, _⟩ := nat_of hy
      rw [hq] at k
      exact s_retL (el_lst (ea_cons (ev_cR (er_products (T := T) (ev_var rfl) (hp.mono e1) wf) (ea_cons (ev_var rfl) ea_nil) pr_mono fun a H2 e2 hr2 => ⟨a, s.products, q, rfl, hr2, wf.few, rfl⟩) ea_nil) (by show 1 ≤ 100000; decide)) fun l H2 hl e2 h2 => k.go e1 hl e2 h2
/-! ### Pool.comes(self, owners, owner) -/
abbrev sMComes : Stmt := inClass (top 45) 9
theorem scMComes : FnScope ["self", "owners", "owner"] ["self", "owners", "owner"] (defScope sMComes) := ⟨rfl, rfl, rfl, by decide +kernel, rfl, by decide +kernel, by decide +kernel⟩
theorem ok_mcomes (T : Txt K mg C) (F : DefM K C "comes" "Pool.comes" sMComes) (Mp : Met P w K mg base C 1 "products" (spProducts K C)) (Ms : Met P w K mg base C 2 "is_set" (PV (aIsSet C))) (Mo : Met P w K mg base C 1 "is_owner" (PV (aIsOwner C))) (Ch : Cal P w K mg base 1 "has" (PV aHas))
    (Cc : Cal P w K mg base 3 "comes_worths" (PV (aComes K))) : Met P w K mg base C 4 "comes" (spM C (A2 4)) := by
  refine F.met scMComes (fun vs H Q E h => ?_) (fun _ _ _ _ _ _ us hl => match us, hl with | [_, _, _], _ => rfl) (fun cdv f A outer s H vs Q E hr h => ⟨_,
    pss_cons (ps_if (PW.pt (pw_or (pt_not (pt_val (pe_m Ms T.cl hr (by decide) (pv 0) (pa_cons (pv 1) pa_nil)))) (pw_or1 (pt_not (pt_val (pe_m Mo T.cl hr (by decide) (pv 0) (pa_cons (pv 2) pa_nil))))))) (pss_one (ps_ret (pe_lst (pa_cons (pe_k T.k3) pa_nil)))) pss_nil)
    (pss_cons (ps_if (pt_val (pe_c Ch hr (by decide) (pa_cons (pv 1) (pa_cons (pv 2) pa_nil)))) (pss_one (ps_ret (pe_lst (pa_cons (pe_k T.k7) pa_nil)))) pss_nil)
    (pss_one (ps_ret (pe_lst (pa_cons (pe_c Cc hr (by decide) (pa_cons (pe_m0 Mp T.cl hr (by decide) (pv 0)) (pa_cons (pv 1) (pa_cons (pv 2) pa_nil)))) pa_nil))))), ?_⟩)
  · obtain ⟨p, d, s, r, rest, rfl, _, _, ⟨x, y, rfl, _⟩, _⟩ := h
    rfl
  · obtain ⟨p, d, s, r, rest, rfl, hp, wf, ⟨m, i, rfl, rfl⟩, k⟩ := h
    have k := ro hp (My.step_comes s m i) k
    have h8 := wf.n8
    refine q_when (et_or (et_not (et_B (ev_isSet (ev_var rfl) (ev_var rfl) hp wf))) fun _ => et_not (et_B (ev_isOwner (ev_var rfl) (ev_var rfl) hp))) (fun hb H1 e1 => ?_) (fun hb H1 e1 => ?_)
    · have hn : ¬ (My.inSet s.n m ∧ My.inOwn s.n i) := by
        rintro ⟨h1, h2⟩
        rw [decide_eq_true h1, decide_eq_true h2] at hb
        cases hb
      rw [if_neg hn] at k
      exact s_retL (el_lst (ea_cons ev_c ea_nil) (by decide)) fun l H2 hl e2 h2 => k.go e1 hl e2 h2
    · rw [Bool.or_eq_false_iff, Bool.not_eq_false', Bool.not_eq_false', decide_eq_true_eq, decide_eq_true_eq] at hb
      rw [if_pos hb] at k
      obtain ⟨q, rfl, hq, _⟩ := nat_of hb.1
      obtain ⟨j, rfl, hj, hjn⟩ := own_of hb.2
      rw [hq, hj] at k
      refine q_when (b := q.testBit j) (et_B (ev_cv (ea_cons (ev_var rfl) (ea_cons (ev_var rfl) ea_nil)) fun H2 _ => ⟨q, j, rfl, rfl⟩)) (fun hc H2 e2 => ?_) (fun hc H2 e2 => ?_)
      · rw [if_pos hc] at k
        exact s_retL (el_lst (ea_cons ev_c ea_nil) (by decide)) fun l H3 hl e3 h3 => k.go (e1.trans e2) hl e3 h3
      · rw [if_neg (by rw [hc]; decide)] at k
        have hor := My.add_two hc
        have hmono : Vbptao.value s.products q ≤ Vbptao.value s.products (q + 2 ^ j) := by rw [hor]; exact My.value_or
        refine s_retL (el_lst (vs := [.int ((Vbptao.value s.products (q + 2 ^ j) - Vbptao.value s.products q : Nat) : Int)]) (ea_cons (ev_is (ev_cR (er_products (T := T) (ev_var rfl) (hp.mono (e1.trans e2)) wf) (ea_cons (ev_var rfl) (ea_cons (ev_var rfl) ea_nil)) pr_mono fun a H3 e3 hr3 => ⟨a, s.products, q, j, rfl, hr3, wf.few, by omega, rfl⟩) ?_) ea_nil) (by show 1 ≤ 100000; decide)) fun l H3 hl e3 h3 => k.go (e1.trans e2) hl e3 h3
        rw [← hor, Int.ofNat_sub hmono]
/-! ### Pool.equal(self) -/
abbrev sMEqual : Stmt := inClass (top 45) 10
theorem scMEqual : FnScope ["self"] ["self"] (defScope sMEqual) := ⟨rfl, rfl, rfl, by decide +kernel, rfl, by decide +kernel, by decide +kernel⟩
theorem cons_map (z : Int) (l : List Nat) : (z :: Vbptao.ints l).map V.int = [V.int z] ++ iv l := by
  rw [List.map_cons, iv_ints]
  rfl
theorem equal_len (s : Vbptao.State) : (Vbptao.equal s).length = s.n := by
  rw [My.equal_eq, My.addedF_len]
theorem ok_mequal (T : Txt K mg C) (F : DefM K C "equal" "Pool.equal" sMEqual) (Mp : Met P w K mg base C 1 "products" (spProducts K C)) (Ce : Cal P w K mg base 3 "equal_parts" (PL (aEqual K))) : Met P w K mg base C 4 "equal" (spM C (A0 5)) := by
  refine F.met scMEqual (fun vs H Q E h => ?_) (fun _ _ _ _ _ _ us hl => match us, hl with | [_], _ => rfl) (fun cdv f A outer s H vs Q E hr h => ⟨_,
    pss_one (ps_ret (pe_op op_cat (pe_lst (pa_cons pe_int pa_nil)) (pe_c Ce hr (by decide) (pa_cons (pe_m0 Mp T.cl hr (by decide) (pv 0)) (pa_cons (pe_fld (pv 0) rfl) pa_nil))))), ?_⟩)
  · obtain ⟨p, d, s, r, rest, rfl, _, _, ⟨rfl, _⟩, _⟩ := h
    rfl
  · obtain ⟨p, d, s, r, rest, rfl, hp, wf, ⟨rfl, rfl⟩, k⟩ := h
    have k := ro hp (My.step_equal s) k
    have h8 := wf.n8
    rw [cons_map] at k
    exact s_retL (el_cat (el_lst (ea_cons ev_c ea_nil) (by decide)) (el_cR (er_products (T := T) (ev_var rfl) hp wf) (ea_cons (ev_many T (ev_var rfl) hp) ea_nil) pr_mono fun a H2 e2 hr2 => ⟨a, s, rfl, hr2, wf, rfl⟩) (by rw [iv, List.length_map, equal_len]; show 1 + s.n ≤ 100000; omega)) k
end
end Ro

set_option Elab.async false
set_option linter.all false
set_option maxRecDepth 100000
set_option maxHeartbeats 2000000
namespace Ro
open PySem PySem.Spec PyProof.Rows L2 Evl
section
variable {K : PySem.W.Frag} {σ : L2.St} {H : Hp} {te ta tb : TE} {tr : TA} {R : Addr → Hp → Prop} {D : Ends} {tz : TS} {vs : List Nat} {tt : TT}
theorem q_asgR {i : Nat} (h : EvR te σ H R) (k : ∀ a H1, H a = none → Ex H H1 → R a H1 → tz D (σ.set i (some (.ref a))) H1) : tSeq (tAsg te (gName i)) tz D σ H := h H (Ex.refl H) _ fun a H1 ha e1 hr => k a H1 ha e1 hr
/-- a comprehension over products just made -/
theorem el_prodsR {ps : List Pr} {tl : TE} {i j k : Nat} (p : Pr → Bool) (v : Pr → V) (τ : Pr → L2.St) (h : EvR tl σ H (fun a H' => Prods K H' a ps)) (hl : ps.length ≤ 40000)
    (hτ : ∀ q, τ q = (((wipe σ vs).set i (some (.int (q.num : Int)))).set j (some (.int (q.need : Int)))).set k (some (.int (q.worth : Int)))) (hw : ∀ q, wipe (τ q) vs = wipe σ vs)
    (ht : ∀ q ∈ ps, ∀ H', Ex H H' → EvT tt (τ q) H' (p q)) (he : ∀ q ∈ ps, ∀ H', Ex H H' → p q = true → Ev te (τ q) H' (v q)) :
    EvL (tLc (iList K tl) (gTup K 3 (gCons (gName i) (gCons (gName j) (gCons (gName k) gNil)))) tt te vs) σ H ((ps.filter p).map v) := fun H0 e Q q => h H0 e _ fun a H1 ha e1 hx => by
  obtain ⟨ts, h1, h2, h3⟩ := hx
  refine ⟨a, rfl, ⟨_, h1⟩, fun D hD => ?_⟩
  refine lc_data (walk_list (xs := ts.map V.ref)) hD ps (by rw [List.length_map, h2]) hl p v τ (fun H' e' => ex_l e' h1) (fun m x H' H'' y => by rw [y.1]; exact Ex.refl _) (fun m q x H' H'' hq e' y Q hQ => ?_) (fun q _ => hw q)
    (fun q hq H' e' => ht q hq H' ((e.trans e1).trans e')) (fun q hq H' e' hp => he q hq H' ((e.trans e1).trans e') hp) (fun H' e' hD' => q D H' (fresh_back e1 hD) (e1.trans e') hD')
  obtain ⟨y1, y2⟩ := y
  subst y1
  have hm : m < ts.length := by rw [h2]; exact (List.getElem?_eq_some_iff.mp hq).1
  have ht : ts[m]? = some ts[m] := List.getElem?_eq_getElem hm
  rw [List.getElem?_map, ht] at y2
  have ex : V.ref ts[m] = x := Option.some.inj y2
  rw [← ex]
  refine g_tup3 (ex_t e' (h3 m _ q ht hq)) ?_
  rw [← hτ q]
  exact hQ
/-- list(t) of a tuple -/
theorem el_listT {p : Addr} {xs : List V} (ha : Ev ta σ H (.ref p)) (h : SqT K H p xs) : EvL (tCB (rListS K) (tCons ta tNil)) σ H xs := fun H1 e Q q =>
  ha H1 e _ fun H2 e2 => ⟨p, xs, rfl, Or.inr (ex_t (e.trans e2) h), fun l hl => q l _ (fresh_back e2 hl) (e2.trans (Ex.new hl)) upd_same⟩
theorem ev_int01 {b : Bool} (h : Ev ta σ H (.bl b)) : Ev (tCB (fun xs H Q => (∃ i, xs = [V.int i] ∧ Q (.int i) H) ∨ ∃ k, xs = [V.bl k] ∧ Q (.int (if k then 1 else 0)) H) (tCons ta tNil)) σ H (.int (if b then 1 else 0)) := fun H1 e Q q =>
  h H1 e _ fun H2 e2 => .inr ⟨b, rfl, q H2 e2⟩
end
/-! ### lists of whole numbers as data -/
theorem dpInts (K : PySem.W.Frag) (H : Hp) : ∀ ns : List Int, DpAll K H (ns.map V.int) (ns.map PyData.int)
  | [] => .nil
  | n :: ns => .cons (.int n) (dpInts K H ns)
theorem eqvInts : ∀ ns ms : List Int, PyData.eqvAll (ns.map PyData.int) (ms.map PyData.int) = decide (ns = ms)
  | [], [] => rfl
  | [], _ :: _ => rfl
  | _ :: _, [] => rfl
  | n :: ns, m :: ms => by
    rw [List.map_cons, List.map_cons, PyData.eqvAll, eqvInts ns ms, PyData.eqv, Bool.beq_eq_decide_eq]
    rw [Bool.eq_iff_iff, Bool.and_eq_true, decide_eq_true_eq, decide_eq_true_eq, decide_eq_true_eq, List.cons.injEq]
theorem depInts : ∀ ns : List Int, PyData.depthAll (ns.map PyData.int) = 0
  | [] => rfl
  | n :: ns => by rw [List.map_cons, PyData.depthAll, depInts ns, PyData.depth]; rfl
section
variable {P : Program} {w : World} {K : PySem.W.Frag} {mg : Str → Option Value} {base : Heap} {C : Addr}
/-! ### Pool.core(self, shares) -/
abbrev sCore : Stmt := inClass (top 45) 11
theorem scCore : FnScope ["self", "shares", "products", "objection"] ["self", "shares"] (defScope sCore) := ⟨rfl, rfl, rfl, by decide +kernel, rfl, by decide +kernel, by decide +kernel⟩
theorem ok_core (T : Txt K mg C) (F : DefM K C "core" "Pool.core" sCore) (Mp : Met P w K mg base C 1 "products" (spProducts K C)) (Ma : Met P w K mg base C 1 "are_shares" (PV (aAreShares K C))) (Cw : Cal P w K mg base 3 "is_whole" (PV (aWhole K))) (Ca : Cal P w K mg base 2 "alone" (PV (aAlone K)))
    (Ce : Cal P w K mg base 1 "everybody" (PV aEvery)) (Cf : Cal P w K mg base 3 "first_objection" (PV (aFirst K))) : Met P w K mg base C 4 "core" (spM C (AL K 6)) := by
  refine F.met scCore (fun vs H Q E h => ?_) (fun _ _ _ _ _ _ us hl => match us, hl with | [_, _], _ => rfl) (fun cdv f A outer s H vs Q E hr h => ⟨_,
    pss_cons (ps_if (pt_not (pt_val (pe_m Ma T.cl hr (by decide) (pv 0) (pa_cons (pv 1) pa_nil)))) (pss_one (ps_ret (pe_lst (pa_cons (pe_k T.k4) pa_nil)))) pss_nil)
    (pss_cons (ps_set (i := 2) scCore.nd rfl (.inl rfl) (pe_m0 Mp T.cl hr (by decide) (pv 0)))
    (pss_cons (ps_if (pt_not (pt_val (pe_c Cw hr (by decide) (pa_cons (pv 2) (pa_cons (pv 1) pa_nil))))) (pss_one (ps_ret (pe_lst (pa_cons pe_int (pa_cons (pe_c Ca hr (by decide) (pa_cons (pv 2) (pa_cons (pe_c Ce hr (by decide) (pa_cons (pe_fld (pv 0) rfl) pa_nil)) pa_nil))) pa_nil))))) pss_nil)
    (pss_cons (ps_set (i := 3) scCore.nd rfl (.inl rfl) (pe_c Cf hr (by decide) (pa_cons (pv 2) (pa_cons (pv 1) pa_nil))))
    (pss_cons (ps_if (pt_cmp (pc_isN (pv 3)) rfl) (pss_one (ps_ret (pe_lst (pa_cons pe_int pa_nil)))) pss_nil)
    (pss_one (ps_ret (pe_lst (pa_cons pe_int (pa_cons (pv 3) pa_nil))))))))), ?_⟩)
  · obtain ⟨p, d, s, r, rest, rfl, _, _, ⟨a, x, rfl, _⟩, _⟩ := h
    rfl
  · obtain ⟨p, d, s, r, rest, rfl, hp, wf, ⟨a, x, rfl, hx, h20, rfl⟩, k⟩ := h
    have k := ro hp (My.step_core s x) k
    have h8 := wf.n8
    refine q_when (et_not (et_B (ev_areShares (ev_var rfl) (ev_var rfl) hp hx h20))) (fun hb H1 e1 => ?_) (fun hb H1 e1 => ?_)
    · have hn : ¬ My.areShares s.n x := by simpa using hb
      rw [if_neg hn] at k
      exact s_retL (el_lst (ea_cons ev_c ea_nil) (by decide)) fun l H2 hl e2 h2 => k.go e1 hl e2 h2
    · have hy : My.areShares s.n x := by simpa using hb
      rw [if_pos hy, ← hy.1, My.share_full] at k
      have hxn := hy.1
      refine q_asgR (er_products (T := T) (ev_var rfl) (hp.mono e1) wf) fun pl H2 hpl e2 hr2 => ?_
      have e12 := e1.trans e2
      refine q_when (et_not (et_B (ev_cv (ea_cons (ev_var rfl) (ea_cons (ev_var rfl) ea_nil)) fun H3 e3 => ⟨pl, a, s.products, x, rfl, hr2.mono e3, wf.few, ex_l (e12.trans e3) hx, by omega, rfl⟩))) (fun hb H3 e3 => ?_) (fun hb H3 e3 => ?_)
      · have hne : x.sum ≠ (Vbptao.all s : Int) := by
          rw [hxn] at hb
          have h' : ¬ x.sum = (Vbptao.value s.products (Vbptao.full s.n) : Int) := by simpa using hb
          exact h'
        rw [if_pos hne] at k
        exact s_retL (el_lst (vs := [.int 2, .int (Vbptao.all s : Nat)]) (ea_cons ev_c (ea_cons (ev_cv (ea_cons (ev_var rfl) (ea_cons (ev_cv (ea_cons (ev_many T (ev_var rfl) (hp.mono (e12.trans e3))) ea_nil) fun H4 _ => ⟨s.n, rfl, h8, rfl⟩) ea_nil)) fun H4 e4 => ⟨pl, s.products, Vbptao.full s.n, rfl, hr2.mono (e3.trans e4), wf.few, rfl⟩) ea_nil)) (by show 2 ≤ 100000; decide)) fun l H4 hl e4 h4 => k.go (e12.trans e3) hl e4 h4
      · have heq : ¬ x.sum ≠ (Vbptao.all s : Int) := by
          rw [hxn] at hb
          have h' : x.sum = (Vbptao.value s.products (Vbptao.full s.n) : Int) := by simpa using hb
          exact fun q => q h'
        rw [if_neg heq] at k
        refine q_asg (ev_cv (ea_cons (ev_var rfl) (ea_cons (ev_var rfl) ea_nil)) fun H4 e4 => ⟨pl, a, s.products, x, rfl, hr2.mono (e3.trans e4), wf.few, ex_l ((e12.trans e3).trans e4) hx, by omega, rfl⟩) fun H4 e4 => ?_
        have e14 := (e12.trans e3).trans e4
        refine q_when (et_B (ev_isN (ev_var rfl))) (fun hb H5 e5 => ?_) (fun hb H5 e5 => ?_)
        · rw [optV_non] at hb
          cases ho : Vbptao.objects x.length s.products x with
          | none =>
            rw [ho] at k
            exact s_retL (el_lst (ea_cons ev_c ea_nil) (by decide)) fun l H6 hl e6 h6 => k.go (e14.trans e5) hl e6 h6
          | some m => rw [ho] at hb; cases hb
        · rw [optV_non] at hb
          cases ho : Vbptao.objects x.length s.products x with
          | none => rw [ho] at hb; cases hb
          | some m =>
            rw [ho] at k
            exact s_retL (el_lst (vs := [.int 0, .int (m : Int)]) (ea_cons ev_c (ea_cons (ev_is (ev_var rfl) rfl) ea_nil)) (by show 2 ≤ 100000; decide)) fun l H6 hl e6 h6 => k.go (e14.trans e5) hl e6 h6
/-! ### Pool.divide(self, shares) -/
abbrev sDivide : Stmt := inClass (top 45) 12
theorem scDivide : FnScope ["self", "shares"] ["self", "shares"] (defScope sDivide) := ⟨rfl, rfl, rfl, by decide +kernel, rfl, by decide +kernel, by decide +kernel⟩
theorem dv_map (n : Nat) (ps : List Pr) (x : List Int) : (0 :: (Vbptao.division n ps x).flatMap fun l => l.map fun y => (y.2 : Int)).map V.int = [V.int 0] ++ iv (dvL n ps x) := by
  rw [List.map_cons, iv_map]
  unfold dvL
  rw [List.map_flatten, List.map_map, List.flatMap_def]
  simp only [Function.comp_def, List.map_map]
  rfl
theorem dvL_len {n : Nat} (h8 : n ≤ 8) : ∀ (ps : List Pr) (x : List Int), (dvL n ps x).length ≤ 8 * ps.length
  | [], _ => by simp [dvL_nil]
  | q :: ps, x => by
    have h1 := dvL_len h8 ps (ptsX n ps (Vbptao.members n q.need) q.need q.worth x)
    have h2 := My.size_le n q.need
    unfold Vbptao.size at h2
    rw [dvL_cons, List.length_append, pts_len, List.length_cons]
    omega
theorem ok_divide (T : Txt K mg C) (F : DefM K C "divide" "Pool.divide" sDivide) (Mp : Met P w K mg base C 1 "products" (spProducts K C)) (Ma : Met P w K mg base C 1 "are_shares" (PV (aAreShares K C))) (Cs : Cal P w K mg base 4 "is_stable" (PV (aStable K))) (Cd : Cal P w K mg base 5 "first_division" (PL (aDivision K))) :
    Met P w K mg base C 6 "divide" (spM C (AL K 7)) := by
  refine F.met scDivide (fun vs H Q E h => ?_) (fun _ _ _ _ _ _ us hl => match us, hl with | [_, _], _ => rfl) (fun cdv f A outer s H vs Q E hr h => ⟨_,
    pss_cons (ps_if (pt_not (pt_val (pe_m Ma T.cl hr (by decide) (pv 0) (pa_cons (pv 1) pa_nil)))) (pss_one (ps_ret (pe_lst (pa_cons (pe_k T.k4) pa_nil)))) pss_nil)
    (pss_cons (ps_if (pt_not (pt_val (pe_c Cs hr (by decide) (pa_cons (pe_m0 Mp T.cl hr (by decide) (pv 0)) (pa_cons (pv 1) pa_nil))))) (pss_one (ps_ret (pe_lst (pa_cons (pe_k T.k8) pa_nil)))) pss_nil)
    (pss_one (ps_ret (pe_op op_cat (pe_lst (pa_cons pe_int pa_nil)) (pe_c Cd hr (by decide) (pa_cons (pe_m0 Mp T.cl hr (by decide) (pv 0)) (pa_cons (pv 1) pa_nil))))))), ?_⟩)
  · obtain ⟨p, d, s, r, rest, rfl, _, _, ⟨a, x, rfl, _⟩, _⟩ := h
    rfl
  · obtain ⟨p, d, s, r, rest, rfl, hp, wf, ⟨a, x, rfl, hx, h20, rfl⟩, k⟩ := h
    have k := ro hp (My.step_divide s x) k
    have h8 := wf.n8
    refine q_when (et_not (et_B (ev_areShares (ev_var rfl) (ev_var rfl) hp hx h20))) (fun hb H1 e1 => ?_) (fun hb H1 e1 => ?_)
    · have hn : ¬ My.areShares s.n x := by simpa using hb
      rw [if_neg hn] at k
      exact s_retL (el_lst (ea_cons ev_c ea_nil) (by decide)) fun l H2 hl e2 h2 => k.go e1 hl e2 h2
    · have hy : My.areShares s.n x := by simpa using hb
      rw [if_pos hy] at k
      have hxn := hy.1
      refine q_when (et_not (et_B (ev_cR (er_products (T := T) (ev_var rfl) (hp.mono e1) wf) (ea_cons (ev_var rfl) ea_nil) pr_mono fun b H2 e2 hr2 => ⟨b, a, s.products, x, rfl, hr2, wf.few, ex_l (e1.trans e2) hx, by omega, rfl⟩))) (fun hb H2 e2 => ?_) (fun hb H2 e2 => ?_)
      · have hn : ¬ Vbptao.inCore s.n s.products x = true := by rw [hxn] at hb; simpa using hb
        rw [if_neg hn] at k
        exact s_retL (el_lst (ea_cons ev_c ea_nil) (by decide)) fun l H3 hl e3 h3 => k.go (e1.trans e2) hl e3 h3
      · have hc : Vbptao.inCore s.n s.products x = true := by rw [hxn] at hb; simpa using hb
        rw [if_pos hc, dv_map] at k
        have hlen := dvL_len h8 s.products x
        have hfew := wf.few
        refine s_retL (el_cat (el_lst (ea_cons ev_c ea_nil) (by decide)) (el_cR (er_products (T := T) (ev_var rfl) (hp.mono (e1.trans e2)) wf) (ea_cons (ev_var rfl) ea_nil) pr_mono fun b H3 e3 hr3 => ⟨b, a, s.products, x, rfl, hr3, wf.few, ex_l ((e1.trans e2).trans e3) hx, by omega, by rw [hxn]; exact wf.lt, by rw [hxn]; exact My.core_stab hc, rfl⟩) ?_) fun l H3 hl e3 h3 => ?_
        · rw [iv, List.length_map, hxn]
          show 1 + _ ≤ 100000
          omega
        · rw [hxn] at h3
          exact k.go (e1.trans e2) hl e3 h3
end
end Ro

set_option Elab.async false
set_option linter.all false
set_option maxRecDepth 100000
set_option maxHeartbeats 2000000
namespace Ro
open PySem PySem.Spec PyProof.Rows L2 Evl
section
variable {P : Program} {w : World} {K : PySem.W.Frag} {mg : Str → Option Value} {base : Heap} {C : Addr}
/-! ### Pool.even(self) -/
abbrev sMEven : Stmt := inClass (top 45) 13
theorem scMEven : FnScope ["self", "found", "numerator", "denominator"] ["self"] (defScope sMEven) := ⟨rfl, rfl, rfl, by decide +kernel, rfl, by decide +kernel, by decide +kernel⟩
theorem even_len (s : Vbptao.State) : (Vbptao.evenShares s).length = s.n := by
  rw [My.evenShares_eq, List.length_map, List.length_range]
theorem ok_meven (T : Txt K mg C) (F : DefM K C "even" "Pool.even" sMEven) (Mp : Met P w K mg base C 1 "products" (spProducts K C)) (Ce : Cal P w K mg base 5 "most_even" (spEven K)) : Met P w K mg base C 6 "even" (spM C (A0 8)) := by
  refine F.met scMEven (fun vs H Q E h => ?_) (fun _ _ _ _ _ _ us hl => match us, hl with | [_], _ => rfl) (fun cdv f A outer s H vs Q E hr h => ⟨_,
    pss_cons (ps_set (i := 1) scMEven.nd rfl (.inl rfl) (pe_lst (pa_cons pe_int pa_nil)))
    (pss_cons (ps_for PassesOwn.never rfl (pi_list (pe_c Ce hr (by decide) (pa_cons (pe_m0 Mp T.cl hr (by decide) (pv 0)) (pa_cons (pe_fld (pv 0) rfl) pa_nil)))) (pg_tup rfl (pgs_cons (pg_name (i := 2) scMEven.nd rfl (Or.inl rfl)) (pgs_cons (pg_name (i := 3) scMEven.nd rfl (Or.inl rfl)) pgs_nil)))
      (pss_one (ps_expr (pe_bm PySem.F.plainAttrs_list PySem.F.slot_list_extend PySem.F.type_list_extend mt_extend (pv 1) (pa_cons (pe_lst (pa_cons (pv 2) (pa_cons (pv 3) pa_nil))) pa_nil)))))
    (pss_one (ps_ret (pv 1)))), ?_⟩)
  · obtain ⟨p, d, s, r, rest, rfl, _, _, ⟨rfl, _⟩, _⟩ := h
    rfl
  · obtain ⟨p, d, s, r, rest, rfl, hp, wf, ⟨rfl, rfl⟩, k⟩ := h
    have k := ro hp (My.step_even s) k
    have h8 := wf.n8
    have hel := even_len s
    refine q_asgL (xs := [.int 0]) (el_lst (ea_cons ev_c ea_nil) (by decide)) fun fn H1 hfn e1 hf1 => ?_
    refine er_products (T := T) (ev_var rfl) (hp.mono e1) wf H1 (Ex.refl _) _ fun a H2 ha e2 hr2 => ?_
    refine ev_many T (ev_var rfl) (hp.mono e1) H2 e2 _ fun H3 e3 => ?_
    refine ⟨a, s, rfl, hr2.mono e3, wf, fun q ts H4 hq e4 hq4 hsh => ?_⟩
    have e14 := (e2.trans e3).trans e4
    have hqf : q ≠ fn := del_fresh (e3 _ _ (e2 _ _ hf1)) hq
    refine ⟨q, rfl, ⟨_, SqL.of hq4⟩, for_list (K := K) (a := q) (xs := ts.map V.ref) (fun i σ H' => (∃ o2 o3, σ = [some (.ref p), some (.ref fn), o2, o3]) ∧ Ex H H' ∧ H' q = some (.lst (ts.map V.ref)) ∧ ShAt H' ts (Vbptao.evenShares s) ∧
        H' fn = some (.lst ((0 :: ((Vbptao.evenShares s).take i).flatMap fun y => Vbptao.ints [y.1, y.2]).map V.int)))
      ⟨⟨none, none, rfl⟩, e1.trans e14, hq4, hsh, e14 _ _ hf1⟩ (fun i σ H' _ h => SqL.of h.2.2.1) ?_ ?_⟩
    · rintro i v σ H' hv ⟨⟨o2, o3, rfl⟩, e, g1, g2, g3⟩
      have hi : i < ts.length := by have := (List.getElem?_eq_some_iff.mp hv).1; rwa [List.length_map] at this
      have ht : ts[i]? = some ts[i] := List.getElem?_eq_getElem hi
      have hle : i < (Vbptao.evenShares s).length := by rw [← g2.1]; exact hi
      obtain ⟨y, hy⟩ : ∃ y, (Vbptao.evenShares s)[i]? = some y := ⟨_, List.getElem?_eq_getElem hle⟩
      rw [List.getElem?_map, ht] at hv
      have ex : V.ref ts[i] = v := Option.some.inj hv
      subst ex
      refine g_tup2 (SqT.of (g2.2 i _ y ht hy)) ?_
      refine ⟨.ref fn, rfl, Or.inl ⟨rfl, _, SqL.of g3⟩, ?_⟩
      refine el_lst (vs := [.int (y.1 : Int), .int (y.2 : Int)]) (ea_cons (ev_var rfl) (ea_cons (ev_var rfl) ea_nil)) (by show 2 ≤ 100000; decide) H' (Ex.refl _) _ fun b H5 hb e5 hb5 => ?_
      have hfl : (((Vbptao.evenShares s).take i).flatMap fun y => Vbptao.ints [y.1, y.2]).length = 2 * i := by
        have : ∀ l : List (Nat × Nat), (l.flatMap fun y => Vbptao.ints [y.1, y.2]).length = 2 * l.length := by
          intro l
          induction l with
          | nil => rfl
          | cons a l ih => rw [List.flatMap_cons, List.length_append, ih, List.length_cons]; show 2 + 2 * l.length = 2 * (l.length + 1); omega
        rw [this, List.length_take]
        omega
      refine ⟨fn, b, _, _, rfl, rfl, e5 _ _ g3, hb5, sz_of ?_, ?_⟩
      · rw [List.length_map, List.length_cons, hfl]
        show 2 * i + 1 + 2 ≤ 100000
        omega
      · refine ⟨⟨_, _, rfl⟩, Ex.mut (e.trans e5) hfn, ?_, ?_, ?_⟩
        · rw [upd_ne hqf]
          exact e5 _ _ g1
        · exact (g2.mono fun q t h => h.mono e5).mono fun q t h => h.keep (e5 _ _ g3)
        · rw [upd_same, List.take_add_one, hy, List.flatMap_append, ← List.cons_append, List.map_append]
          rfl
    · rintro σ H' ⟨⟨o2, o3, rfl⟩, e, g1, g2, g3⟩
      rw [List.length_map, g2.1, List.take_length] at g3
      exact s_ret (ev_var rfl) fun H5 e5 => k fn H5 hfn (e.trans e5) (e5 _ _ g3)
/-! ### Pool.least_most(self, owner) -/
abbrev sMLM : Stmt := inClass (top 45) 14
theorem scMLM : FnScope ["self", "owner"] ["self", "owner"] (defScope sMLM) := ⟨rfl, rfl, rfl, by decide +kernel, rfl, by decide +kernel, by decide +kernel⟩
theorem ok_mLM (T : Txt K mg C) (F : DefM K C "least_most" "Pool.least_most" sMLM) (Mp : Met P w K mg base C 1 "products" (spProducts K C)) (Mo : Met P w K mg base C 1 "is_owner" (PV (aIsOwner C))) (Cl : Cal P w K mg base 4 "least_and_most" (PL (aLM K))) : Met P w K mg base C 5 "least_most" (spM C (A1 9)) := by
  refine F.met scMLM (fun vs H Q E h => ?_) (fun _ _ _ _ _ _ us hl => match us, hl with | [_, _], _ => rfl) (fun cdv f A outer s H vs Q E hr h => ⟨_,
    pss_cons (ps_if (pt_not (pt_val (pe_m Mo T.cl hr (by decide) (pv 0) (pa_cons (pv 1) pa_nil)))) (pss_one (ps_ret (pe_lst (pa_cons (pe_k T.k3) pa_nil)))) pss_nil)
    (pss_one (ps_ret (pe_c Cl hr (by decide) (pa_cons (pe_m0 Mp T.cl hr (by decide) (pv 0)) (pa_cons (pe_fld (pv 0) rfl) (pa_cons (pv 1) pa_nil)))))), ?_⟩)
  · obtain ⟨p, d, s, r, rest, rfl, _, _, ⟨x, rfl, _⟩, _⟩ := h
    rfl
  · obtain ⟨p, d, s, r, rest, rfl, hp, wf, ⟨m, rfl, rfl⟩, k⟩ := h
    have k := ro hp (My.step_range s m) k
    refine q_when (et_not (et_B (ev_isOwner (ev_var rfl) (ev_var rfl) hp))) (fun hb H1 e1 => ?_) (fun hb H1 e1 => ?_)
    · have hn : ¬ My.inOwn s.n m := by simpa using hb
      rw [if_neg hn] at k
      exact s_retL (el_lst (ea_cons ev_c ea_nil) (by decide)) fun l H2 hl e2 h2 => k.go e1 hl e2 h2
    · have hy : My.inOwn s.n m := by simpa using hb
      rw [if_pos hy, iv_ints] at k
      obtain ⟨j, rfl, hj, hjn⟩ := own_of hy
      rw [hj] at k
      exact s_retL (el_cR (er_products (T := T) (ev_var rfl) (hp.mono e1) wf) (ea_cons (ev_many T (ev_var rfl) (hp.mono e1)) (ea_cons (ev_var rfl) ea_nil)) pr_mono fun a H2 e2 hr2 => ⟨a, s, j, rfl, hr2, wf, hjn, rfl⟩) fun l H2 hl e2 h2 => k.go e1 hl e2 h2
/-! ### Pool.order(self, owners) -/
abbrev sMOrder : Stmt := inClass (top 45) 15
theorem scMOrder : FnScope ["self", "owners"] ["self", "owners"] (defScope sMOrder) := ⟨rfl, rfl, rfl, by decide +kernel, rfl, by decide +kernel, by decide +kernel⟩
theorem lr_step {σ : L2.St} {H : Hp} {ta : TE} {n : Int} {Q : VK} (h : Ev ta σ H (.int n)) (k : ∀ H1, Ex H H1 → RgOk 0 n ∧ ∀ q, H1 q = none → Q (.ref q) (upd H1 q (.lst (rgV 0 n)))) : tLstRg (tRg1 ta) σ H Q := h H (Ex.refl H) _ fun H1 e1 => ⟨n, rfl, k H1 e1⟩
theorem rg_upTo (n : Nat) : rgV 0 (n : Int) = (My.upTo n).map V.int := by
  unfold rgV My.upTo
  rw [List.map_map]
  have : ((n : Int) - 0).toNat = n := by omega
  rw [this]
  apply List.map_congr_left
  intro i _
  show V.int (0 + (i : Int)) = V.int (i : Int)
  rw [Int.zero_add]
theorem ordered_len (s : Vbptao.State) (l : List Nat) : (Vbptao.ordered s l).length = s.n := by
  rw [My.ordered_eq, My.addedF_len]
theorem shInts (ns : List Int) : SeqAt.shaped (.list (ns.map PyData.int)) = true := by
  have h1 : ∀ l : List Int, PyData.canLayAll0 (l.map PyData.int) = true := by
    intro l
    induction l with
    | nil => simp only [List.map_nil, PyData.canLayAll0]
    | cons a l ih => simp only [List.map_cons, PyData.canLayAll0, PyData.canLay0, ih, Bool.and_self]
  unfold SeqAt.shaped
  rw [Bool.and_eq_true, decide_eq_true_eq]
  refine ⟨?_, ?_⟩
  · simp only [PyData.canLay0, h1]
  · rw [PyData.depth, depInts]
    decide
theorem ok_morder (B : Bt mg) (T : Txt K mg C) (F : DefM K C "order" "Pool.order" sMOrder) (Mp : Met P w K mg base C 1 "products" (spProducts K C)) (Co : Cal P w K mg base 4 "by_order" (PL (aOrder K))) : Met P w K mg base C 5 "order" (spM C (AL K 10)) := by
  refine F.met scMOrder (fun vs H Q E h => ?_) (fun _ _ _ _ _ _ us hl => match us, hl with | [_, _], _ => rfl) (fun cdv f A outer s H vs Q E hr h => ⟨_,
    pss_cons (ps_if (pt_cmpR (op_neD hr.units) (pe_callB cr_sortedI (by rfl) B.sorted (by decide +kernel) (pa_cons (pv 1) pa_nil)) (pe_listRg rfl (by rfl) B.list (prg_1 (by rfl) B.range (pe_fld (pv 0) rfl))) (nomark _)) (pss_one (ps_ret (pe_lst (pa_cons (pe_k T.k4) pa_nil)))) pss_nil)
    (pss_one (ps_ret (pe_op op_cat (pe_lst (pa_cons pe_int pa_nil)) (pe_c Co hr (by decide) (pa_cons (pe_m0 Mp T.cl hr (by decide) (pv 0)) (pa_cons (pv 1) pa_nil)))))), ?_⟩)
  · obtain ⟨p, d, s, r, rest, rfl, _, _, ⟨a, x, rfl, _⟩, _⟩ := h
    rfl
  · obtain ⟨p, d, s, r, rest, rfl, hp, wf, ⟨a, x, rfl, hx, h20, rfl⟩, k⟩ := h
    have k := ro hp (My.step_order s x) k
    have h8 := wf.n8
    have hEv : EvT (tTest (tOp (rNeD K) (tCB (rSortedI K) (tCons (tVar 1) tNil)) (tLstRg (tRg1 (tFld K (tVar 0) "many"))))) (L2.start ["self", "owners"] [.ref p, .ref a]) H (!My.isOrder s.n x) := fun H1 e Q' q => by
      refine ⟨_, rfl, ?_⟩
      refine ⟨a, x, rfl, ex_l e hx, fun ns pl hperm hsort hpl => ?_⟩
      have e2 := e.trans (Ex.new (o := .lst (ns.map V.int)) hpl)
      have hL : upd H1 pl (.lst (ns.map V.int)) pl = some (.lst (ns.map V.int)) := upd_same
      have eN : Ex H1 (upd H1 pl (.lst (ns.map V.int))) := Ex.new hpl
      generalize upd H1 pl (.lst (ns.map V.int)) = H2 at e2 hL eN
      refine lr_step (ev_many T (ev_var rfl) (hp.mono e2)) fun H3 e3 => ⟨RgOk.of_le (by omega) (by omega) (by omega) (by omega), fun ql hql => ?_⟩
      rw [rg_upTo]
      have e4 : Ex H3 (upd H3 ql (.lst ((My.upTo s.n).map V.int))) := Ex.new hql
      refine ⟨.list (ns.map PyData.int), .list ((My.upTo s.n).map PyData.int), .lst (SqL.of (e4 _ _ (e3 _ _ hL))) (dpInts K _ ns), .lst (SqL.of upd_same) (dpInts K _ _), shInts _, shInts _, !My.isOrder s.n x, ?_, q _ ((eN.trans e3).trans e4)⟩
      rw [PyData.eqv, eqvInts]
      congr 2
      rw [Bool.eq_iff_iff, decide_eq_true_eq]
      exact (My.isOrder_iff hperm hsort).symm
    refine q_when hEv (fun hb H1 e1 => ?_) (fun hb H1 e1 => ?_)
    · have hn : ¬ My.isOrder s.n x = true := by simpa using hb
      rw [if_neg hn] at k
      exact s_retL (el_lst (ea_cons ev_c ea_nil) (by decide)) fun l H2 hl e2 h2 => k.go e1 hl e2 h2
    · have hy : My.isOrder s.n x = true := by simpa using hb
      rw [if_pos hy, cons_map] at k
      have hperm := My.isOrder_perm.mp hy
      have hmem : ∀ y ∈ x, 0 ≤ y ∧ y < (s.n : Int) := fun y hy => My.mem_upTo.mp (hperm.mem_iff.mp hy)
      have hback : (x.map Int.toNat).map (fun (n : Nat) => (n : Int)) = x := by
        rw [List.map_map]
        refine (List.map_congr_left fun y hy => ?_).trans (List.map_id x)
        have := (hmem y hy).1
        show ((y.toNat : Nat) : Int) = y
        omega
      have hiv : iv (x.map Int.toNat) = x.map V.int := by rw [iv_map, hback]
      have hnd : (x.map Int.toNat).Nodup := by
        have h1 : x.Nodup := hperm.nodup_iff.mpr (My.upTo_nodup _)
        rw [← hback, List.Nodup, List.pairwise_map] at h1
        exact h1.imp fun h e => h (by rw [e])
      have hlen : (x.map Int.toNat).length = s.n := by
        rw [List.length_map, hperm.length_eq]
        unfold My.upTo
        rw [List.length_map, List.length_range]
      refine s_retL (el_cat (el_lst (ea_cons ev_c ea_nil) (by decide)) (el_cR (er_products (T := T) (ev_var rfl) (hp.mono e1) wf) (ea_cons (ev_var rfl) ea_nil) pr_mono fun b H2 e2 hr2 => ⟨b, a, s, x.map Int.toNat, rfl, hr2, wf.few, by rw [hiv]; exact ex_l (e1.trans e2) hx, hnd, fun i hi => ?_, hlen, h8, rfl⟩) ?_) fun l H2 hl e2 h2 => k.go e1 hl e2 h2
      · obtain ⟨y, hy, rfl⟩ := List.mem_map.mp hi
        have := hmem y hy
        omega
      · rw [iv, List.length_map, ordered_len]
        show 1 + s.n ≤ 100000
        omega
end
end Ro

set_option Elab.async false
set_option linter.all false
set_option maxRecDepth 100000
set_option maxHeartbeats 2000000
namespace Ro
open PySem PySem.Spec PyProof.Rows L2 Evl
section
variable {P : Program} {w : World} {K : PySem.W.Frag} {mg : Str → Option Value} {base : Heap} {C : Addr}
/-! ### Pool.leaves(self, owner) -/
abbrev sLeaves : Stmt := inClass (top 45) 17
theorem scLeaves : FnScope ["self", "owner"] ["self", "owner"] (defScope sLeaves) := ⟨rfl, rfl, rfl, by decide +kernel, rfl, by decide +kernel, by decide +kernel⟩
theorem ok_leaves (T : Txt K mg C) (F : DefM K C "leaves" "Pool.leaves" sLeaves) (Mp : Met P w K mg base C 1 "products" (spProducts K C)) (Mo : Met P w K mg base C 1 "is_owner" (PV (aIsOwner C))) (Ce : Cal P w K mg base 1 "everybody" (PV aEvery)) (Cc : Cal P w K mg base 3 "comes_worths" (PV (aComes K))) : Met P w K mg base C 4 "leaves" (spM C (A1 12)) := by
  refine F.met scLeaves (fun vs H Q E h => ?_) (fun _ _ _ _ _ _ us hl => match us, hl with | [_, _], _ => rfl) (fun cdv f A outer s H vs Q E hr h => ⟨_,
    pss_cons (ps_if (pt_not (pt_val (pe_m Mo T.cl hr (by decide) (pv 0) (pa_cons (pv 1) pa_nil)))) (pss_one (ps_ret (pe_lst (pa_cons (pe_k T.k3) pa_nil)))) pss_nil)
    (pss_one (ps_ret (pe_lst (pa_cons (pe_c Cc hr (by decide) (pa_cons (pe_m0 Mp T.cl hr (by decide) (pv 0)) (pa_cons (pe_op op_sub (pe_c Ce hr (by decide) (pa_cons (pe_fld (pv 0) rfl) pa_nil)) (pe_op op_shl pe_int (pv 1))) (pa_cons (pv 1) pa_nil)))) pa_nil)))), ?_⟩)
  · obtain ⟨p, d, s, r, rest, rfl, _, _, ⟨x, rfl, _⟩, _⟩ := h
    rfl
  · obtain ⟨p, d, s, r, rest, rfl, hp, wf, ⟨m, rfl, rfl⟩, k⟩ := h
    have k := ro hp (My.step_leaves s m) k
    have h8 := wf.n8
    refine q_when (et_not (et_B (ev_isOwner (ev_var rfl) (ev_var rfl) hp))) (fun hb H1 e1 => ?_) (fun hb H1 e1 => ?_)
    · have hn : ¬ My.inOwn s.n m := by simpa using hb
      rw [if_neg hn] at k
      exact s_retL (el_lst (ea_cons ev_c ea_nil) (by decide)) fun l H2 hl e2 h2 => k.go e1 hl e2 h2
    · have hy : My.inOwn s.n m := by simpa using hb
      rw [if_pos hy] at k
      obtain ⟨j, rfl, hj, hjn⟩ := own_of hy
      rw [hj] at k
      exact s_retL (el_lst (vs := [.int ((Vbptao.all s - Vbptao.value s.products (Vbptao.full s.n - 2 ^ j) : Nat) : Int)]) (ea_cons (ev_is (ev_cR (er_products (T := T) (ev_var rfl) (hp.mono e1) wf) (ea_cons (ev_subN (a := Vbptao.full s.n) (ev_cv (ea_cons (ev_many T (ev_var rfl) (hp.mono e1)) ea_nil) fun H2 _ => ⟨s.n, rfl, h8, rfl⟩) (ev_shl1 (ev_var rfl) (by omega)) (My.rest_two hjn)) (ea_cons (ev_var rfl) ea_nil)) pr_mono
        fun a H2 e2 hr2 => ⟨a, s.products, Vbptao.full s.n - 2 ^ j, j, rfl, hr2, wf.few, by omega, rfl⟩) (congrArg V.int (all_sub hjn))) ea_nil) (by show 1 ≤ 100000; decide)) fun l H2 hl e2 h2 => k.go e1 hl e2 h2
/-! ### Pool.told(self, k) -/
abbrev sTold : Stmt := inClass (top 45) 18
theorem scTold : FnScope ["self", "k"] ["self", "k"] (defScope sTold) := ⟨rfl, rfl, rfl, by decide +kernel, rfl, by decide +kernel, by decide +kernel⟩
theorem ok_told (B : Bt mg) (T : Txt K mg C) (F : DefM K C "told" "Pool.told" sTold) : Met P w K mg base C 1 "told" (spM C (A1 13)) := by
  refine F.met scTold (fun vs H Q E h => ?_) (fun _ _ _ _ _ _ us hl => match us, hl with | [_, _], _ => rfl) (fun cdv f A outer s H vs Q E hr h => ⟨_,
    pss_cons (ps_if (pt_cmp (pc_dnotin (hu_of hr) (pv 1) (pe_fld (pv 0) rfl)) rfl) (pss_one (ps_ret (pe_lst (pa_cons (pe_k T.k5) pa_nil)))) pss_nil)
    (pss_one (ps_ret (pe_callTy call_list_of (by rfl) B.list (by decide +kernel) (pa_cons (pe_dget (hu_of hr) (pe_fld (pv 0) rfl) (pv 1) (fun _ _ => rfl)) pa_nil)))), ?_⟩)
  · obtain ⟨p, d, s, r, rest, rfl, _, _, ⟨x, rfl, _⟩, _⟩ := h
    rfl
  · obtain ⟨p, d, s, r, rest, rfl, hp, wf, ⟨m, rfl, rfl⟩, k⟩ := h
    have k := ro hp (My.step_told s m) k
    obtain ⟨dx, es, h1, h2, h3, h4⟩ := id hp.ex
    refine q_when (et_B (ev_dnotin (ev_var rfl) (ev_known T (ev_var rfl) hp) h2)) (fun hb H1 e1 => ?_) (fun hb H1 e1 => ?_)
    · rcases es_look wf h4 m with ⟨e, he, g1, g2⟩ | ⟨g1, g2⟩
      · rw [g2] at hb
        cases hb
      · rw [g1] at k
        exact s_retL (el_lst (ea_cons ev_c ea_nil) (by decide)) fun l H2 hl e2 h2 => k.go e1 hl e2 h2
    · rcases es_look wf h4 m with ⟨e, he, g1, g2⟩ | ⟨g1, g2⟩
      · rw [g1] at k
        exact s_retL (el_listT (ev_dget (ev_known T (ev_var rfl) (hp.mono e1)) (ev_var rfl) (e1 _ _ h2) g2) (SqT.of (e1 _ _ (h3 e he)))) fun l H2 hl e2 h2 => k.go e1 hl e2 h2
      · rw [g2] at hb
        cases hb
/-! ### Pool.numbers(self) -/
abbrev sNumbers : Stmt := inClass (top 45) 19
theorem scNumbers : FnScope ["self"] ["self"] (defScope sNumbers) := ⟨rfl, rfl, rfl, by decide +kernel, rfl, by decide +kernel, by decide +kernel⟩
theorem ok_numbers (B : Bt mg) (T : Txt K mg C) (F : DefM K C "numbers" "Pool.numbers" sNumbers) : Met P w K mg base C 1 "numbers" (spM C (A0 14)) := by
  refine F.met scNumbers (fun vs H Q E h => ?_) (fun _ _ _ _ _ _ us hl => match us, hl with | [_], _ => rfl) (fun cdv f A outer s H vs Q E hr h => ⟨_,
    pss_one (ps_ret (pe_op op_cat (pe_lst (pa_cons (pe_fld (pv 0) rfl) pa_nil)) (pe_callB (call_sortedDI rfl) (by rfl) B.sorted (by decide +kernel) (pa_cons (pe_fld (pv 0) rfl) pa_nil)))), ?_⟩)
  · obtain ⟨p, d, s, r, rest, rfl, _, _, ⟨rfl, _⟩, _⟩ := h
    rfl
  · obtain ⟨p, d, s, r, rest, rfl, hp, wf, ⟨rfl, rfl⟩, k⟩ := h
    have k := ro hp (My.step_products s) k
    rw [cons_map] at k
    obtain ⟨dx, es, h1, h2, h3, h4⟩ := id hp.ex
    have hlen := es_len h4
    have hfew := wf.few
    refine s_retL (el_cat (el_lst (ea_cons (ev_many T (ev_var rfl) hp) ea_nil) (by show 1 ≤ 100000; decide)) (ys := iv (s.products.map fun q : Pr => q.num)) (fun H1 e Q' q => ?_) (by rw [iv, List.length_map, List.length_map]; show 1 + _ ≤ 100000; omega)) k
    refine ev_known T (ev_var rfl) hp H1 e _ fun H2 e2 => ?_
    refine ⟨d, kvE es, es.map fun e => (e.1.num : Int), rfl, .inl ((e.trans e2) _ _ h2), kvE_keys es, by rw [List.length_map]; omega, fun ys a hy1 hy2 ha => ?_⟩
    have hys := sorted_num wf h4 hy1 hy2
    subst hys
    refine q a _ (fresh_back e2 ha) (e2.trans (Ex.new ha)) ?_
    have e5 : (s.products.map fun q : Pr => (q.num : Int)).map V.int = iv (s.products.map fun q : Pr => q.num) := by
      rw [iv, List.map_map, List.map_map]
      rfl
    rw [upd_same, e5]
/-! ### Pool.needing(self, owner) -/
abbrev sNeeding : Stmt := inClass (top 45) 20
theorem scNeeding : FnScope ["self", "owner", "number", "needs", "worth"] ["self", "owner"] (defScope sNeeding) := ⟨rfl, rfl, rfl, by decide +kernel, rfl, by decide +kernel, by decide +kernel⟩
theorem ok_needing (T : Txt K mg C) (F : DefM K C "needing" "Pool.needing" sNeeding) (Mp : Met P w K mg base C 1 "products" (spProducts K C)) (Mo : Met P w K mg base C 1 "is_owner" (PV (aIsOwner C))) (Ch : Cal P w K mg base 1 "has" (PV aHas)) : Met P w K mg base C 2 "needing" (spM C (A1 15)) := by
  refine F.met scNeeding (fun vs H Q E h => ?_) (fun _ _ _ _ _ _ us hl => match us, hl with | [_, _], _ => rfl) (fun cdv f A outer s H vs Q E hr h => ⟨_,
    pss_cons (ps_if (pt_not (pt_val (pe_m Mo T.cl hr (by decide) (pv 0) (pa_cons (pv 1) pa_nil)))) (pss_one (ps_ret (pe_lst (pa_cons (pe_k T.k3) pa_nil)))) pss_nil)
    (pss_one (ps_ret (pe_op op_cat (pe_lst (pa_cons pe_int pa_nil)) (pe_lc (own := [("number", 2), ("needs", 3), ("worth", 4)]) (g := gTup K 3 (gCons (gName 2) (gCons (gName 3) (gCons (gName 4) gNil)))) (by rfl) scNeeding.nd (pi_list (pe_m0 Mp T.cl hr (by decide) (pv 0))) (blkOk_by (own := [("number", 2), ("needs", 3), ("worth", 4)]) (N := ["self", "owner", "number", "needs", "worth"]) (sc := defScope sNeeding) (by decide +kernel))
      (fun _ _ _ _ _ => pg_tup rfl (pgs_cons (pg_name (i := 2) scNeeding.nd rfl (Or.inl rfl)) (pgs_cons (pg_name (i := 3) scNeeding.nd rfl (Or.inl rfl)) (pgs_cons (pg_name (i := 4) scNeeding.nd rfl (Or.inl rfl)) pgs_nil))))
      (fun _ _ _ _ _ => pts_one (pt_val (pe_c Ch hr (by decide) (pa_cons (pv 3) (pa_cons (pv 1) pa_nil))))) (fun _ _ _ _ _ => pv 2))))), ?_⟩)
  · obtain ⟨p, d, s, r, rest, rfl, _, _, ⟨x, rfl, _⟩, _⟩ := h
    rfl
  · obtain ⟨p, d, s, r, rest, rfl, hp, wf, ⟨m, rfl, rfl⟩, k⟩ := h
    have k := ro hp (My.step_owner s m) k
    have hfew := wf.few
    refine q_when (et_not (et_B (ev_isOwner (ev_var rfl) (ev_var rfl) hp))) (fun hb H1 e1 => ?_) (fun hb H1 e1 => ?_)
    · have hn : ¬ My.inOwn s.n m := by simpa using hb
      rw [if_neg hn] at k
      exact s_retL (el_lst (ea_cons ev_c ea_nil) (by decide)) fun l H2 hl e2 h2 => k.go e1 hl e2 h2
    · have hy : My.inOwn s.n m := by simpa using hb
      rw [if_pos hy, cons_map] at k
      obtain ⟨j, rfl, hj, hjn⟩ := own_of hy
      rw [hj] at k
      have hxs : iv ((s.products.filter fun p => p.need.testBit j).map fun p => p.num) = (s.products.filter fun p => p.need.testBit j).map fun q => V.int (q.num : Int) := by
        rw [iv, List.map_map]
        rfl
      rw [hxs] at k
      refine s_retL (el_cat (el_lst (ea_cons ev_c ea_nil) (by decide)) (el_prodsR (fun q => q.need.testBit j) (fun q => V.int (q.num : Int)) (fun q => [some (.ref p), some (.int (j : Int)), some (.int (q.num : Int)), some (.int (q.need : Int)), some (.int (q.worth : Int))]) (er_products (T := T) (ev_var rfl) (hp.mono e1) wf) (by omega) (fun _ => rfl) (fun _ => rfl)
        (fun q _ H' _ => et_B (ev_cv (ea_cons (ev_var rfl) (ea_cons (ev_var rfl) ea_nil)) fun H1 _ => ⟨q.need, j, rfl, rfl⟩)) (fun q _ H' _ _ => ev_var rfl)) ?_) fun l H2 hl e2 h2 => k.go e1 hl e2 h2
      have := List.length_filter_le (fun q : Pr => q.need.testBit j) s.products
      rw [List.length_map]
      show 1 + _ ≤ 100000
      omega
/-! ### Pool.gap(self, owners, shares) -/
abbrev sGap : Stmt := inClass (top 45) 21
theorem scGap : FnScope ["self", "owners", "shares", "more"] ["self", "owners", "shares"] (defScope sGap) := ⟨rfl, rfl, rfl, by decide +kernel, rfl, by decide +kernel, by decide +kernel⟩
theorem ok_gap (B : Bt mg) (T : Txt K mg C) (F : DefM K C "gap" "Pool.gap" sGap) (Mp : Met P w K mg base C 1 "products" (spProducts K C)) (Ms : Met P w K mg base C 2 "is_set" (PV (aIsSet C))) (Ma : Met P w K mg base C 1 "are_shares" (PV (aAreShares K C))) (Cs : Cal P w K mg base 2 "summed" (PV (aSummed K)))
    (Ca : Cal P w K mg base 2 "alone" (PV (aAlone K))) : Met P w K mg base C 3 "gap" (spM C (A1L K 16)) := by
  refine F.met scGap (fun vs H Q E h => ?_) (fun _ _ _ _ _ _ us hl => match us, hl with | [_, _, _], _ => rfl) (fun cdv f A outer s H vs Q E hr h => ⟨_,
    pss_cons (ps_if (pt_not (pt_val (pe_m Ms T.cl hr (by decide) (pv 0) (pa_cons (pv 1) pa_nil)))) (pss_one (ps_ret (pe_lst (pa_cons (pe_k T.k3) pa_nil)))) pss_nil)
    (pss_cons (ps_if (pt_not (pt_val (pe_m Ma T.cl hr (by decide) (pv 0) (pa_cons (pv 2) pa_nil)))) (pss_one (ps_ret (pe_lst (pa_cons (pe_k T.k4) pa_nil)))) pss_nil)
    (pss_cons (ps_set (i := 3) scGap.nd rfl (.inl rfl) (pe_op op_sub (pe_c Cs hr (by decide) (pa_cons (pv 1) (pa_cons (pv 2) pa_nil))) (pe_c Ca hr (by decide) (pa_cons (pe_m0 Mp T.cl hr (by decide) (pv 0)) (pa_cons (pv 1) pa_nil)))))
    (pss_one (ps_ret (pe_lst (pa_cons (pe_callTy call_int1 (by rfl) B.int (by decide +kernel) (pa_cons (pe_cmpR op_lt (pv 3) pe_int (nomark _)) pa_nil)) (pa_cons (pv 3) pa_nil))))))), ?_⟩)
  · obtain ⟨p, d, s, r, rest, rfl, _, _, ⟨a, m, x, rfl, _⟩, _⟩ := h
    rfl
  · obtain ⟨p, d, s, r, rest, rfl, hp, wf, ⟨a, m, x, rfl, hx, h20, rfl⟩, k⟩ := h
    have k := ro hp (My.step_gap s m x) k
    have h8 := wf.n8
    refine q_when (et_not (et_B (ev_isSet (ev_var rfl) (ev_var rfl) hp wf))) (fun hb H1 e1 => ?_) (fun hb H1 e1 => ?_)
    · have hn : ¬ My.inSet s.n m := by simpa using hb
      rw [if_neg hn] at k
      exact s_retL (el_lst (ea_cons ev_c ea_nil) (by decide)) fun l H2 hl e2 h2 => k.go e1 hl e2 h2
    · have hy : My.inSet s.n m := by simpa using hb
      rw [if_pos hy] at k
      obtain ⟨q, rfl, hq, _⟩ := nat_of hy
      rw [hq] at k
      refine q_when (et_not (et_B (ev_areShares (ev_var rfl) (ev_var rfl) (hp.mono e1) (ex_l e1 hx) h20))) (fun hb H2 e2 => ?_) (fun hb H2 e2 => ?_)
      · have hn : ¬ My.areShares s.n x := by simpa using hb
        rw [if_neg hn] at k
        exact s_retL (el_lst (ea_cons ev_c ea_nil) (by decide)) fun l H3 hl e3 h3 => k.go (e1.trans e2) hl e3 h3
      · have hy : My.areShares s.n x := by simpa using hb
        rw [if_pos hy, ← hy.1] at k
        have hxn := hy.1
        have e12 := e1.trans e2
        refine q_asg (v := .int (Vbptao.shareOf x.length x q - (Vbptao.value s.products q : Int))) (ev_sub (ev_cv (ea_cons (ev_var rfl) (ea_cons (ev_var rfl) ea_nil)) fun H3 e3 => ⟨q, a, x, rfl, ex_l (e12.trans e3) hx, by omega, rfl⟩) (ev_cR (er_products (T := T) (ev_var rfl) (hp.mono e12) wf) (ea_cons (ev_var rfl) ea_nil) pr_mono fun b H3 e3 hr3 => ⟨b, s.products, q, rfl, hr3, wf.few, rfl⟩)) fun H3 e3 => ?_
        refine s_retL (el_lst (vs := [.int (if decide (Vbptao.shareOf x.length x q - (Vbptao.value s.products q : Int) < 0) = true then 1 else 0), .int (Vbptao.shareOf x.length x q - (Vbptao.value s.products q : Int))]) (ea_cons (ev_int01 (ev_op (ev_var rfl) ev_c rv_I0)) (ea_cons (ev_var rfl) ea_nil)) (by show 2 ≤ 100000; decide)) fun l H4 hl e4 h4 => k.go (e12.trans e3) hl e4 ?_
        rw [h4]
        show some (HO.lst [V.int _, V.int _]) = some (HO.lst [V.int _, V.int _])
        by_cases c : 0 ≤ Vbptao.shareOf x.length x q - (Vbptao.value s.products q : Int)
        · rw [if_pos c, if_neg (by rw [decide_eq_true_eq]; omega)]
        · rw [if_neg c, if_pos (by rw [decide_eq_true_eq]; omega)]
/-! ### Pool.apart(self) -/
abbrev sApart : Stmt := inClass (top 45) 22
theorem scApart : FnScope ["self"] ["self"] (defScope sApart) := ⟨rfl, rfl, rfl, by decide +kernel, rfl, by decide +kernel, by decide +kernel⟩
theorem ok_apart (T : Txt K mg C) (F : DefM K C "apart" "Pool.apart" sApart) (Mp : Met P w K mg base C 1 "products" (spProducts K C)) (Cp : Cal P w K mg base 3 "parts" (PL (aParts K))) : Met P w K mg base C 4 "apart" (spM C (A0 17)) := by
  refine F.met scApart (fun vs H Q E h => ?_) (fun _ _ _ _ _ _ us hl => match us, hl with | [_], _ => rfl) (fun cdv f A outer s H vs Q E hr h => ⟨_,
    pss_one (ps_ret (pe_op op_cat (pe_lst (pa_cons pe_int pa_nil)) (pe_c Cp hr (by decide) (pa_cons (pe_m0 Mp T.cl hr (by decide) (pv 0)) (pa_cons (pe_fld (pv 0) rfl) pa_nil))))), ?_⟩)
  · obtain ⟨p, d, s, r, rest, rfl, _, _, ⟨rfl, _⟩, _⟩ := h
    rfl
  · obtain ⟨p, d, s, r, rest, rfl, hp, wf, ⟨rfl, rfl⟩, k⟩ := h
    have k := ro hp (My.step_apart s) k
    have h8 := wf.n8
    have hal := apart_len s s.n
    rw [cons_map] at k
    exact s_retL (el_cat (el_lst (ea_cons ev_c ea_nil) (by decide)) (el_cR (er_products (T := T) (ev_var rfl) hp wf) (ea_cons (ev_many T (ev_var rfl) hp) ea_nil) pr_mono fun a H2 e2 hr2 => ⟨a, s, rfl, hr2, wf.lt, h8, rfl⟩) (by rw [iv, List.length_map]; show 1 + _ ≤ 100000; omega)) k
end
end Ro

set_option Elab.async false
set_option linter.all false
set_option maxRecDepth 100000
set_option maxHeartbeats 2000000
namespace Ro
open PySem PySem.Spec PyProof.Rows L2 Evl
/-! ### the dict changed -/
theorem kvE_put {es : List Ent} {q : Pr} {t : Addr} (h : valV (kvE es) (Sum.inl (q.num : Int)) = none) : putK (kvE es) (Sum.inl (q.num : Int)) (.ref t) = kvE (es ++ [(q, t)]) := by
  rw [putK_new _ h]
  unfold kvE
  rw [List.map_append]
  rfl
theorem kvE_drop (es : List Ent) (k : Nat) : dropK (kvE es) (Sum.inl (k : Int)) = kvE (es.filter fun e => e.1.num != k) := by
  unfold dropK kvE
  rw [List.filter_map]
  congr 1
  apply List.filter_congr
  intro e _
  rw [Bool.eq_iff_iff, Function.comp_apply, decide_eq_true_eq, bne_iff_ne]
  exact not_congr ⟨fun h => by have := Sum.inl.inj h; omega, fun h => by rw [h]⟩
theorem merge_app : ∀ (more acc : List Ent), ((acc ++ more).map fun e => e.1.num).Nodup → mergeK (kvE acc) (kvE more) = kvE (acc ++ more)
  | [], acc, _ => by rw [List.append_nil]; rfl
  | e :: more, acc, h => by
    have e1 : mergeK (kvE acc) (kvE (e :: more)) = mergeK (putK (kvE acc) (Sum.inl (e.1.num : Int)) (.ref e.2)) (kvE more) := rfl
    have hn : valV (kvE acc) (Sum.inl (e.1.num : Int)) = none := by
      refine kvE_none fun x hx q => ?_
      rw [List.map_append, List.nodup_append] at h
      exact h.2.2 x.1.num (List.mem_map_of_mem (f := fun e : Ent => e.1.num) hx) e.1.num (by rw [List.map_cons]; exact List.mem_cons_self) (by omega)
    rw [e1, kvE_put hn]
    have e2 : acc ++ e :: more = (acc ++ [e]) ++ more := by rw [List.append_assoc]; rfl
    rw [e2] at h ⊢
    exact merge_app more (acc ++ [e]) h
/-- d[k] = a new tuple -/
theorem q_dputU {σ : L2.St} {H : Hp} {td ty tv : TE} {D : Ends} {tz : TS} {xs : List V} {d : Addr} {k : Int} {kvs : List (Key × V)} (hv : EvU tv σ H xs) (hd : Ev td σ H (.ref d)) (hk : Ev ty σ H (.int k)) (hD : H d = some (.dK kvs)) (hl : kvs.length < 100000)
    (q : ∀ t H1, H t = none → Ex H H1 → H1 t = some (.tup xs) → tz D σ (upd H1 d (.dK (putK kvs (Sum.inl k) (.ref t))))) : tSeq (sDPut td ty tv) tz D σ H :=
  hv H (Ex.refl H) _ fun t H1 ht e1 h1 => hd H1 e1 _ fun H2 e2 => hk H2 (e1.trans e2) _ fun H3 e3 => ⟨d, _, rfl, DPut.k (k := Sum.inl k) (((e1.trans e2).trans e3) _ _ hD) (sz_lt hl), q t H3 ht ((e1.trans e2).trans e3) ((e2.trans e3) _ _ h1)⟩
section
variable {P : Program} {w : World} {K : PySem.W.Frag} {mg : Str → Option Value} {base : Heap} {C : Addr}
/-! ### Pool.__init__(self) -/
abbrev sInit : Stmt := inClass (top 45) 0
def spInit (C : Addr) : Sp := fun vs H Q _ => ∃ (p dx : Addr), vs = [.ref p] ∧ H p = some (.ins C dx []) ∧ ∀ d H', H d = none → (∀ b o, H b = some o → b ≠ p → H' b = some o) → PoolAt C H' p d Vbptao.start → Q .non H'
theorem scInit : FnScope ["self"] ["self"] (defScope sInit) := ⟨rfl, rfl, rfl, by decide +kernel, rfl, by decide +kernel, by decide +kernel⟩
theorem ok_init (T : Txt K mg C) {f : Addr} {fd : FuncData} (F : L2.Fun K "__init__" "Pool.__init__" sInit f fd) : FnOk P w K mg base CX0 1 f fd ["self"] (spInit C) := by
  refine F.ok scInit (fun vs H Q E h => ?_) (fun cdv A outer s H vs Q E hr h => ⟨_,
    pss_cons (ps_fld (pv 0) pe_int rfl) (pss_one (ps_fld (pv 0) pe_dnewK rfl)), ?_⟩)
  · obtain ⟨p, dx, rfl, _⟩ := h
    rfl
  · obtain ⟨p, dx, rfl, hp, k⟩ := h
    refine ⟨_, rfl, p, C, dx, [], rfl, hp, T.cl, T.nM, by show 0 < 1000; decide, ?_⟩
    intro d hd
    have hdp : d ≠ p := fun z => by rw [z, upd_same] at hd; cases hd
    have hd0 : H d = none := by rwa [upd_ne hdp] at hd
    refine ⟨_, rfl, p, C, dx, _, rfl, by rw [upd_ne (Ne.symm hdp)]; exact upd_same, T.cl, T.nK, by show 1 < 1000; decide, ?_⟩
    refine k d _ hd0 (fun b o hb hbp => ?_) ⟨dx, [], ?_, ?_, fun e he => (nomatch he), .nil⟩
    · rw [upd_ne hbp, upd_ne (ne_of_none hb hd0), upd_ne hbp]
      exact hb
    · rw [upd_same]
      exact congrArg (fun z => some (HO.ins C dx z)) ((put_past (by decide +kernel)).trans rfl)
    · rw [upd_ne hdp, upd_same]
      rfl
/-! ### Pool.begin(self, n) -/
abbrev sBegin : Stmt := inClass (top 45) 5
theorem scBegin : FnScope ["self", "n"] ["self", "n"] (defScope sBegin) := ⟨rfl, rfl, rfl, by decide +kernel, rfl, by decide +kernel, by decide +kernel⟩
theorem ok_begin (T : Txt K mg C) (F : DefM K C "begin" "Pool.begin" sBegin) : Met P w K mg base C 1 "begin" (spM C (A1 0)) := by
  refine F.met scBegin (fun vs H Q E h => ?_) (fun _ _ _ _ _ _ us hl => match us, hl with | [_, _], _ => rfl) (fun cdv f A outer s H vs Q E hr h => ⟨_,
    pss_cons (ps_if (pt_not (pt_chain op_le op_le pe_int (pv 1) (pe_k T.kMO))) (pss_one (ps_ret (pe_lst (pa_cons (pe_k T.k3) pa_nil)))) pss_nil)
    (pss_cons (ps_fld (pv 0) (pv 1) rfl)
    (pss_cons (ps_fld (pv 0) pe_dnewK rfl)
    (pss_one (ps_ret (pe_lst (pa_cons pe_int pa_nil)))))), ?_⟩)
  · obtain ⟨p, d, s, r, rest, rfl, _, _, ⟨x, rfl, _⟩, _⟩ := h
    rfl
  · obtain ⟨p, d, s, r, rest, rfl, hp, wf, ⟨m, rfl, rfl⟩, k⟩ := h
    refine q_when (b := !(decide (1 ≤ m) && decide (m ≤ 8))) (et_not (et_test (ev_chain ev_c (ev_var rfl) rv_I0 (fun _ => ev_c) (fun _ => rv_I0)))) (fun hb H1 e1 => ?_) (fun hb H1 e1 => ?_)
    · have hn : ¬ (1 ≤ m ∧ m ≤ 8) := by
        rintro ⟨g1, g2⟩
        rw [decide_eq_true g1, decide_eq_true g2] at hb
        cases hb
      have k := ro hp ((My.step_pool s m).trans (if_neg hn)) k
      exact s_retL (el_lst (ea_cons ev_c ea_nil) (by decide)) fun l H2 hl e2 h2 => k.go e1 hl e2 h2
    · have hy : 1 ≤ m ∧ m ≤ 8 := by
        rw [Bool.not_eq_false', Bool.and_eq_true, decide_eq_true_eq, decide_eq_true_eq] at hb
        exact hb
      rw [My.step_pool, if_pos hy] at k
      obtain ⟨dx, es, h1, h2, h3, h4⟩ := (hp.mono e1).ex
      obtain ⟨n, rfl⟩ : ∃ n : Nat, m = (n : Int) := ⟨m.toNat, by omega⟩
      refine ⟨_, rfl, _, rfl, p, C, dx, poolF s.n d, rfl, h1, T.cl, T.nM, by show 2 < 1000; decide, ?_⟩
      rw [poolF_putMany]
      intro d' hd'
      have hdp : d' ≠ p := fun z => by rw [z, upd_same] at hd'; cases hd'
      have hd0 : H1 d' = none := by rwa [upd_ne hdp] at hd'
      refine ⟨_, rfl, p, C, dx, _, rfl, by rw [upd_ne (Ne.symm hdp)]; exact upd_same, T.cl, T.nK, by show 2 < 1000; decide, ?_⟩
      rw [poolF_putKnown]
      refine s_retL (σ := L2.start ["self", "n"] [.ref p, .int (n : Int)]) (el_lst (vs := [.int 0]) (ea_cons ev_c ea_nil) (by decide)) fun l H2 hl e2 hl2 => ?_
      have hfr : FrP p d H H2 := fun b o hb hbp hbd => e2 _ _ (by rw [upd_ne hbp, upd_ne (ne_of_none (e1 _ _ hb) hd0), upd_ne hbp]; exact e1 _ _ hb)
      have hl0 : H l = none := by
        cases c : H l with
        | none => rfl
        | some o =>
          by_cases q : l = p
          · rw [q, upd_same] at hl
            cases hl
          · rw [upd_ne q, upd_ne (ne_of_none (e1 _ _ c) hd0), upd_ne q, e1 _ _ c] at hl
            cases hl
      refine k l d' H2 hl0 (.inr (fresh_back e1 hd0)) hfr ⟨dx, [], e2 _ _ (by rw [upd_same]; rfl), e2 _ _ (by rw [upd_ne hdp, upd_same]; rfl), fun e he => (nomatch he), .nil⟩ hl2
/-! ### Pool.product(self, k, needs, worth) -/
abbrev sProduct : Stmt := inClass (top 45) 6
theorem scProduct : FnScope ["self", "k", "needs", "worth"] ["self", "k", "needs", "worth"] (defScope sProduct) := ⟨rfl, rfl, rfl, by decide +kernel, rfl, by decide +kernel, by decide +kernel⟩
theorem ev_lenD {σ : L2.St} {H : Hp} {ta : TE} {d : Addr} {kvs : List (Key × V)} (h : Ev ta σ H (.ref d)) (hd : H d = some (.dK kvs)) : Ev (tCB (fun xs H Q => ∃ a kvs, xs = [V.ref a] ∧ H a = some (.dK kvs) ∧ Q (.int kvs.length) H) (tCons ta tNil)) σ H (.int (kvs.length : Int)) := fun H1 e Q q =>
  h H1 e _ fun H2 e2 => ⟨d, kvs, rfl, e2 _ _ (e _ _ hd), q H2 e2⟩
theorem kvE_len (es : List Ent) : (kvE es).length = es.length := by
  unfold kvE
  rw [List.length_map]
theorem ok_product (B : Bt mg) (T : Txt K mg C) (F : DefM K C "product" "Pool.product" sProduct) (Ms : Met P w K mg base C 2 "is_set" (PV (aIsSet C))) : Met P w K mg base C 3 "product" (spM C (A3 1)) := by
  refine F.met scProduct (fun vs H Q E h => ?_) (fun _ _ _ _ _ _ us hl => match us, hl with | [_, _, _, _], _ => rfl) (fun cdv f A outer s H vs Q E hr h => ⟨_,
    pss_cons (ps_if (PW.pt (pw_or (pt_not (pt_chain op_le op_le pe_int (pv 1) (pe_k T.kGN))) (pw_or (pt_not (pt_val (pe_m Ms T.cl hr (by decide) (pv 0) (pa_cons (pv 2) pa_nil)))) (pw_or (pt_cmpR op_eq (pv 2) pe_int (nomark _)) (pw_or1 (pt_not (pt_chain op_le op_le pe_int (pv 3) (pe_k T.kGW)))))))) (pss_one (ps_ret (pe_lst (pa_cons (pe_k T.k3) pa_nil)))) pss_nil)
    (pss_cons (ps_if (pt_cmp (pc_din (hu_of hr) (pv 1) (pe_fld (pv 0) rfl)) rfl) (pss_one (ps_ret (pe_lst (pa_cons (pe_k T.k6) pa_nil)))) pss_nil)
    (pss_cons (ps_if (pt_cmpR op_eq (pe_callB call_lenD (by rfl) B.len PySem.boot_len (pa_cons (pe_fld (pv 0) rfl) pa_nil)) (pe_k T.kMP) (nomark _)) (pss_one (ps_ret (pe_lst (pa_cons (pe_k T.k9) pa_nil)))) pss_nil)
    (pss_cons (ps_dput (hu_of hr) (pe_fld (pv 0) rfl) (pv 1) (pe_tup (pa_cons (pv 2) (pa_cons (pv 3) pa_nil))) rfl)
    (pss_one (ps_ret (pe_lst (pa_cons (pe_callB call_lenD (by rfl) B.len PySem.boot_len (pa_cons (pe_fld (pv 0) rfl) pa_nil)) pa_nil))))))), ?_⟩)
  · obtain ⟨p, d, s, r, rest, rfl, _, _, ⟨x, y, z, rfl, _⟩, _⟩ := h
    rfl
  · obtain ⟨p, d, s, r, rest, rfl, hp, wf, ⟨kk, m, z, rfl, rfl⟩, k⟩ := h
    refine q_when (b := !(decide (1 ≤ kk) && decide (kk ≤ 99)) || (!decide (My.inSet s.n m) || (decide (m = 0) || !(decide (0 ≤ z) && decide (z ≤ 1000000000)))))
      (et_or (et_not (et_test (ev_chain ev_c (ev_var rfl) rv_I0 (fun _ => ev_c) (fun _ => rv_I0)))) fun _ => et_or (et_not (et_B (ev_isSet (ev_var rfl) (ev_var rfl) hp wf))) fun _ => et_or (et_test (ev_eqI (ev_var rfl) ev_c)) fun _ => et_not (et_test (ev_chain ev_c (ev_var rfl) rv_I0 (fun _ => ev_c) (fun _ => rv_I0)))) (fun hb H1 e1 => ?_) (fun hb H1 e1 => ?_)
    · have hn : ¬ ((1 ≤ kk ∧ kk ≤ 99) ∧ (1 ≤ m ∧ m ≤ (Vbptao.full s.n : Int)) ∧ (0 ≤ z ∧ z ≤ 1000000000)) := by
        rintro ⟨⟨g1, g2⟩, ⟨g3, g4⟩, g5, g6⟩
        rw [decide_eq_true g1, decide_eq_true g2, decide_eq_true (show My.inSet s.n m from ⟨by omega, g4⟩), decide_eq_true g5, decide_eq_true g6, decide_eq_false (show ¬ m = 0 by omega)] at hb
        cases hb
      have k := ro hp ((My.step_product s kk m z).trans (if_neg hn)) k
      exact s_retL (el_lst (ea_cons ev_c ea_nil) (by decide)) fun l H2 hl e2 h2 => k.go e1 hl e2 h2
    · have hy : (1 ≤ kk ∧ kk ≤ 99) ∧ (1 ≤ m ∧ m ≤ (Vbptao.full s.n : Int)) ∧ (0 ≤ z ∧ z ≤ 1000000000) := by
        rw [Bool.or_eq_false_iff, Bool.or_eq_false_iff, Bool.or_eq_false_iff, Bool.not_eq_false', Bool.not_eq_false', Bool.not_eq_false', Bool.and_eq_true, Bool.and_eq_true, decide_eq_true_eq, decide_eq_true_eq, decide_eq_true_eq, decide_eq_true_eq, decide_eq_true_eq, decide_eq_false_iff_not] at hb
        obtain ⟨g1, ⟨g2, g3⟩, g4, g5⟩ := hb
        exact ⟨g1, ⟨by omega, g3⟩, g5⟩
      have hstep := (My.step_product s kk m z).trans (if_pos hy)
      obtain ⟨dx, es, h1, h2, h3, h4⟩ := (hp.mono e1).ex
      have hlen := es_len h4
      have hfew := wf.few
      obtain ⟨kn, rfl⟩ : ∃ n : Nat, kk = (n : Int) := ⟨kk.toNat, by omega⟩
      obtain ⟨mn, rfl⟩ : ∃ n : Nat, m = (n : Int) := ⟨m.toNat, by omega⟩
      obtain ⟨zn, rfl⟩ : ∃ n : Nat, z = (n : Int) := ⟨z.toNat, by omega⟩
      have hpa : My.prodAt s (kn : Int) = Vbptao.productAt s kn := by
        unfold My.prodAt
        rw [if_neg (by omega), Int.toNat_natCast]
      rw [Int.toNat_natCast] at hstep
      have hlook := es_look wf h4 (kn : Int)
      rw [hpa] at hlook
      refine q_when (et_B (ev_din (ev_var rfl) (ev_known T (ev_var rfl) (hp.mono e1)) h2)) (fun hb H2 e2 => ?_) (fun hb H2 e2 => ?_)
      · have hsome : ¬ (Vbptao.productAt s kn).isNone = true := by
          rcases hlook with ⟨e, he, g1, g2⟩ | ⟨g1, g2⟩
          · rw [g1]
            exact Bool.false_ne_true
          · rw [g2] at hb
            cases hb
        have k := ro hp (hstep.trans (if_neg hsome)) k
        exact s_retL (el_lst (ea_cons ev_c ea_nil) (by decide)) fun l H3 hl e3 h3 => k.go (e1.trans e2) hl e3 h3
      · obtain ⟨g1, g2⟩ : Vbptao.productAt s kn = none ∧ valV (kvE es) (Sum.inl (kn : Int)) = none := by
          rcases hlook with ⟨e, he, g1, g2⟩ | g
          · rw [g2] at hb
            cases hb
          · exact g
        have hnone : (Vbptao.productAt s kn).isNone = true := by rw [g1]; rfl
        rw [if_pos hnone] at hstep
        refine q_when (b := decide ((es.length : Int) = 16)) (et_test (ev_eqI (ev_is (ev_lenD (ev_known T (ev_var rfl) (hp.mono (e1.trans e2))) (e2 _ _ h2)) (by rw [kvE_len])) ev_c)) (fun hb H3 e3 => ?_) (fun hb H3 e3 => ?_)
        · have hc : ¬ s.products.length < 16 := by have := of_decide_eq_true hb; omega
          have k := ro hp (hstep.trans (if_neg hc)) k
          exact s_retL (el_lst (ea_cons ev_c ea_nil) (by decide)) fun l H4 hl e4 h4 => k.go ((e1.trans e2).trans e3) hl e4 h4
        · have hc : s.products.length < 16 := by have := of_decide_eq_false hb; omega
          rw [if_pos hc] at hstep
          rw [hstep] at k
          have e13 := (e1.trans e2).trans e3
          refine q_dputU (xs := [.int (mn : Int), .int (zn : Int)]) (eu_tup (ea_cons (ev_var rfl) (ea_cons (ev_var rfl) ea_nil)) (by show 2 ≤ 100000; decide)) (ev_known T (ev_var rfl) (hp.mono e13)) (ev_var rfl) ((e2.trans e3) _ _ h2) (by rw [kvE_len]; omega) fun t H5 ht e45 ht5 => ?_
          have e25 := (e2.trans e3).trans e45
          have hd5 := e25 _ _ h2
          have hput := kvE_put (q := { num := kn, need := mn, worth := zn }) (t := t) g2
          rw [hput]
          have hpd : p ≠ d := ne_of (e25 _ _ h1) hd5 (by intro z; cases z)
          have hnew : PoolAt C (upd H5 d (.dK (kvE (es ++ [({ num := kn, need := mn, worth := zn }, t)])))) p d { s with products := Vbptao.putProduct { num := kn, need := mn, worth := zn } s.products } := by
            refine ⟨dx, _, by rw [upd_ne hpd]; exact e25 _ _ h1, upd_same, fun e he => ?_, ?_⟩
            · have hte : H5 e.2 = some (.tup [.int (e.1.need : Int), .int (e.1.worth : Int)]) := by
                rcases List.mem_append.mp he with q | q
                · exact e25 _ _ (h3 e q)
                · rw [List.mem_singleton] at q
                  subst q
                  exact ht5
              rw [upd_ne (ne_of hte hd5 (by intro z; cases z))]
              exact hte
            · rw [List.map_append]
              refine (List.perm_append_comm.trans (h4.cons _)).trans (My.put_perm _ _).symm
          refine s_retL (σ := L2.start ["self", "k", "needs", "worth"] [.ref p, .int (kn : Int), .int (mn : Int), .int (zn : Int)]) (el_lst (vs := [.int ((s.products.length + 1 : Nat) : Int)]) (ea_cons (ev_is (ev_lenD (ev_known T (ev_var rfl) hnew) upd_same) (by rw [kvE_len, List.length_append, hlen]; rfl)) ea_nil) (by show 1 ≤ 100000; decide)) fun l H6 hl e6 hl6 => ?_
          have hfr : FrP p d H H6 := fun b o hb' hbp hbd => e6 _ _ (by rw [upd_ne hbd]; exact e25 _ _ (e1 _ _ hb'))
          have hl0 : H l = none := by
            cases c : H l with
            | none => rfl
            | some o =>
              by_cases q : l = d
              · rw [q, upd_same] at hl
                cases hl
              · rw [upd_ne q, e25 _ _ (e1 _ _ c)] at hl
                cases hl
          exact k l d H6 hl0 (.inl rfl) hfr (by rw [Int.toNat_natCast, Int.toNat_natCast]; exact hnew.mono e6) hl6
end
end Ro

set_option Elab.async false
set_option linter.all false
set_option maxRecDepth 100000
set_option maxHeartbeats 2000000
namespace Ro
open PySem PySem.Spec PyProof.Rows L2 Evl
/-- d.pop(k), there -/
theorem q_dpop {σ : L2.St} {H : Hp} {td ty : TE} {D : Ends} {tz : TS} {d : Addr} {k : Int} {kvs : List (Key × V)} {v : V} (hd : Ev td σ H (.ref d)) (hk : Ev ty σ H (.int k)) (hD : H d = some (.dK kvs)) (hv : valV kvs (Sum.inl k) = some v)
    (q : ∀ H1, Ex H H1 → tz D σ (upd H1 d (.dK (dropK kvs (Sum.inl k))))) : tSeq (tDrop (tDPop1 td ty)) tz D σ H :=
  hd H (Ex.refl H) _ fun H1 e1 => ⟨d, rfl, .inl ⟨kvs, .inl (e1 _ _ hD)⟩, hk H1 e1 _ fun H2 e2 => ⟨kvs, Sum.inl k, v, (e1.trans e2) _ _ hD, rfl, hv, q H2 (e1.trans e2)⟩⟩
section
variable {P : Program} {w : World} {K : PySem.W.Frag} {mg : Str → Option Value} {base : Heap} {C : Addr}
/-! ### Pool.drop(self, k) -/
abbrev sDrop : Stmt := inClass (top 45) 7
theorem scDrop : FnScope ["self", "k"] ["self", "k"] (defScope sDrop) := ⟨rfl, rfl, rfl, by decide +kernel, rfl, by decide +kernel, by decide +kernel⟩
theorem kvE_nodup {s : Vbptao.State} {es : List Ent} (wf : My.WF s) (hp : (es.map (·.1)).Perm s.products) : ((kvE es).map (·.1)).Nodup := by
  have h := es_nodup wf hp
  rw [kvE_keys, List.Nodup, List.pairwise_map, List.pairwise_map]
  rw [List.Nodup, List.pairwise_map] at h
  exact h.imp fun h e => h (by have := Sum.inl.inj e; omega)
theorem ok_drop (B : Bt mg) (T : Txt K mg C) (F : DefM K C "drop" "Pool.drop" sDrop) : Met P w K mg base C 1 "drop" (spM C (A1 2)) := by
  refine F.met scDrop (fun vs H Q E h => ?_) (fun _ _ _ _ _ _ us hl => match us, hl with | [_, _], _ => rfl) (fun cdv f A outer s H vs Q E hr h => ⟨_,
    pss_cons (ps_if (pt_cmp (pc_dnotin (hu_of hr) (pv 1) (pe_fld (pv 0) rfl)) rfl) (pss_one (ps_ret (pe_lst (pa_cons (pe_k T.k5) pa_nil)))) pss_nil)
    (pss_cons (ps_expr (pe_dpop1 (pe_fld (pv 0) rfl) (pv 1) ⟨rfl, rfl, rfl, rfl⟩))
    (pss_one (ps_ret (pe_lst (pa_cons (pe_callB call_lenD (by rfl) B.len PySem.boot_len (pa_cons (pe_fld (pv 0) rfl) pa_nil)) pa_nil))))), ?_⟩)
  · obtain ⟨p, d, s, r, rest, rfl, _, _, ⟨x, rfl, _⟩, _⟩ := h
    rfl
  · obtain ⟨p, d, s, r, rest, rfl, hp, wf, ⟨m, rfl, rfl⟩, k⟩ := h
    have hstep := My.step_drop s m
    obtain ⟨dx, es, h1, h2, h3, h4⟩ := id hp.ex
    have hlen := es_len h4
    refine q_when (et_B (ev_dnotin (ev_var rfl) (ev_known T (ev_var rfl) hp) h2)) (fun hb H1 e1 => ?_) (fun hb H1 e1 => ?_)
    · rcases es_look wf h4 m with ⟨e, he, g1, g2⟩ | ⟨g1, g2⟩
      · rw [g2] at hb
        cases hb
      · rw [g1] at hstep
        have k := ro hp hstep k
        exact s_retL (el_lst (ea_cons ev_c ea_nil) (by decide)) fun l H2 hl e2 h2 => k.go e1 hl e2 h2
    · rcases es_look wf h4 m with ⟨e, he, g1, g2⟩ | ⟨g1, g2⟩
      · rw [g1] at hstep
        rw [hstep] at k
        obtain ⟨_, hnum⟩ := prodAt_some g1
        subst hnum
        refine q_dpop (ev_known T (ev_var rfl) (hp.mono e1)) (ev_var rfl) (e1 _ _ h2) g2 fun H2 e2 => ?_
        have e12 := e1.trans e2
        have hdl := dropK_len (kvE_nodup wf h4) (valV_in g2)
        rw [kvE_len, hlen] at hdl
        rw [kvE_drop, kvE_len] at hdl
        rw [kvE_drop]
        have hq : (es.filter fun x => x.1.num != e.1.num).length = s.products.length - 1 := by omega
        have hpd : p ≠ d := ne_of h1 h2 (by intro z; cases z)
        have hnew : PoolAt C (upd H2 d (.dK (kvE (es.filter fun x => x.1.num != e.1.num)))) p d { s with products := s.products.filter fun q => q.num != e.1.num } := by
          refine ⟨dx, _, by rw [upd_ne hpd]; exact e12 _ _ h1, upd_same, fun x hx => ?_, ?_⟩
          · have hte := e12 _ _ (h3 x (List.mem_filter.mp hx).1)
            rw [upd_ne (ne_of hte (e12 _ _ h2) (by intro z; cases z))]
            exact hte
          · have := h4.filter fun q => q.num != e.1.num
            rwa [List.filter_map] at this
        refine s_retL (σ := L2.start ["self", "k"] [.ref p, .int (e.1.num : Int)]) (el_lst (vs := [.int ((s.products.length - 1 : Nat) : Int)]) (ea_cons (ev_is (ev_lenD (ev_known T (ev_var (i := 0) rfl) hnew) upd_same) (by rw [kvE_len, hq])) ea_nil) (by show 1 ≤ 100000; decide)) fun l H3 hl e3 hl3 => ?_
        have hfr : FrP p d H H3 := fun b o hb' hbp hbd => e3 _ _ (by rw [upd_ne hbd]; exact e12 _ _ hb')
        have hl0 : H l = none := by
          cases c : H l with
          | none => rfl
          | some o =>
            by_cases q : l = d
            · rw [q, upd_same] at hl
              cases hl
            · rw [upd_ne q, e12 _ _ c] at hl
              cases hl
        exact k l d H3 hl0 (.inl rfl) hfr (hnew.mono e3) hl3
      · rw [g2] at hb
        cases hb
end
end Ro

set_option Elab.async false
set_option linter.all false
set_option maxRecDepth 100000
set_option maxHeartbeats 2000000
namespace Ro
open PySem PySem.Spec PyProof.Rows L2 Evl
/-! ### dict of a list of new pairs -/
def sqz (i j : Nat) (q : Pr) : Pr := { q with need := Vbptao.squeezed i j q.need }
def PairC (i j : Nat) (q : Pr) (t : Addr) (H : Hp) : Prop := ∃ t', H t = some (.tup [.int (q.num : Int), .ref t']) ∧ H t' = some (.tup [.int ((sqz i j q).need : Int), .int ((sqz i j q).worth : Int)])
theorem pairs_es {K : PySem.W.Frag} {i j : Nat} {H : Hp} : ∀ (l : List Pr) (ts : List Addr), RelTo (PairC i j) l H ts → ∃ es : List Ent, es.map (·.1) = l.map (sqz i j) ∧ Paired (fun p kv => SqT K H p [kV kv.1, kv.2]) ts (kvE es) ∧ ∀ e ∈ es, H e.2 = some (.tup [.int (e.1.need : Int), .int (e.1.worth : Int)])
  | [], [], _ => ⟨[], rfl, .nil, fun _ h => nomatch h⟩
  | [], _ :: _, h => nomatch h.1
  | _ :: _, [], h => nomatch h.1
  | q :: l, t :: ts, h => by
    obtain ⟨es, h1, h2, h3⟩ := pairs_es (K := K) l ts ⟨Nat.succ.inj h.1, fun n t' q' a b => h.2 (n + 1) t' q' a b⟩
    obtain ⟨t', g1, g2⟩ := h.2 0 t q rfl rfl
    refine ⟨(sqz i j q, t') :: es, by rw [List.map_cons, List.map_cons, h1], .cons (SqT.of g1) h2, fun e he => ?_⟩
    rcases List.mem_cons.mp he with c | c
    · subst c
      exact g2
    · exact h3 e c
section
variable {P : Program} {w : World} {K : PySem.W.Frag} {mg : Str → Option Value} {base : Heap} {C : Addr}
/-- a tuple of one value and of one new tuple -/
theorem et_tupU {σ : L2.St} {H : Hp} {ta tb : TE} {x : V} {xs : List V} (h1 : Ev ta σ H x) (h2 : EvU tb σ H xs) : ∀ H1, Ex H H1 → ∀ Q : VK, (∀ t t' H2, Ex H1 H2 → H2 t = some (.tup [x, .ref t']) → H2 t' = some (.tup xs) → Q (.ref t) H2) → tTup (tCons ta (tCons tb tNil)) σ H1 Q := fun H1 e Q q =>
  h1 H1 e _ fun H2 e2 => h2 H2 (e.trans e2) _ fun t' H3 ht' e3 h3 => by
    refine ⟨by show 2 ≤ sizeLine; exact sz_of (by decide), fun t ht => ?_⟩
    have e4 : Ex H3 (upd H3 t (.tup [x, .ref t'])) := Ex.new ht
    exact q t t' _ ((e2.trans e3).trans e4) upd_same (e4 _ _ h3)
/-! ### Pool.merge(self, owner, other) -/
abbrev sMerge : Stmt := inClass (top 45) 16
theorem scMerge : FnScope ["self", "owner", "other", "k", "needs", "worth"] ["self", "owner", "other"] (defScope sMerge) := ⟨rfl, rfl, rfl, by decide +kernel, rfl, by decide +kernel, by decide +kernel⟩
theorem ok_merge (B : Bt mg) (T : Txt K mg C) (F : DefM K C "merge" "Pool.merge" sMerge) (Mp : Met P w K mg base C 1 "products" (spProducts K C)) (Mo : Met P w K mg base C 1 "is_owner" (PV (aIsOwner C))) (Cm : Cal P w K mg base 2 "merged" (PV aMerged)) : Met P w K mg base C 3 "merge" (spM C (A2 11)) := by
  refine F.met scMerge (fun vs H Q E h => ?_) (fun _ _ _ _ _ _ us hl => match us, hl with | [_, _, _], _ => rfl) (fun cdv f A outer s H vs Q E hr h => ⟨_,
    pss_cons (ps_if (PW.pt (pw_or (pt_not (pt_val (pe_m Mo T.cl hr (by decide) (pv 0) (pa_cons (pv 1) pa_nil)))) (pw_or1 (pt_not (pt_val (pe_m Mo T.cl hr (by decide) (pv 0) (pa_cons (pv 2) pa_nil))))))) (pss_one (ps_ret (pe_lst (pa_cons (pe_k T.k3) pa_nil)))) pss_nil)
    (pss_cons (ps_if (pt_cmpR op_le (pv 2) (pv 1) (nomark _)) (pss_one (ps_ret (pe_lst (pa_cons (pe_k T.k7) pa_nil)))) pss_nil)
    (pss_cons (ps_fld (pv 0) (pe_callTy (call_dictP rfl) (by rfl) B.dict (by decide +kernel) (pa_cons
      (pe_lc (own := [("k", 3), ("needs", 4), ("worth", 5)]) (g := gTup K 3 (gCons (gName 3) (gCons (gName 4) (gCons (gName 5) gNil)))) (by rfl) scMerge.nd (pi_list (pe_m0 Mp T.cl hr (by decide) (pv 0))) (blkOk_by (own := [("k", 3), ("needs", 4), ("worth", 5)]) (N := ["self", "owner", "other", "k", "needs", "worth"]) (sc := defScope sMerge) (by decide +kernel))
      (fun _ _ _ _ _ => pg_tup rfl (pgs_cons (pg_name (i := 3) scMerge.nd rfl (Or.inl rfl)) (pgs_cons (pg_name (i := 4) scMerge.nd rfl (Or.inl rfl)) (pgs_cons (pg_name (i := 5) scMerge.nd rfl (Or.inl rfl)) pgs_nil))))
      (fun _ _ _ _ _ => pts_nil) (fun _ _ _ _ _ => pe_tup (pa_cons (pv 3) (pa_cons (pe_tup (pa_cons (pe_c Cm hr (by decide) (pa_cons (pv 4) (pa_cons (pv 1) (pa_cons (pv 2) pa_nil)))) (pa_cons (pv 5) pa_nil))) pa_nil)))) pa_nil)) rfl)
    (pss_cons (ps_fldaug (pv 0) pe_int in_sub)
    (pss_one (ps_ret (pe_lst (pa_cons (pe_fld (pv 0) rfl) pa_nil))))))), ?_⟩)
  · obtain ⟨p, d, s, r, rest, rfl, _, _, ⟨x, y, rfl, _⟩, _⟩ := h
    rfl
  · obtain ⟨p, d, s, r, rest, rfl, hp, wf, ⟨i', j', rfl, rfl⟩, k⟩ := h
    have hstep := My.step_merge s i' j'
    have h8 := wf.n8
    refine q_when (et_or (et_not (et_B (ev_isOwner (ev_var rfl) (ev_var rfl) hp))) fun _ => et_not (et_B (ev_isOwner (ev_var rfl) (ev_var rfl) hp))) (fun hb H1 e1 => ?_) (fun hb H1 e1 => ?_)
    · have hn : ¬ (My.inOwn s.n i' ∧ My.inOwn s.n j') := by
        rintro ⟨h1, h2⟩
        rw [decide_eq_true h1, decide_eq_true h2] at hb
        cases hb
      rw [if_neg hn] at hstep
      have k := ro hp hstep k
      exact s_retL (el_lst (ea_cons ev_c ea_nil) (by decide)) fun l H2 hl e2 h2 => k.go e1 hl e2 h2
    · rw [Bool.or_eq_false_iff, Bool.not_eq_false', Bool.not_eq_false', decide_eq_true_eq, decide_eq_true_eq] at hb
      rw [if_pos hb] at hstep
      obtain ⟨i, rfl, hi, hin⟩ := own_of hb.1
      obtain ⟨j, rfl, hj, hjn⟩ := own_of hb.2
      rw [hi, hj] at hstep
      refine q_when (b := decide ((j : Int) ≤ (i : Int))) (et_test (ev_op (ev_var rfl) (ev_var rfl) rv_I0)) (fun hc H2 e2 => ?_) (fun hc H2 e2 => ?_)
      · have hn : ¬ ((i : Int) < (j : Int)) := by have := of_decide_eq_true hc; omega
        rw [if_neg hn] at hstep
        have k := ro hp hstep k
        exact s_retL (el_lst (ea_cons ev_c ea_nil) (by decide)) fun l H3 hl e3 h3 => k.go (e1.trans e2) hl e3 h3
      · have hij : i < j := by have := of_decide_eq_false hc; omega
        rw [if_pos (by omega)] at hstep
        rw [hstep] at k
        have e12 := e1.trans e2
        obtain ⟨dx, es, h1, h2, h3, h4⟩ := id hp.ex
        have hfew := wf.few
        -- the list of pairs
        refine er_products (T := T) (ev_var (i := 0) rfl) (hp.mono e12) wf H2 (Ex.refl _) _ fun L H3 hL e3 hLp => ?_
        have hLp := hLp
        obtain ⟨us, hu1, hu2, hu3⟩ := hLp
        refine ⟨L, rfl, ⟨_, hu1⟩, fun D hD => ?_⟩
        refine lc_rel (walk_list (xs := us.map V.ref)) hD s.products (by rw [List.length_map, hu2]) (by omega) (PairC i j) (fun q t H H' e h => ?_)
          (fun q t H acc acc' hD' h => ?_) (fun q => [some (.ref p), some (.int (i : Int)), some (.int (j : Int)), some (.int (q.num : Int)), some (.int (q.need : Int)), some (.int (q.worth : Int))]) (fun H' e' => ex_l e' hu1) (fun m x H' H'' y => by rw [y.1]; exact Ex.refl _) (fun m q x H' H'' hq e' y Q' hQ => ?_) (fun _ _ => rfl) (fun q hq H' e' Q' hQ => ?_) (fun H' ts e' hD' hr' => ?_)
        · obtain ⟨t', g1, g2⟩ := h
          exact ⟨t', e _ _ g1, e _ _ g2⟩
        · obtain ⟨t', g1, g2⟩ := h
          exact ⟨t', by rw [upd_ne (ne_of g1 hD' (by intro z; cases z))]; exact g1, by rw [upd_ne (ne_of g2 hD' (by intro z; cases z))]; exact g2⟩
        · obtain ⟨y1, y2⟩ := y
          subst y1
          have hm : m < us.length := by rw [hu2]; exact (List.getElem?_eq_some_iff.mp hq).1
          have ht : us[m]? = some us[m] := List.getElem?_eq_getElem hm
          rw [List.getElem?_map, ht] at y2
          have ex : V.ref us[m] = x := Option.some.inj y2
          rw [← ex]
          exact g_tup3 (ex_t e' (hu3 m _ q ht hq)) hQ
        · exact et_tupU (ev_var rfl) (eu_tup (ea_cons (ev_cv (ea_cons (ev_var rfl) (ea_cons (ev_var rfl) (ea_cons (ev_var rfl) ea_nil))) fun H1 _ => ⟨q.need, i, j, rfl, hij, by omega, Nat.lt_of_lt_of_le (wf.lt q hq) (pow_le h8), rfl⟩) (ea_cons (ev_var rfl) ea_nil)) (by show 2 ≤ 100000; decide)) H' (Ex.refl _) Q' fun t t' H'' e'' g1 g2 => hQ t H'' e'' ⟨t', g1, g2⟩
        · obtain ⟨es', g1, g2, g3⟩ := pairs_es (K := K) _ _ hr'
          have e23 := e3.trans e'
          refine ⟨D, ts, kvE es', rfl, SqL.of hD', g2, fun d' hd' => ?_⟩
          have hnd : (([] ++ es' : List Ent).map fun e => e.1.num).Nodup := by
            rw [List.nil_append]
            have : (es'.map fun e => e.1.num) = s.products.map fun q => q.num := by
              have := congrArg (fun l => l.map fun q : Pr => q.num) g1
              simp only [List.map_map] at this
              exact this
            rw [this]
            exact num_nodup wf
          have hmg : mergeK [] (kvE es') = kvE es' := by
            have := merge_app es' [] hnd
            rwa [List.nil_append] at this
          rw [hmg]
          have e4 : Ex H' (upd H' d' (.dK (kvE es'))) := Ex.new hd'
          have e24 := (e12.trans e23).trans e4
          have hd5 : upd H' d' (.dK (kvE es')) d' = some (.dK (kvE es')) := upd_same
          have g5 : ∀ e ∈ es', upd H' d' (.dK (kvE es')) e.2 = some (.tup [.int (e.1.need : Int), .int (e.1.worth : Int)]) := fun e he => e4 _ _ (g3 e he)
          generalize upd H' d' (.dK (kvE es')) = H5 at e4 e24 hd5 g5
          have hd'0 : H d' = none := fresh_back (e12.trans e23) hd'
          have hp5 := e24 _ _ h1
          have hpd : p ≠ d' := fun z => by rw [z, hd'0] at h1; cases h1
          refine ⟨_, rfl, p, C, dx, poolF s.n d, rfl, hp5, T.cl, T.nK, by show 2 < 1000; decide, ?_⟩
          rw [poolF_putKnown]
          refine ⟨_, rfl, p, C, dx, poolF s.n d', .int (s.n : Int), rfl, upd_same, T.cl, T.nM, poolF_many _ _, ?_⟩
          refine ⟨(s.n : Int), 1, rfl, rfl, dx, poolF s.n d', upd_same, by show 2 < 1000; decide, ?_⟩
          have hsub : ((s.n : Int) - 1) = ((s.n - 1 : Nat) : Int) := by have := wf.n1; omega
          rw [hsub, poolF_putMany]
          have hnew : PoolAt C (upd (upd H5 p (.ins C dx (poolF s.n d'))) p (.ins C dx (poolF (s.n - 1) d'))) p d' (Vbptao.merged s i j) := by
            refine ⟨dx, es', upd_same, ?_, fun e he => ?_, ?_⟩
            · rw [upd_ne (Ne.symm hpd), upd_ne (Ne.symm hpd)]
              exact hd5
            · have hne : e.2 ≠ p := fun z => by have := g5 e he; rw [z, hp5] at this; cases this
              rw [upd_ne hne, upd_ne hne]
              exact g5 e he
            · rw [g1]
              exact .refl _
          refine s_retL (σ := L2.start ["self", "owner", "other", "k", "needs", "worth"] [.ref p, .int (i : Int), .int (j : Int)]) (el_lst (vs := [.int ((s.n - 1 : Nat) : Int)]) (ea_cons (ev_many T (ev_var (i := 0) rfl) hnew) ea_nil) (by show 1 ≤ 100000; decide)) fun l H6 hl e6 hl6 => ?_
          have hfr : FrP p d H H6 := fun b o hb' hbp hbd => e6 _ _ (by rw [upd_ne hbp, upd_ne hbp]; exact e24 _ _ hb')
          have hl0 : H l = none := by
            cases c : H l with
            | none => rfl
            | some o =>
              by_cases q : l = p
              · rw [q, upd_same] at hl
                cases hl
              · rw [upd_ne q, upd_ne q, e24 _ _ c] at hl
                cases hl
          exact k l d' H6 hl0 (.inr hd'0) hfr (hnew.mono e6) hl6
end
end Ro

set_option Elab.async false
set_option linter.all false
set_option maxRecDepth 100000
set_option maxHeartbeats 2000000
namespace Ro
open PySem PySem.Spec PyProof.Rows L2 Evl
/-! ### the calls handed on to the pool's methods -/
def Kont (C p d : Addr) (H : Hp) (r : Vbptao.State × List Int) (Q : VK) : Prop := ∀ l d' H', H l = none → (d' = d ∨ H d' = none) → FrP p d H H' → PoolAt C H' p d' r.1 → H' l = some (.lst (r.2.map V.int)) → Q (.ref l) H'
theorem Kont.mono {C p d : Addr} {H H1 : Hp} {r : Vbptao.State × List Int} {Q : VK} (k : Kont C p d H r Q) (e : Ex H H1) : Kont C p d H1 r Q := fun l d' H' hl hd hf hp hl' =>
  k l d' H' (fresh_back e hl) (hd.imp_right (fresh_back e)) (fun b o hb => hf b o (e _ _ hb)) hp hl'
/-- return pool.m(..) -/
theorem s_retM {C p d : Addr} {m : Str} {A : List V → Hp → Vbptao.State → Vbptao.State × List Int → Prop} {σ : L2.St} {H : Hp} {ta : TE} {t : TA} {D : Ends} {s : Vbptao.State} {r : Vbptao.State × List Int} {vs : List V} (k : Kont C p d H r D.rt) (hp : PoolAt C H p d s) (wf : My.WF s)
    (ho : Ev ta σ H (.ref p)) (h : EvA t σ H vs) (h1 : (m == ("many" : Str)) = false) (h2 : (m == ("known" : Str)) = false) (hs : ∀ H1, Ex H H1 → A vs H1 s r) : tRet (tMeth C m (spM C A) [] E0 ta t) D σ H := ho H (Ex.refl H) _ fun H1 e1 => by
  obtain ⟨dx, es, g1, _⟩ := id hp.ex
  refine ⟨p, dx, _, rfl, e1 _ _ g1, poolF_no _ _ h1 h2, h H1 e1 _ fun H2 e2 => ?_⟩
  rw [List.append_nil]
  have e12 := e1.trans e2
  exact ⟨p, d, s, r, vs, rfl, hp.mono e12, wf, hs H2 e12, k.mono e12⟩
/-- return f(pool, ..) -/
theorem s_retC {C p d : Addr} {A : List V → Hp → Vbptao.State → Vbptao.State × List Int → Prop} {σ : L2.St} {H : Hp} {t : TA} {D : Ends} {s : Vbptao.State} {r : Vbptao.State × List Int} {vs : List V} (k : Kont C p d H r D.rt) (hp : PoolAt C H p d s) (wf : My.WF s)
    (h : EvA t σ H (.ref p :: vs)) (hs : ∀ H1, Ex H H1 → A vs H1 s r) : tRet (tCall (spM C A) [] E0 t) D σ H := h H (Ex.refl H) _ fun H2 e2 => by
  show spM C A (_ ++ []) H2 D.rt E0
  rw [List.append_nil]
  exact ⟨p, d, s, r, vs, rfl, hp.mono e2, wf, hs H2 e2, k.mono e2⟩
/-- if number == c: return .. -/
theorem q_num {K : PySem.W.Frag} {σ : L2.St} {H : Hp} {D : Ends} {tb tz : TS} {ti : TE} {c k : Int} (hi : Ev ti σ H (.int c)) (h1 : c = k → ∀ H1, Ex H H1 → tb { D with nx := tz D } σ H1) (h2 : c ≠ k → ∀ H1, Ex H H1 → tz D σ H1) : tSeq (tIfS (tTest (tOp rEq ti (tC (.int k)))) tb tNext) tz D σ H :=
  q_when (b := decide (c = k)) (et_test (ev_eqI hi ev_c)) (fun hb H1 e1 => h1 (of_decide_eq_true hb) H1 e1) (fun hb H1 e1 => h2 (of_decide_eq_false hb) H1 e1)
section
variable {P : Program} {w : World} {K : PySem.W.Frag} {mg : Str → Option Value} {base : Heap} {C : Addr}
def AOne : List V → Hp → Vbptao.State → Vbptao.State × List Int → Prop := fun rest _ s r => ∃ c x : Int, rest = [.int c, .int x] ∧ (c = 0 ∨ c = 2 ∨ c = 3 ∨ c = 9 ∨ c = 12 ∨ c = 13 ∨ c = 15) ∧ r = Vbptao.step s [[c, x]]
abbrev sWithOne : Stmt := top 47
theorem scWithOne : FnScope ["pool", "number", "one"] ["pool", "number", "one"] (defScope sWithOne) := ⟨rfl, rfl, rfl, by decide +kernel, rfl, by decide +kernel, by decide +kernel⟩
theorem ok_withOne (T : Txt K mg C) (F : Def K mg "with_one" sWithOne "with_one") (Mb : Met P w K mg base C 1 "begin" (spM C (A1 0))) (Md : Met P w K mg base C 1 "drop" (spM C (A1 2))) (Mw : Met P w K mg base C 3 "worth" (spM C (A1 3))) (Ml : Met P w K mg base C 5 "least_most" (spM C (A1 9)))
    (Me : Met P w K mg base C 4 "leaves" (spM C (A1 12))) (Mt : Met P w K mg base C 1 "told" (spM C (A1 13))) (Mn : Met P w K mg base C 2 "needing" (spM C (A1 15))) : Cal P w K mg base 6 "with_one" (spM C AOne) := by
  refine F.cal scWithOne (fun vs H Q E h => ?_) (fun _ _ _ _ _ _ us hl => match us, hl with | [_, _, _], _ => rfl) (fun cdv f A outer s H vs Q E hr h => ⟨_,
    pss_cons (ps_if (pt_cmpR op_eq (pv 1) pe_int (nomark _)) (pss_one (ps_ret (pe_m Mb T.cl hr (by decide) (pv 0) (pa_cons (pv 2) pa_nil)))) pss_nil)
    (pss_cons (ps_if (pt_cmpR op_eq (pv 1) pe_int (nomark _)) (pss_one (ps_ret (pe_m Md T.cl hr (by decide) (pv 0) (pa_cons (pv 2) pa_nil)))) pss_nil)
    (pss_cons (ps_if (pt_cmpR op_eq (pv 1) pe_int (nomark _)) (pss_one (ps_ret (pe_m Mw T.cl hr (by decide) (pv 0) (pa_cons (pv 2) pa_nil)))) pss_nil)
    (pss_cons (ps_if (pt_cmpR op_eq (pv 1) pe_int (nomark _)) (pss_one (ps_ret (pe_m Ml T.cl hr (by decide) (pv 0) (pa_cons (pv 2) pa_nil)))) pss_nil)
    (pss_cons (ps_if (pt_cmpR op_eq (pv 1) pe_int (nomark _)) (pss_one (ps_ret (pe_m Me T.cl hr (by decide) (pv 0) (pa_cons (pv 2) pa_nil)))) pss_nil)
    (pss_cons (ps_if (pt_cmpR op_eq (pv 1) pe_int (nomark _)) (pss_one (ps_ret (pe_m Mt T.cl hr (by decide) (pv 0) (pa_cons (pv 2) pa_nil)))) pss_nil)
    (pss_one (ps_ret (pe_m Mn T.cl hr (by decide) (pv 0) (pa_cons (pv 2) pa_nil))))))))), ?_⟩)
  · obtain ⟨p, d, s, r, rest, rfl, _, _, ⟨c, x, rfl, _⟩, _⟩ := h
    rfl
  · obtain ⟨p, d, s, r, rest, rfl, hp, wf, ⟨c, x, rfl, hc, rfl⟩, k⟩ := h
    have k : Kont C p d H _ Q := k
    refine q_num (K := K) (ev_var rfl) (fun hb H1 e1 => ?_) (fun n0 H1 e1 => ?_)
    · subst hb
      exact s_retM (k.mono e1) (hp.mono e1) wf (ev_var rfl) (ea_cons (ev_var rfl) ea_nil) (by decide +kernel) (by decide +kernel) fun _ _ => ⟨x, rfl, rfl⟩
    refine q_num (K := K) (ev_var rfl) (fun hb H2 e2 => ?_) (fun n2 H2 e2 => ?_)
    · subst hb
      exact s_retM (k.mono (e1.trans e2)) (hp.mono (e1.trans e2)) wf (ev_var rfl) (ea_cons (ev_var rfl) ea_nil) (by decide +kernel) (by decide +kernel) fun _ _ => ⟨x, rfl, rfl⟩
    replace e2 := e1.trans e2
    refine q_num (K := K) (ev_var rfl) (fun hb H3 e3 => ?_) (fun n3 H3 e3 => ?_)
    · subst hb
      exact s_retM (k.mono (e2.trans e3)) (hp.mono (e2.trans e3)) wf (ev_var rfl) (ea_cons (ev_var rfl) ea_nil) (by decide +kernel) (by decide +kernel) fun _ _ => ⟨x, rfl, rfl⟩
    replace e3 := e2.trans e3
    refine q_num (K := K) (ev_var rfl) (fun hb H4 e4 => ?_) (fun n4 H4 e4 => ?_)
    · subst hb
      exact s_retM (k.mono (e3.trans e4)) (hp.mono (e3.trans e4)) wf (ev_var rfl) (ea_cons (ev_var rfl) ea_nil) (by decide +kernel) (by decide +kernel) fun _ _ => ⟨x, rfl, rfl⟩
    replace e4 := e3.trans e4
    refine q_num (K := K) (ev_var rfl) (fun hb H5 e5 => ?_) (fun n5 H5 e5 => ?_)
    · subst hb
      exact s_retM (k.mono (e4.trans e5)) (hp.mono (e4.trans e5)) wf (ev_var rfl) (ea_cons (ev_var rfl) ea_nil) (by decide +kernel) (by decide +kernel) fun _ _ => ⟨x, rfl, rfl⟩
    replace e5 := e4.trans e5
    refine q_num (K := K) (ev_var rfl) (fun hb H6 e6 => ?_) (fun n6 H6 e6 => ?_)
    · subst hb
      exact s_retM (k.mono (e5.trans e6)) (hp.mono (e5.trans e6)) wf (ev_var rfl) (ea_cons (ev_var rfl) ea_nil) (by decide +kernel) (by decide +kernel) fun _ _ => ⟨x, rfl, rfl⟩
    replace e6 := e5.trans e6
    have hb : c = 15 := by omega
    subst hb
    exact s_retM (k.mono e6) (hp.mono e6) wf (ev_var rfl) (ea_cons (ev_var rfl) ea_nil) (by decide +kernel) (by decide +kernel) fun _ _ => ⟨x, rfl, rfl⟩
def ARow (K : PySem.W.Frag) : List V → Hp → Vbptao.State → Vbptao.State × List Int → Prop := fun rest H s r => ∃ (c : Int) (nl rl : Addr) (ns x : List Int), rest = [.int c, .ref nl, .ref rl] ∧ SqL K H nl (ns.map V.int) ∧ SqL K H rl (x.map V.int) ∧ x.length ≤ 20 ∧ ((c = 6 ∨ c = 7 ∨ c = 10) ∧ ns = [] ∨ c = 16 ∧ ∃ m, ns = [m]) ∧ r = Vbptao.step s [c :: ns, x]
abbrev sWithRow : Stmt := top 46
theorem scWithRow : FnScope ["pool", "number", "numbers", "row"] ["pool", "number", "numbers", "row"] (defScope sWithRow) := ⟨rfl, rfl, rfl, by decide +kernel, rfl, by decide +kernel, by decide +kernel⟩
theorem ok_withRow (T : Txt K mg C) (F : Def K mg "with_row" sWithRow "with_row") (Mc : Met P w K mg base C 4 "core" (spM C (AL K 6))) (Md : Met P w K mg base C 6 "divide" (spM C (AL K 7))) (Mo : Met P w K mg base C 5 "order" (spM C (AL K 10))) (Mg : Met P w K mg base C 3 "gap" (spM C (A1L K 16))) : Cal P w K mg base 7 "with_row" (spM C (ARow K)) := by
  refine F.cal scWithRow (fun vs H Q E h => ?_) (fun _ _ _ _ _ _ us hl => match us, hl with | [_, _, _, _], _ => rfl) (fun cdv f A outer s H vs Q E hr h => ⟨_,
    pss_cons (ps_if (pt_cmpR op_eq (pv 1) pe_int (nomark _)) (pss_one (ps_ret (pe_m Mc T.cl hr (by decide) (pv 0) (pa_cons (pv 3) pa_nil)))) pss_nil)
    (pss_cons (ps_if (pt_cmpR op_eq (pv 1) pe_int (nomark _)) (pss_one (ps_ret (pe_m Md T.cl hr (by decide) (pv 0) (pa_cons (pv 3) pa_nil)))) pss_nil)
    (pss_cons (ps_if (pt_cmpR op_eq (pv 1) pe_int (nomark _)) (pss_one (ps_ret (pe_m Mo T.cl hr (by decide) (pv 0) (pa_cons (pv 3) pa_nil)))) pss_nil)
    (pss_one (ps_ret (pe_m Mg T.cl hr (by decide) (pv 0) (pa_cons (pe_ix ix_list (pv 2) pe_int (fun _ _ => rfl)) (pa_cons (pv 3) pa_nil))))))), ?_⟩)
  · obtain ⟨p, d, s, r, rest, rfl, _, _, ⟨c, nl, rl, ns, x, rfl, _⟩, _⟩ := h
    rfl
  · obtain ⟨p, d, s, r, rest, rfl, hp, wf, ⟨c, nl, rl, ns, x, rfl, hn, hx, h20, hc, rfl⟩, k⟩ := h
    have k : Kont C p d H _ Q := k
    refine q_num (K := K) (ev_var rfl) (fun hb H1 e1 => ?_) (fun n0 H1 e1 => ?_)
    · subst hb
      obtain rfl : ns = [] := by rcases hc with hc | hc; exact hc.2; omega
      exact s_retM (k.mono e1) (hp.mono e1) wf (ev_var rfl) (ea_cons (ev_var rfl) ea_nil) (by decide +kernel) (by decide +kernel) fun _ e => ⟨rl, x, rfl, ex_l (e1.trans e) hx, h20, rfl⟩
    refine q_num (K := K) (ev_var rfl) (fun hb H2 e2 => ?_) (fun n2 H2 e2 => ?_)
    · subst hb
      obtain rfl : ns = [] := by rcases hc with hc | hc; exact hc.2; omega
      exact s_retM (k.mono (e1.trans e2)) (hp.mono (e1.trans e2)) wf (ev_var rfl) (ea_cons (ev_var rfl) ea_nil) (by decide +kernel) (by decide +kernel) fun _ e => ⟨rl, x, rfl, ex_l ((e1.trans e2).trans e) hx, h20, rfl⟩
    replace e2 := e1.trans e2
    refine q_num (K := K) (ev_var rfl) (fun hb H3 e3 => ?_) (fun n3 H3 e3 => ?_)
    · subst hb
      obtain rfl : ns = [] := by rcases hc with hc | hc; exact hc.2; omega
      exact s_retM (k.mono (e2.trans e3)) (hp.mono (e2.trans e3)) wf (ev_var rfl) (ea_cons (ev_var rfl) ea_nil) (by decide +kernel) (by decide +kernel) fun _ e => ⟨rl, x, rfl, ex_l ((e2.trans e3).trans e) hx, h20, rfl⟩
    replace e3 := e2.trans e3
    have hb : c = 16 := by omega
    subst hb
    obtain ⟨m, rfl⟩ : ∃ m, ns = [m] := by rcases hc with hc | hc; omega; exact hc.2
    exact s_retM (k.mono e3) (hp.mono e3) wf (ev_var rfl) (ea_cons (ev_op (ev_var rfl) ev_c (rv_ixL (ex_l e3 hn) (at_of (j := 0) rfl rfl))) (ea_cons (ev_var rfl) ea_nil)) (by decide +kernel) (by decide +kernel) fun _ e => ⟨rl, m, x, rfl, ex_l (e3.trans e) hx, h20, rfl⟩
end
end Ro

set_option Elab.async false
set_option linter.all false
set_option maxRecDepth 100000
set_option maxHeartbeats 2000000
namespace Ro
open PySem PySem.Spec PyProof.Rows L2 Evl
/-! ### with_numbers -/
theorem s_retM0 {C p d : Addr} {m : Str} {A : List V → Hp → Vbptao.State → Vbptao.State × List Int → Prop} {σ : L2.St} {H : Hp} {ta : TE} {D : Ends} {s : Vbptao.State} {r : Vbptao.State × List Int} (k : Kont C p d H r D.rt) (hp : PoolAt C H p d s) (wf : My.WF s)
    (ho : Ev ta σ H (.ref p)) (h1 : (m == ("many" : Str)) = false) (h2 : (m == ("known" : Str)) = false) (hs : ∀ H1, Ex H H1 → A [] H1 s r) : tRet (tMeth C m (spM C A) [] E0 ta tNil) D σ H := s_retM k hp wf ho ea_nil h1 h2 hs
section
variable {P : Program} {w : World} {K : PySem.W.Frag} {mg : Str → Option Value} {base : Heap} {C : Addr}
def ANums (K : PySem.W.Frag) : List V → Hp → Vbptao.State → Vbptao.State × List Int → Prop := fun rest H s r => ∃ (c : Int) (nl : Addr) (ns : List Int), rest = [.int c, .ref nl] ∧ SqL K H nl (ns.map V.int) ∧ My.Form [c :: ns] ∧ r = Vbptao.step s [c :: ns]
abbrev sWithNums : Stmt := top 48
theorem scWithNums : FnScope ["pool", "number", "numbers"] ["pool", "number", "numbers"] (defScope sWithNums) := ⟨rfl, rfl, rfl, by decide +kernel, rfl, by decide +kernel, by decide +kernel⟩
theorem ok_withNums (B : Bt mg) (T : Txt K mg C) (F : Def K mg "with_numbers" sWithNums "with_numbers") (C1 : Cal P w K mg base 6 "with_one" (spM C AOne)) (Mp : Met P w K mg base C 3 "product" (spM C (A3 1))) (Mc : Met P w K mg base C 4 "comes" (spM C (A2 4))) (Mm : Met P w K mg base C 3 "merge" (spM C (A2 11)))
    (Mq : Met P w K mg base C 4 "equal" (spM C (A0 5))) (Mv : Met P w K mg base C 6 "even" (spM C (A0 8))) (Mn : Met P w K mg base C 1 "numbers" (spM C (A0 14))) (Ma : Met P w K mg base C 4 "apart" (spM C (A0 17))) : Cal P w K mg base 7 "with_numbers" (spM C (ANums K)) := by
  refine F.cal scWithNums (fun vs H Q E h => ?_) (fun _ _ _ _ _ _ us hl => match us, hl with | [_, _, _], _ => rfl) (fun cdv f A outer s H vs Q E hr h => ⟨_,
    pss_cons (ps_if (pt_cmpR op_eq (pe_callB call_len_seq (by rfl) B.len PySem.boot_len (pa_cons (pv 2) pa_nil)) pe_int (nomark _)) (pss_one (ps_ret (pe_c C1 hr (by decide) (pa_cons (pv 0) (pa_cons (pv 1) (pa_cons (pe_ix ix_list (pv 2) pe_int (fun _ _ => rfl)) pa_nil)))))) pss_nil)
    (pss_cons (ps_if (pt_cmpR op_eq (pv 1) pe_int (nomark _)) (pss_one (ps_ret (pe_m Mp T.cl hr (by decide) (pv 0) (pa_cons (pe_ix ix_list (pv 2) pe_int (fun _ _ => rfl)) (pa_cons (pe_ix ix_list (pv 2) pe_int (fun _ _ => rfl)) (pa_cons (pe_ix ix_list (pv 2) pe_int (fun _ _ => rfl)) pa_nil)))))) pss_nil)
    (pss_cons (ps_if (pt_cmpR op_eq (pv 1) pe_int (nomark _)) (pss_one (ps_ret (pe_m Mc T.cl hr (by decide) (pv 0) (pa_cons (pe_ix ix_list (pv 2) pe_int (fun _ _ => rfl)) (pa_cons (pe_ix ix_list (pv 2) pe_int (fun _ _ => rfl)) pa_nil))))) pss_nil)
    (pss_cons (ps_if (pt_cmpR op_eq (pv 1) pe_int (nomark _)) (pss_one (ps_ret (pe_m Mm T.cl hr (by decide) (pv 0) (pa_cons (pe_ix ix_list (pv 2) pe_int (fun _ _ => rfl)) (pa_cons (pe_ix ix_list (pv 2) pe_int (fun _ _ => rfl)) pa_nil))))) pss_nil)
    (pss_cons (ps_if (pt_cmpR op_eq (pv 1) pe_int (nomark _)) (pss_one (ps_ret (pe_m0 Mq T.cl hr (by decide) (pv 0)))) pss_nil)
    (pss_cons (ps_if (pt_cmpR op_eq (pv 1) pe_int (nomark _)) (pss_one (ps_ret (pe_m0 Mv T.cl hr (by decide) (pv 0)))) pss_nil)
    (pss_cons (ps_if (pt_cmpR op_eq (pv 1) pe_int (nomark _)) (pss_one (ps_ret (pe_m0 Mn T.cl hr (by decide) (pv 0)))) pss_nil)
    (pss_one (ps_ret (pe_m0 Ma T.cl hr (by decide) (pv 0)))))))))), ?_⟩)
  · obtain ⟨p, d, s, r, rest, rfl, _, _, ⟨c, nl, ns, rfl, _⟩, _⟩ := h
    rfl
  · obtain ⟨p, d, s, r, rest, rfl, hp, wf, ⟨c, nl, ns, rfl, hn, hf, rfl⟩, k⟩ := h
    have k : Kont C p d H _ Q := k
    refine q_num (K := K) (c := (ns.length : Int)) (ev_is (ev_len (ev_var rfl) hn) (by rw [List.length_map])) (fun hb H1 e1 => ?_) (fun n0 H1 e1 => ?_)
    · cases hf with
      | one c x hc => exact s_retC (k.mono e1) (hp.mono e1) wf (ea_cons (ev_var rfl) (ea_cons (ev_var rfl) (ea_cons (ev_op (ev_var rfl) ev_c (rv_ixL (ex_l e1 hn) (at_of (j := 0) rfl rfl))) ea_nil))) fun _ _ => ⟨c, x, rfl, hc, rfl⟩
      | three x y z => exact absurd hb (by show ¬ ((3 : Nat) : Int) = 1; decide)
      | two c x y hc => exact absurd hb (by show ¬ ((2 : Nat) : Int) = 1; decide)
      | non c hc => exact absurd hb (by show ¬ ((0 : Nat) : Int) = 1; decide)
    refine q_num (K := K) (ev_var rfl) (fun hb H2 e2 => ?_) (fun n1 H2 e2 => ?_)
    · subst hb
      cases hf with
      | one c x hc => omega
      | three x y z =>
        have hn := ex_l (e1.trans e2) hn
        exact s_retM (k.mono (e1.trans e2)) (hp.mono (e1.trans e2)) wf (ev_var rfl) (ea_cons (ev_op (ev_var rfl) ev_c (rv_ixL hn (at_of (j := 0) rfl rfl))) (ea_cons (ev_op (ev_var rfl) ev_c (rv_ixL hn (at_of (j := 1) rfl rfl))) (ea_cons (ev_op (ev_var rfl) ev_c (rv_ixL hn (at_of (j := 2) rfl rfl))) ea_nil))) (by decide +kernel) (by decide +kernel) fun _ _ => ⟨x, y, z, rfl, rfl⟩
      | two c x y hc => omega
      | non c hc => omega
    replace e2 := e1.trans e2
    refine q_num (K := K) (ev_var rfl) (fun hb H3 e3 => ?_) (fun n2 H3 e3 => ?_)
    · subst hb
      cases hf with
      | one c x hc => omega
      | two c x y hc =>
        have hn := ex_l (e2.trans e3) hn
        exact s_retM (k.mono (e2.trans e3)) (hp.mono (e2.trans e3)) wf (ev_var rfl) (ea_cons (ev_op (ev_var rfl) ev_c (rv_ixL hn (at_of (j := 0) rfl rfl))) (ea_cons (ev_op (ev_var rfl) ev_c (rv_ixL hn (at_of (j := 1) rfl rfl))) ea_nil)) (by decide +kernel) (by decide +kernel) fun _ _ => ⟨x, y, rfl, rfl⟩
      | non c hc => omega
    replace e3 := e2.trans e3
    refine q_num (K := K) (ev_var rfl) (fun hb H4 e4 => ?_) (fun n3 H4 e4 => ?_)
    · subst hb
      cases hf with
      | one c x hc => omega
      | two c x y hc =>
        have hn := ex_l (e3.trans e4) hn
        exact s_retM (k.mono (e3.trans e4)) (hp.mono (e3.trans e4)) wf (ev_var rfl) (ea_cons (ev_op (ev_var rfl) ev_c (rv_ixL hn (at_of (j := 0) rfl rfl))) (ea_cons (ev_op (ev_var rfl) ev_c (rv_ixL hn (at_of (j := 1) rfl rfl))) ea_nil)) (by decide +kernel) (by decide +kernel) fun _ _ => ⟨x, y, rfl, rfl⟩
      | non c hc => omega
    replace e4 := e3.trans e4
    obtain ⟨hc, rfl⟩ : (c = 5 ∨ c = 8 ∨ c = 14 ∨ c = 17) ∧ ns = [] := by
      cases hf with
      | one c x hc => exact absurd rfl n0
      | three x y z => exact absurd rfl n1
      | two c x y hc => omega
      | non c hc => exact ⟨hc, rfl⟩
    refine q_num (K := K) (ev_var rfl) (fun hb H5 e5 => ?_) (fun n4 H5 e5 => ?_)
    · subst hb
      exact s_retM0 (k.mono (e4.trans e5)) (hp.mono (e4.trans e5)) wf (ev_var rfl) (by decide +kernel) (by decide +kernel) fun _ _ => ⟨rfl, rfl⟩
    replace e5 := e4.trans e5
    refine q_num (K := K) (ev_var rfl) (fun hb H6 e6 => ?_) (fun n5 H6 e6 => ?_)
    · subst hb
      exact s_retM0 (k.mono (e5.trans e6)) (hp.mono (e5.trans e6)) wf (ev_var rfl) (by decide +kernel) (by decide +kernel) fun _ _ => ⟨rfl, rfl⟩
    replace e6 := e5.trans e6
    refine q_num (K := K) (ev_var rfl) (fun hb H7 e7 => ?_) (fun n6 H7 e7 => ?_)
    · subst hb
      exact s_retM0 (k.mono (e6.trans e7)) (hp.mono (e6.trans e7)) wf (ev_var rfl) (by decide +kernel) (by decide +kernel) fun _ _ => ⟨rfl, rfl⟩
    replace e7 := e6.trans e7
    have hb : c = 17 := by omega
    subst hb
    exact s_retM0 (k.mono e7) (hp.mono e7) wf (ev_var rfl) (by decide +kernel) (by decide +kernel) fun _ _ => ⟨rfl, rfl⟩
end
/-! ### an answer is short -/
theorem ints_len (l : List Nat) : (Vbptao.ints l).length = l.length := by
  unfold Vbptao.ints
  rw [List.length_map]
theorem pairs_len : ∀ l : List (Nat × Nat), (l.flatMap fun y => Vbptao.ints [y.1, y.2]).length = 2 * l.length
  | [] => rfl
  | a :: l => by
    rw [List.flatMap_cons, List.length_append, pairs_len l, List.length_cons]
    show 2 + 2 * l.length = 2 * (l.length + 1)
    omega
theorem step_len {s : Vbptao.State} (wf : My.WF s) {c : List (List Int)} (f : My.Form c) : (Vbptao.step s c).2.length ≤ 200 := by
  have h8 := wf.n8
  have hfew := wf.few
  have t1 : ∀ z : Int, ([z] : List Int).length ≤ 200 := fun _ => by show 1 ≤ 200; decide
  have t2 : ∀ z y : Int, ([z, y] : List Int).length ≤ 200 := fun _ _ => by show 2 ≤ 200; decide
  cases f with
  | one c x h =>
    rcases h with rfl | rfl | rfl | rfl | rfl | rfl | rfl
    · rw [My.step_pool]
      split <;> exact t1 _
    · rw [My.step_drop]
      split <;> exact t1 _
    · rw [My.step_worth]
      show (if _ then _ else _ : List Int).length ≤ 200
      split <;> exact t1 _
    · rw [My.step_range]
      show (if _ then _ else _ : List Int).length ≤ 200
      split
      · exact t2 _ _
      · exact t1 _
    · rw [My.step_leaves]
      show (if _ then _ else _ : List Int).length ≤ 200
      split <;> exact t1 _
    · rw [My.step_told]
      cases My.prodAt s x with
      | none => exact t1 _
      | some p => exact t2 _ _
    · rw [My.step_owner]
      show (if _ then _ else _ : List Int).length ≤ 200
      split
      · rw [List.length_cons, ints_len, List.length_map]
        exact Nat.le_trans (Nat.succ_le_succ (List.length_filter_le _ _)) (by omega)
      · exact t1 _
  | three x y z =>
    rw [My.step_product]
    split
    · split
      · split <;> exact t1 _
      · exact t1 _
    · exact t1 _
  | two c x y h =>
    rcases h with rfl | rfl
    · rw [My.step_comes]
      show (if _ then _ else _ : List Int).length ≤ 200
      split
      · split <;> exact t1 _
      · exact t1 _
    · rw [My.step_merge]
      split
      · split <;> exact t1 _
      · exact t1 _
  | non c h =>
    rcases h with rfl | rfl | rfl | rfl
    · rw [My.step_equal]
      show (0 :: Vbptao.ints _ : List Int).length ≤ 200
      rw [List.length_cons, ints_len, equal_len]
      omega
    · rw [My.step_even]
      show (0 :: _ : List Int).length ≤ 200
      rw [List.length_cons, pairs_len, even_len]
      omega
    · rw [My.step_products]
      show (_ :: Vbptao.ints _ : List Int).length ≤ 200
      rw [List.length_cons, ints_len, List.length_map]
      omega
    · rw [My.step_apart]
      show (0 :: Vbptao.ints _ : List Int).length ≤ 200
      have := apart_len s s.n
      rw [List.length_cons, ints_len]
      omega
  | row c x h hx =>
    rcases h with rfl | rfl | rfl
    · rw [My.step_core]
      show (if _ then _ else _ : List Int).length ≤ 200
      split
      · split
        · exact t2 _ _
        · cases Vbptao.objects s.n s.products x with
          | none => exact t1 _
          | some m => exact t2 _ _
      · exact t1 _
    · rw [My.step_divide]
      show (if _ then _ else _ : List Int).length ≤ 200
      split
      · split
        · have h1 := congrArg List.length (dv_map s.n s.products x)
          rw [List.length_map, List.length_append, iv, List.length_map] at h1
          have h2 := dvL_len h8 s.products x
          rw [h1]
          show 1 + _ ≤ 200
          omega
        · exact t1 _
      · exact t1 _
    · rw [My.step_order]
      show (if _ then _ else _ : List Int).length ≤ 200
      split
      · rw [List.length_cons, ints_len, ordered_len]
        omega
      · exact t1 _
  | gap m x hx =>
    rw [My.step_gap]
    show (if _ then _ else _ : List Int).length ≤ 200
    split
    · split
      · exact t2 _ _
      · exact t1 _
    · exact t1 _
end Ro

set_option Elab.async false
set_option linter.all false
set_option maxRecDepth 100000
set_option maxHeartbeats 2000000
namespace Ro
open PySem PySem.Spec PyProof.Rows L2 Evl
/-! ### the calls as they lie in the list -/
def manyL : List Int := [1, 3, 1, 1, 2, 0, 0, 0, 0, 1, 0, 2, 1, 1, 0, 1, 1, 0]
def withL : List Int := [6, 7, 10, 16]
theorem form_parts {c : List (List Int)} (f : My.Form c) : ∃ (k : Nat) (ns : List Int) (xs : List (List Int)), c = ((k : Int) :: ns) :: xs ∧ manyL[k]? = some (ns.length : Int) ∧
    ((∃ x : List Int, xs = [x] ∧ x.length ≤ 20 ∧ inV (.int (k : Int)) (withL.map V.int) = true ∧ (((k : Int) = 6 ∨ (k : Int) = 7 ∨ (k : Int) = 10) ∧ ns = [] ∨ (k : Int) = 16 ∧ ∃ m, ns = [m])) ∨ (xs = [] ∧ inV (.int (k : Int)) (withL.map V.int) = false ∧ My.Form [(k : Int) :: ns])) := by
  cases f with
  | one c x h =>
    rcases h with rfl | rfl | rfl | rfl | rfl | rfl | rfl
    · exact ⟨0, [x], [], rfl, rfl, .inr ⟨rfl, by decide +kernel, .one _ _ (by omega)⟩⟩
    · exact ⟨2, [x], [], rfl, rfl, .inr ⟨rfl, by decide +kernel, .one _ _ (by omega)⟩⟩
    · exact ⟨3, [x], [], rfl, rfl, .inr ⟨rfl, by decide +kernel, .one _ _ (by omega)⟩⟩
    · exact ⟨9, [x], [], rfl, rfl, .inr ⟨rfl, by decide +kernel, .one _ _ (by omega)⟩⟩
    · exact ⟨12, [x], [], rfl, rfl, .inr ⟨rfl, by decide +kernel, .one _ _ (by omega)⟩⟩
    · exact ⟨13, [x], [], rfl, rfl, .inr ⟨rfl, by decide +kernel, .one _ _ (by omega)⟩⟩
    · exact ⟨15, [x], [], rfl, rfl, .inr ⟨rfl, by decide +kernel, .one _ _ (by omega)⟩⟩
  | three x y z => exact ⟨1, [x, y, z], [], rfl, rfl, .inr ⟨rfl, by decide +kernel, .three _ _ _⟩⟩
  | two c x y h =>
    rcases h with rfl | rfl
    · exact ⟨4, [x, y], [], rfl, rfl, .inr ⟨rfl, by decide +kernel, .two _ _ _ (by omega)⟩⟩
    · exact ⟨11, [x, y], [], rfl, rfl, .inr ⟨rfl, by decide +kernel, .two _ _ _ (by omega)⟩⟩
  | non c h =>
    rcases h with rfl | rfl | rfl | rfl
    · exact ⟨5, [], [], rfl, rfl, .inr ⟨rfl, by decide +kernel, .non _ (by omega)⟩⟩
    · exact ⟨8, [], [], rfl, rfl, .inr ⟨rfl, by decide +kernel, .non _ (by omega)⟩⟩
    · exact ⟨14, [], [], rfl, rfl, .inr ⟨rfl, by decide +kernel, .non _ (by omega)⟩⟩
    · exact ⟨17, [], [], rfl, rfl, .inr ⟨rfl, by decide +kernel, .non _ (by omega)⟩⟩
  | row c x h hx =>
    rcases h with rfl | rfl | rfl
    · exact ⟨6, [], [x], rfl, rfl, .inl ⟨x, rfl, hx, by decide +kernel, .inl ⟨by omega, rfl⟩⟩⟩
    · exact ⟨7, [], [x], rfl, rfl, .inl ⟨x, rfl, hx, by decide +kernel, .inl ⟨by omega, rfl⟩⟩⟩
    · exact ⟨10, [], [x], rfl, rfl, .inl ⟨x, rfl, hx, by decide +kernel, .inl ⟨by omega, rfl⟩⟩⟩
  | gap m x hx => exact ⟨16, [m], [x], rfl, rfl, .inl ⟨x, rfl, hx, by decide +kernel, .inr ⟨by omega, m, rfl⟩⟩⟩
theorem cut_mid (A B D : List Int) {lo hi : Int} (h1 : lo = (A.length : Int)) (h2 : hi = ((A.length + B.length : Nat) : Int)) : cutV ((A ++ (B ++ D)).map V.int) (some lo) (some hi) = B.map V.int := by
  subst h1
  subst h2
  unfold cutV
  rw [HT.sIx_nat, HT.sIx_nat, List.length_map, List.length_append, List.length_append, Nat.min_eq_left (by omega), Nat.min_eq_left (by omega), List.map_append, List.drop_left' (by rw [List.length_map]), List.map_append, List.take_left' (by rw [List.length_map]; omega)]
theorem at_mid (A D : List Int) (x : Int) {i : Int} (h : i = (A.length : Int)) : atI ((A ++ (x :: D)).map V.int) i = some (.int x) := by
  refine at_of h ?_
  rw [List.getElem?_map, List.getElem?_append_right (Nat.le_refl _), Nat.sub_self]
  rfl
/-! ### the pool beside a list that changes -/
theorem PoolAt.updL {C : Addr} {H : Hp} {p d f : Addr} {s : Vbptao.State} {xs ys : List V} (h : PoolAt C H p d s) (hf : H f = some (.lst xs)) : PoolAt C (upd H f (.lst ys)) p d s := by
  obtain ⟨dx, es, h1, h2, h3, h4⟩ := h.ex
  refine ⟨dx, es, ?_, ?_, fun e he => ?_, h4⟩
  · rw [upd_ne (ne_of h1 hf (by intro z; cases z))]
    exact h1
  · rw [upd_ne (ne_of h2 hf (by intro z; cases z))]
    exact h2
  · have := h3 e he
    rw [upd_ne (ne_of this hf (by intro z; cases z))]
    exact this
section
variable {K : PySem.W.Frag} {σ : L2.St} {H : Hp} {D : Ends} {ta tb te : TE} {t : TA} {tz : TS} {v : V}
/-- x = f(pool, ..) -/
theorem s_asgC {C p d : Addr} {i : Nat} {A : List V → Hp → Vbptao.State → Vbptao.State × List Int → Prop} {s : Vbptao.State} {r : Vbptao.State × List Int} {vs : List V} (hp : PoolAt C H p d s) (wf : My.WF s)
    (h : EvA t σ H (.ref p :: vs)) (hs : ∀ H1, Ex H H1 → A vs H1 s r) (k : ∀ l d' H', H l = none → (d' = d ∨ H d' = none) → FrP p d H H' → PoolAt C H' p d' r.1 → H' l = some (.lst (r.2.map V.int)) → D.nx (σ.set i (some (.ref l))) H') :
    tAsg (tCall (spM C A) [] E0 t) (gName i) D σ H := h H (Ex.refl H) _ fun H2 e2 => by
  show spM C A (_ ++ []) H2 _ E0
  rw [List.append_nil]
  have k : Kont C p d H r (fun v H' => D.nx (σ.set i (some v)) H') := k
  exact ⟨p, d, s, r, vs, rfl, hp.mono e2, wf, hs H2 e2, k.mono e2⟩
/-- xs.extend(ys), ys another list -/
theorem q_ext {l b : Addr} {xs ys : List V} (hl : H l = some (.lst xs)) (ha : Ev ta σ H (.ref l)) (hb : Ev tb σ H (.ref b)) (hy : H b = some (.lst ys)) (hz : xs.length + ys.length ≤ 100000) (k : ∀ H1, Ex H H1 → tz D σ (upd H1 l (.lst (xs ++ ys)))) :
    tSeq (tDrop (tBM K "list" rExtend ta (tCons tb tNil))) tz D σ H := ha H (Ex.refl H) _ fun H1 e1 =>
  ⟨Or.inl ⟨rfl, xs, SqL.of (e1 l _ hl)⟩, hb H1 e1 _ fun H2 e2 => ⟨l, b, xs, ys, rfl, rfl, e2 _ _ (e1 _ _ hl), e2 _ _ (e1 _ _ hy), sz_of hz, k H2 (e1.trans e2)⟩⟩
theorem q_app {l : Addr} {xs : List V} (hl : H l = some (.lst xs)) (ha : Ev ta σ H (.ref l)) (h : Ev te σ H v) (hz : xs.length < 100000) (k : ∀ H1, Ex H H1 → tz D σ (upd H1 l (.lst (xs ++ [v])))) :
    tSeq (tDrop (tBM K "list" rAppend ta (tCons te tNil))) tz D σ H := s_app (D := { D with nx := tz D }) hl ha h hz k
/-- x = Pool() -/
theorem q_asgMake {C : Addr} {i : Nat} (k : ∀ p d H', H p = none → H d = none → Ex H H' → PoolAt C H' p d Vbptao.start → tz D (σ.set i (some (.ref p))) H') : tSeq (tAsg (tMake C (spInit C) [] E0 tNil) (gName i)) tz D σ H := by
  intro x dx hx hdx hne
  refine ⟨x, dx, rfl, upd_same, fun d H' hd hk hp => ⟨rfl, ?_⟩⟩
  have hdx2 : d ≠ x := fun z => by rw [z, upd_same] at hd; cases hd
  rw [upd_ne hdx2] at hd
  have hdd : d ≠ dx := fun z => by rw [z, upd_same] at hd; cases hd
  rw [upd_ne hdd] at hd
  refine k x d H' hx hd (fun b o hb => hk b o ?_ (ne_of_none hb hx)) hp
  rw [upd_ne (ne_of_none hb hx), upd_ne (ne_of_none hb hdx)]
  exact hb
theorem ev_in {m : Addr} {l : List Int} {q : Int} {b : Bool} (h1 : Ev ta σ H (.int q)) (h2 : Ev tb σ H (.ref m)) (hm : ∀ H, SqT K H m (l.map V.int)) (hb : inV (.int q) (l.map V.int) = b) (hf : (l.map V.int).all flatV = true) : Ev (tOp (rIn K false) ta tb) σ H (.bl b) := fun H1 e Q q' =>
  h1 H1 e _ fun H2 e2 => h2 H2 (e.trans e2) _ fun H3 e3 => ⟨m, _, rfl, .inr (hm H3), rfl, hf, by
    show Q (.bl (inV _ _)) H3
    rw [hb]
    exact q' H3 (e2.trans e3)⟩
end
end Ro

set_option Elab.async false
set_option linter.all false
set_option maxRecDepth 100000
set_option maxHeartbeats 2000000
namespace Ro
open PySem PySem.Spec PyProof.Rows L2 Evl
/-- a tuple of whole numbers of the module -/
structure TupG (K : PySem.W.Frag) (mg : Str → Option Value) (x : Str) (l : List Int) : Prop where
  ex : ∃ m : Addr, mg x = some (.ref m) ∧ ∀ H, SqT K H m (l.map V.int)
section
variable {P : Program} {w : World} {K : PySem.W.Frag} {mg : Str → Option Value} {base : Heap} {C : Addr}
theorem el_is {σ : L2.St} {H : Hp} {te : TE} {xs ys : List V} (h : EvL te σ H xs) (e : xs = ys) : EvL te σ H ys := e ▸ h
/-! ### answers(calls) -/
abbrev sAns : Stmt := top 51
theorem scAns : FnScope ["calls", "pool", "found", "at", "number", "end", "numbers", "row", "told"] ["calls"] (defScope sAns) := ⟨rfl, rfl, rfl, by decide +kernel, rfl, by decide +kernel, by decide +kernel⟩
def outs (cs : List (List (List Int))) : List Int := PyFlat.told (PyFlat.played Vbptao.step Vbptao.start cs)
def aAns (K : PySem.W.Frag) : List V → Hp → List V → Prop := fun vs H xs => ∃ (a : Addr) (cs : List (List (List Int))), vs = [.ref a] ∧ SqL K H a ((PyFlat.put cs).map V.int) ∧ (∀ c ∈ cs, My.Form c) ∧ cs.length ≤ 400 ∧ xs = (outs cs).map V.int
theorem told_cons (a : List Int) (r : List (List Int)) : PyFlat.told (a :: r) = ((a.length : Int) :: a) ++ PyFlat.told r := rfl
theorem played_cons (s : Vbptao.State) (c : List (List Int)) (r : List (List (List Int))) : PyFlat.played Vbptao.step s (c :: r) = (Vbptao.step s c).2 :: PyFlat.played Vbptao.step (Vbptao.step s c).1 r := rfl
/-- behind the branch -/
def MidA (C : Addr) (H0 : Hp) (a p f : Addr) (q : Int) (e : Int) (r : Vbptao.State × List Int) (fnd : List Int) (i : Int) : L2.St → Hp → Prop := fun σ H => ∃ (d t : Addr) (x6 x7 : Option V), σ = [some (.ref a), some (.ref p), some (.ref f), some (.int i), some (.int q), some (.int e), x6, x7, some (.ref t)] ∧
  PoolAt C H p d r.1 ∧ H0 d = none ∧ Ex H0 H ∧ H f = some (.lst (fnd.map V.int)) ∧ H t = some (.lst (r.2.map V.int)) ∧ t ≠ f
theorem ok_ans (B : Bt mg) (T : Txt K mg C) {fi : Addr} {fdi : FuncData} (Fi : FnOk P w K mg base CX0 1 fi fdi ["self"] (spInit C)) (Bi : Binds K fdi ["self"] []) (M : Mk K C fi) (G1 : TupG K mg "MANY" manyL) (G2 : TupG K mg "WITH_LIST" withL) {fa : Addr} {fda : FuncData} (F : L2.Fun K "answers" "answers" sAns fa fda)
    (Cr : Cal P w K mg base 7 "with_row" (spM C (ARow K))) (Cn : Cal P w K mg base 7 "with_numbers" (spM C (ANums K))) : FnOk P w K mg base CX0 8 fa fda ["calls"] (PL (aAns K)) := by
  obtain ⟨m1, gm1, hm1⟩ := G1.ex
  obtain ⟨m2, gm2, hm2⟩ := G2.ex
  refine F.ok scAns (fun vs H Q E h => ?_) (fun cdv A outer s H vs Q E hr h => ⟨_,
    pss_cons (ps_set (i := 1) scAns.nd rfl (.inl rfl) (pe_make0 M Fi (hr.mono (by decide)) (by rfl) T.gC Bi .nil pass0))
    (pss_cons (ps_set (i := 2) scAns.nd rfl (.inl rfl) (pe_lst pa_nil))
    (pss_cons (ps_set (i := 3) scAns.nd rfl (.inl rfl) pe_int)
    (pss_cons (ps_while PassesOwn.never (pt_cmpR op_lt (pv 3) (pe_callB call_len_seq (by rfl) B.len PySem.boot_len (pa_cons (pv 0) pa_nil)) (nomark _))
      (pss_cons (ps_set (i := 4) scAns.nd rfl (.inl rfl) (pe_ix ix_list (pv 0) (pv 3) (fun _ _ => rfl)))
      (pss_cons (ps_set (i := 5) scAns.nd rfl (.inl rfl) (pe_op op_add (pe_op op_add (pv 3) pe_int) (pe_ix ix_tup (pe_glob (v := .ref m1) (by rfl) gm1 rfl) (pv 4) (fun _ _ => rfl))))
      (pss_cons (ps_set (i := 6) scAns.nd rfl (.inl rfl) (pe_slice sl_list (pv 0) (po_some (pe_op op_add (pv 3) pe_int)) (po_some (pv 5))))
      (Evl.pss_cut (ps_if (pt_cmpR op_in_seq (pv 4) (pe_glob (v := .ref m2) (by rfl) gm2 rfl) (by rfl))
        (pss_cons (ps_set (i := 7) scAns.nd rfl (.inl rfl) (pe_slice sl_list (pv 0) (po_some (pe_op op_add (pv 5) pe_int)) (po_some (pe_op op_add (pe_op op_add (pv 5) pe_int) (pe_ix ix_list (pv 0) (pv 5) (fun _ _ => rfl))))))
        (pss_cons (ps_set (i := 5) scAns.nd rfl (.inl rfl) (pe_op op_add (pe_op op_add (pv 5) pe_int) (pe_callB call_len_seq (by rfl) B.len PySem.boot_len (pa_cons (pv 7) pa_nil))))
        (pss_one (ps_set (i := 8) scAns.nd rfl (.inl rfl) (pe_c Cr hr (by decide) (pa_cons (pv 1) (pa_cons (pv 4) (pa_cons (pv 6) (pa_cons (pv 7) pa_nil)))))))))
        (pss_one (ps_set (i := 8) scAns.nd rfl (.inl rfl) (pe_c Cn hr (by decide) (pa_cons (pv 1) (pa_cons (pv 4) (pa_cons (pv 6) pa_nil)))))))
      (pss_cons (ps_expr (pe_bm PySem.F.plainAttrs_list PySem.F.slot_list_append PySem.F.type_list_append mt_append (pv 2) (pa_cons (pe_callB call_len_seq (by rfl) B.len PySem.boot_len (pa_cons (pv 8) pa_nil)) pa_nil)))
      (pss_cons (ps_expr (pe_bm PySem.F.plainAttrs_list PySem.F.slot_list_extend PySem.F.type_list_extend mt_extend (pv 2) (pa_cons (pv 8) pa_nil)))
      (pss_one (ps_set (i := 3) scAns.nd rfl (.inl rfl) (pv 5))))))))))
    (pss_one (ps_ret (pv 2)))))), ?_⟩)
  · obtain ⟨_, ⟨a, cs, rfl, _⟩, _⟩ := h
    rfl
  · obtain ⟨_, ⟨a, cs, rfl, ha, hf, h400, rfl⟩, k⟩ := h
    refine q_asgMake fun p d H1 hp0 hd0 e1 hp1 => ?_
    refine q_asgL (xs := []) (el_lst ea_nil (by decide)) fun f0 H2 hf0 e2 hf2 => ?_
    refine q_asg ev_c fun H3 e3 => ?_
    have hff : H f0 = none := fresh_back e1 hf0
    refine q_while (fun m σ' H' => ∃ (A : List Int) (suf : List (List (List Int))) (d : Addr) (s : Vbptao.State) (fnd : List Int) (x4 x5 x6 x7 x8 : Option V), m = suf.length ∧ σ' = [some (.ref a), some (.ref p), some (.ref f0), some (.int (A.length : Int)), x4, x5, x6, x7, x8] ∧
      PyFlat.put cs = A ++ PyFlat.put suf ∧ (∀ c ∈ suf, My.Form c) ∧ PoolAt C H' p d s ∧ My.WF s ∧ H d = none ∧ Ex H H' ∧ H' f0 = some (.lst (fnd.map V.int)) ∧ fnd ++ PyFlat.told (PyFlat.played Vbptao.step s suf) = outs cs ∧ fnd.length + 201 * suf.length ≤ 201 * 400)
      cs.length ⟨[], cs, d, Vbptao.start, [], none, none, none, none, none, rfl, rfl, rfl, hf, hp1.mono (e2.trans e3), My.wf_start, hd0, (e1.trans e2).trans e3, e3 _ _ hf2, rfl, by show 0 + _ ≤ _; omega⟩ ?_
    rintro m σ' H' ⟨A, suf, d, s, fnd, x4, x5, x6, x7, x8, rfl, rfl, hput, hsf, hp, wf, hd, e, hfl, htold, hlen⟩
    have ha' := ex_l e ha
    refine ⟨decide ((A.length : Int) < ((PyFlat.put cs).length : Int)), et_test (ev_op (ev_var rfl) (ev_is (ev_len (ev_var rfl) ha') (by rw [List.length_map])) rv_I0), fun hb H4 e4 => ?_, fun hb H4 e4 => ?_⟩
    · cases suf with
      | nil =>
        exfalso
        have hb := of_decide_eq_true hb
        rw [hput] at hb
        have : PyFlat.put ([] : List (List (List Int))) = [] := rfl
        rw [this, List.append_nil] at hb
        omega
      | cons c suf =>
        obtain ⟨kq, ns, xs, rfl, hmany, hc⟩ := form_parts (hsf c List.mem_cons_self)
        have hform := hsf _ List.mem_cons_self
        have hl200 := step_len wf hform
        have hwf' := My.wf_step wf hform
        have hputc : PyFlat.put ((((kq : Int) :: ns) :: xs) :: suf) = (kq : Int) :: (ns ++ (PyFlat.putRows xs ++ PyFlat.put suf)) := by
          show ((((kq : Int) :: ns) ++ PyFlat.putRows xs) ++ PyFlat.put suf) = _
          rw [List.append_assoc]
          rfl
        rw [hputc] at hput
        rw [played_cons, told_cons] at htold
        rw [List.length_cons] at hlen
        have hput1 : PyFlat.put cs = (A ++ [(kq : Int)]) ++ (ns ++ (PyFlat.putRows xs ++ PyFlat.put suf)) := by
          rw [hput, List.append_assoc]
          rfl
        have hput2 : PyFlat.put cs = (A ++ [(kq : Int)] ++ ns) ++ (PyFlat.putRows xs ++ PyFlat.put suf) := by
          rw [hput1, List.append_assoc (A ++ [(kq : Int)])]
        have e04 := e.trans e4
        have ha4 := ex_l e04 ha
        refine ⟨fun σ2 H2 => ∃ (A : List Int) (d : Addr) (s : Vbptao.State) (fnd : List Int) (x4 x5 x6 x7 x8 : Option V), σ2 = [some (.ref a), some (.ref p), some (.ref f0), some (.int (A.length : Int)), x4, x5, x6, x7, x8] ∧
          PyFlat.put cs = A ++ PyFlat.put suf ∧ PoolAt C H2 p d s ∧ My.WF s ∧ H d = none ∧ Ex H H2 ∧ H2 f0 = some (.lst (fnd.map V.int)) ∧ fnd ++ PyFlat.told (PyFlat.played Vbptao.step s suf) = outs cs ∧ fnd.length + 201 * suf.length ≤ 201 * 400,
          fun σ2 H2 h => ⟨suf.length, by rw [List.length_cons]; omega, ?_⟩, ?_⟩
        · obtain ⟨A, d, s, fnd, x4, x5, x6, x7, x8, h1, h2, h3, h4, h5, h6, h7, h8, h9⟩ := h
          exact ⟨A, suf, d, s, fnd, x4, x5, x6, x7, x8, rfl, h1, h2, fun c hc => hsf c (List.mem_cons_of_mem _ hc), h3, h4, h5, h6, h7, h8, h9⟩
        refine q_asg (v := .int (kq : Int)) (ev_op (ev_var rfl) (ev_var rfl) (rv_ixL ha4 (by rw [hput]; exact at_mid _ _ _ rfl))) fun H5 e5 => ?_
        have e05 := e04.trans e5
        have ha5 := ex_l e05 ha
        refine q_asg (v := .int ((A.length + 1 + ns.length : Nat) : Int)) (ev_is (ev_add (ev_add (ev_var rfl) ev_c) (ev_op ev_c (ev_var rfl) (rv_ixT (hm1 _) (at_of (j := kq) rfl (by rw [List.getElem?_map, hmany]; rfl))))) (by rw [Int.natCast_add, Int.natCast_add]; rfl)) fun H6 e6 => ?_
        have e06 := e05.trans e6
        have ha6 := ex_l e06 ha
        refine q_asgL (xs := ns.map V.int) (el_is (el_sl (ev_var rfl) (eo_some (ev_add (ev_var rfl) ev_c)) (eo_some (ev_var rfl)) ha6) (by rw [hput1]; exact cut_mid _ _ _ (by rw [List.length_append]; rfl) (by rw [List.length_append]; rfl))) fun nl H7 hnl e7 hnl7 => ?_
        have e07 := e06.trans e7
        have ha7 := ex_l e07 ha
        have e47 := (e5.trans e6).trans e7
        have hp7 := hp.mono (e4.trans e47)
        have hfl7 : H7 f0 = some (.lst (fnd.map V.int)) := e47 _ _ (e4 _ _ hfl)
        -- what a branch leaves behind
        have fin : ∀ (H8 : Hp) (t d' : Addr) (H9 : Hp), Ex H H8 → PoolAt C H8 p d s → H8 f0 = some (.lst (fnd.map V.int)) → H8 t = none → (d' = d ∨ H8 d' = none) → FrP p d H8 H9 → PoolAt C H9 p d' (Vbptao.step s (((kq : Int) :: ns) :: xs)).1 → H9 t = some (.lst ((Vbptao.step s (((kq : Int) :: ns) :: xs)).2.map V.int)) →
            H d' = none ∧ Ex H H9 ∧ H9 f0 = some (.lst (fnd.map V.int)) ∧ t ≠ f0 := by
          intro H8 t d' H9 e8 hp8 hf8 ht hd' hfr hp9 ht9
          obtain ⟨dx, es, g1, g2, _⟩ := hp8.ex
          refine ⟨?_, fun b o hb => hfr b o (e8 _ _ hb) (ne_of_none hb hp0) (ne_of_none hb hd), hfr _ _ hf8 (ne_of hf8 g1 (by intro z; cases z)) (ne_of hf8 g2 (by intro z; cases z)), fun z => ?_⟩
          · rcases hd' with rfl | hd'
            · exact hd
            · exact fresh_back e8 hd'
          · rw [z, hf8] at ht
            cases ht
        refine Evl.q_cut (M := MidA C H a p f0 (kq : Int) ((A ++ PyFlat.put1 (((kq : Int) :: ns) :: xs)).length : Int) (Vbptao.step s (((kq : Int) :: ns) :: xs)) fnd (A.length : Int)) ?_ ?_
        · rcases hc with ⟨x, rfl, h20, hin, hcc⟩ | ⟨rfl, hin, hfm⟩
          · -- with a row
            have hrow : PyFlat.putRows [x] ++ PyFlat.put suf = (x.length : Int) :: (x ++ PyFlat.put suf) := by
              show (((x.length : Int) :: x) ++ []) ++ PyFlat.put suf = _
              rw [List.append_nil]
              rfl
            rw [hrow] at hput2
            have hput3 : PyFlat.put cs = (A ++ [(kq : Int)] ++ ns ++ [(x.length : Int)]) ++ (x ++ PyFlat.put suf) := by
              rw [hput2, List.append_assoc (A ++ [(kq : Int)] ++ ns)]
              rfl
            refine s_if (b := true) (et_test (ev_in (ev_var rfl) ev_c hm2 hin (by decide +kernel))) (fun _ H8 e8 => ?_) (fun h => nomatch h)
            have e08 := e07.trans e8
            have ha8 := ex_l e08 ha
            refine q_asgL (xs := x.map V.int) (el_is (el_sl (ev_var rfl) (eo_some (ev_add (ev_var rfl) ev_c)) (eo_some (ev_add (ev_add (ev_var rfl) ev_c) (ev_op (ev_var rfl) (ev_var rfl) (rv_ixL ha8 (by rw [hput2]; exact at_mid _ _ _ (by rw [List.length_append, List.length_append]; rfl)))))) ha8) (by rw [hput3]; exact cut_mid _ _ _ (by rw [List.length_append, List.length_append, List.length_append]; rfl) (by rw [List.length_append, List.length_append, List.length_append]; rfl))) fun rl H9 hrl e9 hrl9 => ?_
            refine q_asg (v := .int ((A ++ PyFlat.put1 (((kq : Int) :: ns) :: [x])).length : Int)) (ev_is (ev_add (ev_add (ev_var rfl) ev_c) (ev_len (ev_var rfl) (SqL.of hrl9))) ?_) fun H10 e10 => ?_
            · have : (A ++ PyFlat.put1 (((kq : Int) :: ns) :: [x])).length = A.length + 1 + ns.length + 1 + x.length := by
                show (A ++ ((((kq : Int) :: ns)) ++ (((x.length : Int) :: x) ++ []))).length = _
                rw [List.length_append, List.length_append, List.length_append, List.length_cons, List.length_cons, List.length_nil]
                omega
              rw [this, List.length_map]
              congr 1
            have e910 := e8.trans (e9.trans e10)
            have hp10 := hp7.mono e910
            refine s_asgC (A := ARow K) (s := s) (r := Vbptao.step s [(kq : Int) :: ns, x]) (vs := [.int (kq : Int), .ref nl, .ref rl]) hp10 wf (ea_cons (ev_var rfl) (ea_cons (ev_var rfl) (ea_cons (ev_var rfl) (ea_cons (ev_var rfl) ea_nil)))) (fun H11 e11 => ⟨(kq : Int), nl, rl, ns, x, rfl, SqL.of (e11 _ _ (e910 _ _ hnl7)), SqL.of (e11 _ _ (e10 _ _ hrl9)), h20, hcc, rfl⟩) fun t d' H11 ht hd' hfr hp11 ht11 => ?_
            obtain ⟨g1, g2, g3, g4⟩ := fin H10 t d' H11 (e07.trans e910) hp10 (e910 _ _ hfl7) ht hd' hfr hp11 ht11
            exact ⟨d', t, _, _, rfl, hp11, g1, g2, g3, ht11, g4⟩
          · -- without a row
            refine s_if (b := false) (et_test (ev_in (ev_var rfl) ev_c hm2 hin (by decide +kernel))) (fun h => nomatch h) (fun _ H8 e8 => ?_)
            have hp8 := hp7.mono e8
            refine s_asgC (A := ANums K) (s := s) (r := Vbptao.step s [(kq : Int) :: ns]) (vs := [.int (kq : Int), .ref nl]) hp8 wf (ea_cons (ev_var rfl) (ea_cons (ev_var rfl) (ea_cons (ev_var rfl) ea_nil))) (fun H11 e11 => ⟨(kq : Int), nl, ns, rfl, SqL.of (e11 _ _ (e8 _ _ hnl7)), hfm, rfl⟩) fun t d' H11 ht hd' hfr hp11 ht11 => ?_
            obtain ⟨g1, g2, g3, g4⟩ := fin H8 t d' H11 (e07.trans e8) hp8 (e8 _ _ hfl7) ht hd' hfr hp11 ht11
            have hlen1 : ((A.length + 1 + ns.length : Nat) : Int) = ((A ++ PyFlat.put1 (((kq : Int) :: ns) :: [])).length : Int) := by
              show _ = ((A ++ (((kq : Int) :: ns) ++ [])).length : Int)
              rw [List.append_nil, List.length_append, List.length_cons]
              omega
            exact ⟨d', t, _, _, by rw [← hlen1]; rfl, hp11, g1, g2, g3, ht11, g4⟩
        · rintro σ3 H8 ⟨d', t, y6, y7, rfl, hp8, hd8, e8, hf8, ht8, htf⟩
          generalize hr : Vbptao.step s (((kq : Int) :: ns) :: xs) = r at hp8 ht8 htold hl200 hwf'
          refine q_app hf8 (ev_var rfl) (ev_len (ev_var rfl) (SqL.of ht8)) (by rw [List.length_map]; omega) fun H9 e9 => ?_
          rw [List.length_map]
          refine q_ext (xs := fnd.map V.int ++ [.int (r.2.length : Int)]) (ys := r.2.map V.int) upd_same (ev_var rfl) (ev_var rfl) (by rw [upd_ne htf]; exact e9 _ _ ht8) (by rw [List.length_append, List.length_map, List.length_map]; show fnd.length + 1 + _ ≤ 100000; omega) fun H10 e10 => ?_
          refine s_asg (ev_var rfl) fun H11 e11 => ?_
          refine ⟨A ++ PyFlat.put1 (((kq : Int) :: ns) :: xs), d', r.1, fnd ++ ((r.2.length : Int) :: r.2), _, _, _, _, _, rfl, ?_, ?_, hwf', hd8, ?_, ?_, ?_, ?_⟩
          · rw [hput, List.append_assoc]
            show _ = A ++ (((((kq : Int) :: ns)) ++ PyFlat.putRows xs) ++ PyFlat.put suf)
            rw [List.append_assoc]
            rfl
          · refine PoolAt.mono e11 (PoolAt.updL (PoolAt.mono e10 (PoolAt.updL (hp8.mono e9) (e9 _ _ hf8))) (e10 _ _ upd_same))
          · exact ((Ex.mut ((Ex.mut (e8.trans e9) hff).trans e10) hff).trans e11)
          · refine e11 _ _ ?_
            rw [upd_same, List.map_append, List.map_cons, List.append_assoc]
            rfl
          · rw [List.append_assoc]
            exact htold
          · rw [List.length_append, List.length_cons]
            omega
    · cases suf with
      | cons c suf =>
        exfalso
        have hb := of_decide_eq_false hb
        obtain ⟨kq, ns, xs, rfl, _⟩ := form_parts (hsf c List.mem_cons_self)
        have : PyFlat.put ((((kq : Int) :: ns) :: xs) :: suf) = (kq : Int) :: (ns ++ (PyFlat.putRows xs ++ PyFlat.put suf)) := by
          show ((((kq : Int) :: ns) ++ PyFlat.putRows xs) ++ PyFlat.put suf) = _
          rw [List.append_assoc]
          rfl
        rw [hput, this, List.length_append, List.length_cons] at hb
        omega
      | nil =>
        have hout : fnd = outs cs := by
          have : PyFlat.told (PyFlat.played Vbptao.step s []) = [] := rfl
          rw [this, List.append_nil] at htold
          exact htold
        refine s_ret (ev_var rfl) fun H5 e5 => k f0 H5 hff (e.trans (e4.trans e5)) ?_
        rw [← hout]
        exact e5 _ _ (e4 _ _ hfl)
end
end Ro

set_option Elab.async false
set_option linter.all false
set_option maxRecDepth 100000
set_option maxHeartbeats 4000000
namespace Ro
open PySem PySem.Spec PyProof.Rows L2 Evl
/-! ### what is asked, and what is due -/
theorem asked_parts {l : List Int} (h : PyVbptao.answers_asked l = true) : ∃ cs, l = PyFlat.put cs ∧ (∀ c ∈ cs, My.Form c) ∧ cs.length ≤ 400 ∧ PyVbptao.answers l = outs cs := by
  unfold PyVbptao.answers_asked at h
  unfold PyVbptao.answers
  cases hc : PyVbptao.calls l with
  | none => rw [hc] at h; cases h
  | some ds =>
    rw [hc] at h
    have hc' := hc
    unfold PyVbptao.calls at hc'
    cases hf : PyFlat.calls PyVbptao.shape l.length l with
    | none => rw [hf] at hc'; cases hc'
    | some cs =>
      rw [hf] at hc'
      have hd : cs.map PyVbptao.whole = ds := Option.some.inj hc'
      obtain ⟨h1, h2⟩ := PyFlat.put_calls _ _ _ hf
      have h' : (PyFlat.atMost 400 ds && VbptaoNeutral.asked ds) = true := h
      rw [Bool.and_eq_true] at h'
      have h4 : ds.length ≤ 400 := of_decide_eq_true h'.1
      have h5 := h'.2
      unfold VbptaoNeutral.asked at h5
      rw [Bool.and_eq_true, Bool.and_eq_true, List.all_eq_true] at h5
      have h6 : ∀ c ∈ cs, My.Form c ∧ PyVbptao.whole c = c := fun c hcm => My.form_of (h2 c hcm) (h5.2.2 _ (by rw [← hd]; exact List.mem_map_of_mem hcm))
      have h7 : ds = cs := by
        rw [← hd]
        exact (List.map_congr_left fun c hcm => (h6 c hcm).2).trans (List.map_id _)
      subst h7
      exact ⟨ds, h1, fun c hcm => (h6 c hcm).1, h4, rfl⟩
/-! ### what the top has written -/
theorem all_mk {P : Program} {w : World} {K : PySem.W.Frag} {h : Heap} {mg : Str → Option Value} {fa C m1 m2 : Addr} {o1 o2 : Obj} {its1 its2 : Array Value} {nn1 nn2 : Nat} {f0 f1 f2 f3 f4 f5 f6 f7 f8 f9 f10 f11 f12 f13 f14 f15 f16 f17 f18 f19 f20 f21 f22 f23 f24 f25 f26 f27 f28 f29 f30 g0 g1 g2 g3 g4 g5 g6 g7 g8 g9 g10 g11 g12 g13 g14 g15 g16 g17 g18 g19 g20 g21 g22 : Addr} {t0 t1 t2 t3 t4 t5 t6 t7 t8 t9 t10 t11 : Tok} (X : K.In h) (G : h.Ns mainGlobals mg) (hfa : mg "answers" = some (.ref fa))
    {odd0 and0 odd1 and1 odd2 and2 odd3 and3 odd4 and4 odd5 and5 odd6 and6 odd7 and7 odd8 and8 odd9 and9 odd10 and10 odd11 and11 odd12 and12 odd13 and13 odd14 and14 odd15 and15 odd16 and16 odd17 and17 odd18 and18 odd19 and19 odd20 and20 odd21 and21 odd22 and22 odd23 and23 odd24 and24 odd25 and25 odd26 and26 odd27 and27 odd28 and28 odd29 and29 odd30 and30 odm0 anm0 odm1 anm1 odm2 anm2 odm3 anm3 odm4 anm4 odm5 anm5 odm6 anm6 odm7 anm7 odm8 anm8 odm9 anm9 odm10 anm10 odm11 anm11 odm12 anm12 odm13 anm13 odm14 anm14 odm15 anm15 odm16 anm16 odm17 anm17 odm18 anm18 odm19 anm19 odm20 anm20 odm21 anm21 odm22 anm22 : Option Addr} {sld0 sld1 sld2 sld3 sld4 sld5 sld6 sld7 sld8 sld9 sld10 sld11 sld12 sld13 sld14 sld15 sld16 sld17 sld18 sld19 sld20 sld21 sld22 sld23 sld24 sld25 sld26 sld27 sld28 sld29 sld30 slm0 slm1 slm2 slm3 slm4 slm5 slm6 slm7 slm8 slm9 slm10 slm11 slm12 slm13 slm14 slm15 slm16 slm17 slm18 slm19 slm20 slm21 slm22 : Array (Option Value)} {ocd0 kVd0 dcd0 pmd0 cdd0 ctd0 ocd1 kVd1 dcd1 pmd1 cdd1 ctd1 ocd2 kVd2 dcd2 pmd2 cdd2 ctd2 ocd3 kVd3 dcd3 pmd3 cdd3 ctd3 ocd4 kVd4 dcd4 pmd4 cdd4 ctd4 ocd5 kVd5 dcd5 pmd5 cdd5 ctd5 ocd6 kVd6 dcd6 pmd6 cdd6 ctd6 ocd7 kVd7 dcd7 pmd7 cdd7 ctd7 ocd8 kVd8 dcd8 pmd8 cdd8 ctd8 ocd9 kVd9 dcd9 pmd9 cdd9 ctd9 ocd10 kVd10 dcd10 pmd10 cdd10 ctd10 ocd11 kVd11 dcd11 pmd11 cdd11 ctd11 ocd12 kVd12 dcd12 pmd12 cdd12 ctd12 ocd13 kVd13 dcd13 pmd13 cdd13 ctd13 ocd14 kVd14 dcd14 pmd14 cdd14 ctd14 ocd15 kVd15 dcd15 pmd15 cdd15 ctd15 ocd16 kVd16 dcd16 pmd16 cdd16 ctd16 ocd17 kVd17 dcd17 pmd17 cdd17 ctd17 ocd18 kVd18 dcd18 pmd18 cdd18 ctd18 ocd19 kVd19 dcd19 pmd19 cdd19 ctd19 ocd20 kVd20 dcd20 pmd20 cdd20 ctd20 ocd21 kVd21 dcd21 pmd21 cdd21 ctd21 ocd22 kVd22 dcd22 pmd22 cdd22 ctd22 ocd23 kVd23 dcd23 pmd23 cdd23 ctd23 ocd24 kVd24 dcd24 pmd24 cdd24 ctd24 ocd25 kVd25 dcd25 pmd25 cdd25 ctd25 ocd26 kVd26 dcd26 pmd26 cdd26 ctd26 ocd27 kVd27 dcd27 pmd27 cdd27 ctd27 ocd28 kVd28 dcd28 pmd28 cdd28 ctd28 ocd29 kVd29 dcd29 pmd29 cdd29 ctd29 ocd30 kVd30 dcd30 pmd30 cdd30 ctd30 ocm0 kVm0 dcm0 pmm0 cdm0 ctm0 ocm1 kVm1 dcm1 pmm1 cdm1 ctm1 ocm2 kVm2 dcm2 pmm2 cdm2 ctm2 ocm3 kVm3 dcm3 pmm3 cdm3 ctm3 ocm4 kVm4 dcm4 pmm4 cdm4 ctm4 ocm5 kVm5 dcm5 pmm5 cdm5 ctm5 ocm6 kVm6 dcm6 pmm6 cdm6 ctm6 ocm7 kVm7 dcm7 pmm7 cdm7 ctm7 ocm8 kVm8 dcm8 pmm8 cdm8 ctm8 ocm9 kVm9 dcm9 pmm9 cdm9 ctm9 ocm10 kVm10 dcm10 pmm10 cdm10 ctm10 ocm11 kVm11 dcm11 pmm11 cdm11 ctm11 ocm12 kVm12 dcm12 pmm12 cdm12 ctm12 ocm13 kVm13 dcm13 pmm13 cdm13 ctm13 ocm14 kVm14 dcm14 pmm14 cdm14 ctm14 ocm15 kVm15 dcm15 pmm15 cdm15 ctm15 ocm16 kVm16 dcm16 pmm16 cdm16 ctm16 ocm17 kVm17 dcm17 pmm17 cdm17 ctm17 ocm18 kVm18 dcm18 pmm18 cdm18 ctm18 ocm19 kVm19 dcm19 pmm19 cdm19 ctm19 ocm20 kVm20 dcm20 pmm20 cdm20 ctm20 ocm21 kVm21 dcm21 pmm21 cdm21 ctm21 ocm22 kVm22 dcm22 pmm22 cdm22 ctm22 : Value}
    (aC : PySem.W.nsIn K mainGlobals "Pool" = some (some (.ref C)))
    (ad0 : PySem.W.nsIn K mainGlobals "has" = some (some (.ref f0)))
    (ld0 : K.lookup f0 = some ⟨ocd0, odd0, .func (PySem.W.fnOf "has" "has" (defArgs sHas) (defBody sHas) (defScope sHas) .none kVd0 dcd0 pmd0 and0 cdd0 ctd0), sld0⟩)
    (cd_0 : PySem.W.codeIn K cdd0 "has" = true)
    (kd0 : PySem.W.keepIn K (.ref f0) = true)
    (ad1 : PySem.W.nsIn K mainGlobals "listed" = some (some (.ref f1)))
    (ld1 : K.lookup f1 = some ⟨ocd1, odd1, .func (PySem.W.fnOf "listed" "listed" (defArgs sListed) (defBody sListed) (defScope sListed) .none kVd1 dcd1 pmd1 and1 cdd1 ctd1), sld1⟩)
    (cd_1 : PySem.W.codeIn K cdd1 "listed" = true)
    (kd1 : PySem.W.keepIn K (.ref f1) = true)
    (ad2 : PySem.W.nsIn K mainGlobals "size" = some (some (.ref f2)))
    (ld2 : K.lookup f2 = some ⟨ocd2, odd2, .func (PySem.W.fnOf "size" "size" (defArgs sSize) (defBody sSize) (defScope sSize) .none kVd2 dcd2 pmd2 and2 cdd2 ctd2), sld2⟩)
    (cd_2 : PySem.W.codeIn K cdd2 "size" = true)
    (kd2 : PySem.W.keepIn K (.ref f2) = true)
    (ad3 : PySem.W.nsIn K mainGlobals "is_within" = some (some (.ref f3)))
    (ld3 : K.lookup f3 = some ⟨ocd3, odd3, .func (PySem.W.fnOf "is_within" "is_within" (defArgs sWithin) (defBody sWithin) (defScope sWithin) .none kVd3 dcd3 pmd3 and3 cdd3 ctd3), sld3⟩)
    (cd_3 : PySem.W.codeIn K cdd3 "is_within" = true)
    (kd3 : PySem.W.keepIn K (.ref f3) = true)
    (ad4 : PySem.W.nsIn K mainGlobals "everybody" = some (some (.ref f4)))
    (ld4 : K.lookup f4 = some ⟨ocd4, odd4, .func (PySem.W.fnOf "everybody" "everybody" (defArgs sEvery) (defBody sEvery) (defScope sEvery) .none kVd4 dcd4 pmd4 and4 cdd4 ctd4), sld4⟩)
    (cd_4 : PySem.W.codeIn K cdd4 "everybody" = true)
    (kd4 : PySem.W.keepIn K (.ref f4) = true)
    (ad5 : PySem.W.nsIn K mainGlobals "without" = some (some (.ref f5)))
    (ld5 : K.lookup f5 = some ⟨ocd5, odd5, .func (PySem.W.fnOf "without" "without" (defArgs sWithout) (defBody sWithout) (defScope sWithout) .none kVd5 dcd5 pmd5 and5 cdd5 ctd5), sld5⟩)
    (cd_5 : PySem.W.codeIn K cdd5 "without" = true)
    (kd5 : PySem.W.keepIn K (.ref f5) = true)
    (ad6 : PySem.W.nsIn K mainGlobals "merged" = some (some (.ref f6)))
    (ld6 : K.lookup f6 = some ⟨ocd6, odd6, .func (PySem.W.fnOf "merged" "merged" (defArgs sMerged) (defBody sMerged) (defScope sMerged) .none kVd6 dcd6 pmd6 and6 cdd6 ctd6), sld6⟩)
    (cd_6 : PySem.W.codeIn K cdd6 "merged" = true)
    (kd6 : PySem.W.keepIn K (.ref f6) = true)
    (ad7 : PySem.W.nsIn K mainGlobals "summed" = some (some (.ref f7)))
    (ld7 : K.lookup f7 = some ⟨ocd7, odd7, .func (PySem.W.fnOf "summed" "summed" (defArgs sSummed) (defBody sSummed) (defScope sSummed) .none kVd7 dcd7 pmd7 and7 cdd7 ctd7), sld7⟩)
    (cd_7 : PySem.W.codeIn K cdd7 "summed" = true)
    (kd7 : PySem.W.keepIn K (.ref f7) = true)
    (ad8 : PySem.W.nsIn K mainGlobals "alone" = some (some (.ref f8)))
    (ld8 : K.lookup f8 = some ⟨ocd8, odd8, .func (PySem.W.fnOf "alone" "alone" (defArgs sAlone) (defBody sAlone) (defScope sAlone) .none kVd8 dcd8 pmd8 and8 cdd8 ctd8), sld8⟩)
    (cd_8 : PySem.W.codeIn K cdd8 "alone" = true)
    (kd8 : PySem.W.keepIn K (.ref f8) = true)
    (ad9 : PySem.W.nsIn K mainGlobals "comes_worths" = some (some (.ref f9)))
    (ld9 : K.lookup f9 = some ⟨ocd9, odd9, .func (PySem.W.fnOf "comes" "comes" (defArgs sComes) (defBody sComes) (defScope sComes) .none kVd9 dcd9 pmd9 and9 cdd9 ctd9), sld9⟩)
    (cd_9 : PySem.W.codeIn K cdd9 "comes" = true)
    (kd9 : PySem.W.keepIn K (.ref f9) = true)
    (ad10 : PySem.W.nsIn K mainGlobals "first_objection" = some (some (.ref f10)))
    (ld10 : K.lookup f10 = some ⟨ocd10, odd10, .func (PySem.W.fnOf "first_objection" "first_objection" (defArgs sFirst) (defBody sFirst) (defScope sFirst) .none kVd10 dcd10 pmd10 and10 cdd10 ctd10), sld10⟩)
    (cd_10 : PySem.W.codeIn K cdd10 "first_objection" = true)
    (kd10 : PySem.W.keepIn K (.ref f10) = true)
    (ad11 : PySem.W.nsIn K mainGlobals "is_whole" = some (some (.ref f11)))
    (ld11 : K.lookup f11 = some ⟨ocd11, odd11, .func (PySem.W.fnOf "is_whole" "is_whole" (defArgs sWhole) (defBody sWhole) (defScope sWhole) .none kVd11 dcd11 pmd11 and11 cdd11 ctd11), sld11⟩)
    (cd_11 : PySem.W.codeIn K cdd11 "is_whole" = true)
    (kd11 : PySem.W.keepIn K (.ref f11) = true)
    (ad12 : PySem.W.nsIn K mainGlobals "is_stable" = some (some (.ref f12)))
    (ld12 : K.lookup f12 = some ⟨ocd12, odd12, .func (PySem.W.fnOf "is_stable" "is_stable" (defArgs sStable) (defBody sStable) (defScope sStable) .none kVd12 dcd12 pmd12 and12 cdd12 ctd12), sld12⟩)
    (cd_12 : PySem.W.codeIn K cdd12 "is_stable" = true)
    (kd12 : PySem.W.keepIn K (.ref f12) = true)
    (ad13 : PySem.W.nsIn K mainGlobals "joined_to" = some (some (.ref f13)))
    (ld13 : K.lookup f13 = some ⟨ocd13, odd13, .func (PySem.W.fnOf "joined_to" "joined_to" (defArgs sJoined) (defBody sJoined) (defScope sJoined) .none kVd13 dcd13 pmd13 and13 cdd13 ctd13), sld13⟩)
    (cd_13 : PySem.W.codeIn K cdd13 "joined_to" = true)
    (kd13 : PySem.W.keepIn K (.ref f13) = true)
    (ad14 : PySem.W.nsIn K mainGlobals "hanging_with" = some (some (.ref f14)))
    (ld14 : K.lookup f14 = some ⟨ocd14, odd14, .func (PySem.W.fnOf "hanging_with" "hanging_with" (defArgs sHang) (defBody sHang) (defScope sHang) .none kVd14 dcd14 pmd14 and14 cdd14 ctd14), sld14⟩)
    (cd_14 : PySem.W.codeIn K cdd14 "hanging_with" = true)
    (kd14 : PySem.W.keepIn K (.ref f14) = true)
    (ad15 : PySem.W.nsIn K mainGlobals "parts" = some (some (.ref f15)))
    (ld15 : K.lookup f15 = some ⟨ocd15, odd15, .func (PySem.W.fnOf "parts" "parts" (defArgs sParts) (defBody sParts) (defScope sParts) .none kVd15 dcd15 pmd15 and15 cdd15 ctd15), sld15⟩)
    (cd_15 : PySem.W.codeIn K cdd15 "parts" = true)
    (kd15 : PySem.W.keepIn K (.ref f15) = true)
    (ad16 : PySem.W.nsIn K mainGlobals "least_part" = some (some (.ref f16)))
    (ld16 : K.lookup f16 = some ⟨ocd16, odd16, .func (PySem.W.fnOf "least_part" "least_part" (defArgs sLeast) (defBody sLeast) (defScope sLeast) .none kVd16 dcd16 pmd16 and16 cdd16 ctd16), sld16⟩)
    (cd_16 : PySem.W.codeIn K cdd16 "least_part" = true)
    (kd16 : PySem.W.keepIn K (.ref f16) = true)
    (ad17 : PySem.W.nsIn K mainGlobals "parts_of" = some (some (.ref f17)))
    (ld17 : K.lookup f17 = some ⟨ocd17, odd17, .func (PySem.W.fnOf "parts_of" "parts_of" (defArgs sPartsOf) (defBody sPartsOf) (defScope sPartsOf) .none kVd17 dcd17 pmd17 and17 cdd17 ctd17), sld17⟩)
    (cd_17 : PySem.W.codeIn K cdd17 "parts_of" = true)
    (kd17 : PySem.W.keepIn K (.ref f17) = true)
    (ad18 : PySem.W.nsIn K mainGlobals "first_division" = some (some (.ref f18)))
    (ld18 : K.lookup f18 = some ⟨ocd18, odd18, .func (PySem.W.fnOf "first_division" "first_division" (defArgs sDivision) (defBody sDivision) (defScope sDivision) .none kVd18 dcd18 pmd18 and18 cdd18 ctd18), sld18⟩)
    (cd_18 : PySem.W.codeIn K cdd18 "first_division" = true)
    (kd18 : PySem.W.keepIn K (.ref f18) = true)
    (ad19 : PySem.W.nsIn K mainGlobals "common_divisor" = some (some (.ref f19)))
    (ld19 : K.lookup f19 = some ⟨ocd19, odd19, .func (PySem.W.fnOf "common_divisor" "common_divisor" (defArgs sGcd) (defBody sGcd) (defScope sGcd) .none kVd19 dcd19 pmd19 and19 cdd19 ctd19), sld19⟩)
    (cd_19 : PySem.W.codeIn K cdd19 "common_divisor" = true)
    (kd19 : PySem.W.keepIn K (.ref f19) = true)
    (ad20 : PySem.W.nsIn K mainGlobals "equal_parts_of" = some (some (.ref f20)))
    (ld20 : K.lookup f20 = some ⟨ocd20, odd20, .func (PySem.W.fnOf "equal_parts_of" "equal_parts_of" (defArgs sEqOf) (defBody sEqOf) (defScope sEqOf) .none kVd20 dcd20 pmd20 and20 cdd20 ctd20), sld20⟩)
    (cd_20 : PySem.W.codeIn K cdd20 "equal_parts_of" = true)
    (kd20 : PySem.W.keepIn K (.ref f20) = true)
    (ad21 : PySem.W.nsIn K mainGlobals "equal_parts" = some (some (.ref f21)))
    (ld21 : K.lookup f21 = some ⟨ocd21, odd21, .func (PySem.W.fnOf "equal_parts" "equal_parts" (defArgs sEqual) (defBody sEqual) (defScope sEqual) .none kVd21 dcd21 pmd21 and21 cdd21 ctd21), sld21⟩)
    (cd_21 : PySem.W.codeIn K cdd21 "equal_parts" = true)
    (kd21 : PySem.W.keepIn K (.ref f21) = true)
    (ad22 : PySem.W.nsIn K mainGlobals "by_order" = some (some (.ref f22)))
    (ld22 : K.lookup f22 = some ⟨ocd22, odd22, .func (PySem.W.fnOf "by_order" "by_order" (defArgs sOrder) (defBody sOrder) (defScope sOrder) .none kVd22 dcd22 pmd22 and22 cdd22 ctd22), sld22⟩)
    (cd_22 : PySem.W.codeIn K cdd22 "by_order" = true)
    (kd22 : PySem.W.keepIn K (.ref f22) = true)
    (ad23 : PySem.W.nsIn K mainGlobals "least_and_most" = some (some (.ref f23)))
    (ld23 : K.lookup f23 = some ⟨ocd23, odd23, .func (PySem.W.fnOf "least_and_most" "least_and_most" (defArgs sLM) (defBody sLM) (defScope sLM) .none kVd23 dcd23 pmd23 and23 cdd23 ctd23), sld23⟩)
    (cd_23 : PySem.W.codeIn K cdd23 "least_and_most" = true)
    (kd23 : PySem.W.keepIn K (.ref f23) = true)
    (ad24 : PySem.W.nsIn K mainGlobals "is_better" = some (some (.ref f24)))
    (ld24 : K.lookup f24 = some ⟨ocd24, odd24, .func (PySem.W.fnOf "is_better" "is_better" (defArgs sBetter) (defBody sBetter) (defScope sBetter) .none kVd24 dcd24 pmd24 and24 cdd24 ctd24), sld24⟩)
    (cd_24 : PySem.W.codeIn K cdd24 "is_better" = true)
    (kd24 : PySem.W.keepIn K (.ref f24) = true)
    (ad25 : PySem.W.nsIn K mainGlobals "next_group" = some (some (.ref f25)))
    (ld25 : K.lookup f25 = some ⟨ocd25, odd25, .func (PySem.W.fnOf "next_group" "next_group" (defArgs sNext) (defBody sNext) (defScope sNext) .none kVd25 dcd25 pmd25 and25 cdd25 ctd25), sld25⟩)
    (cd_25 : PySem.W.codeIn K cdd25 "next_group" = true)
    (kd25 : PySem.W.keepIn K (.ref f25) = true)
    (ad26 : PySem.W.nsIn K mainGlobals "most_even" = some (some (.ref f26)))
    (ld26 : K.lookup f26 = some ⟨ocd26, odd26, .func (PySem.W.fnOf "most_even" "most_even" (defArgs sEven) (defBody sEven) (defScope sEven) .none kVd26 dcd26 pmd26 and26 cdd26 ctd26), sld26⟩)
    (cd_26 : PySem.W.codeIn K cdd26 "most_even" = true)
    (kd26 : PySem.W.keepIn K (.ref f26) = true)
    (ad27 : PySem.W.nsIn K mainGlobals "with_one" = some (some (.ref f27)))
    (ld27 : K.lookup f27 = some ⟨ocd27, odd27, .func (PySem.W.fnOf "with_one" "with_one" (defArgs sWithOne) (defBody sWithOne) (defScope sWithOne) .none kVd27 dcd27 pmd27 and27 cdd27 ctd27), sld27⟩)
    (cd_27 : PySem.W.codeIn K cdd27 "with_one" = true)
    (kd27 : PySem.W.keepIn K (.ref f27) = true)
    (ad28 : PySem.W.nsIn K mainGlobals "with_row" = some (some (.ref f28)))
    (ld28 : K.lookup f28 = some ⟨ocd28, odd28, .func (PySem.W.fnOf "with_row" "with_row" (defArgs sWithRow) (defBody sWithRow) (defScope sWithRow) .none kVd28 dcd28 pmd28 and28 cdd28 ctd28), sld28⟩)
    (cd_28 : PySem.W.codeIn K cdd28 "with_row" = true)
    (kd28 : PySem.W.keepIn K (.ref f28) = true)
    (ad29 : PySem.W.nsIn K mainGlobals "with_numbers" = some (some (.ref f29)))
    (ld29 : K.lookup f29 = some ⟨ocd29, odd29, .func (PySem.W.fnOf "with_numbers" "with_numbers" (defArgs sWithNums) (defBody sWithNums) (defScope sWithNums) .none kVd29 dcd29 pmd29 and29 cdd29 ctd29), sld29⟩)
    (cd_29 : PySem.W.codeIn K cdd29 "with_numbers" = true)
    (kd29 : PySem.W.keepIn K (.ref f29) = true)
    (ad30 : PySem.W.nsIn K mainGlobals "answers" = some (some (.ref f30)))
    (ld30 : K.lookup f30 = some ⟨ocd30, odd30, .func (PySem.W.fnOf "answers" "answers" (defArgs sAns) (defBody sAns) (defScope sAns) .none kVd30 dcd30 pmd30 and30 cdd30 ctd30), sld30⟩)
    (cd_30 : PySem.W.codeIn K cdd30 "answers" = true)
    (kd30 : PySem.W.keepIn K (.ref f30) = true)
    (am0 : PySem.W.findIn K (.ref C) "is_set" = some (some (.ref g0)))
    (im0 : PySem.W.isFn K (.ref g0) = true)
    (lm0 : K.lookup g0 = some ⟨ocm0, odm0, .func (PySem.W.fnOf "is_set" "Pool.is_set" (defArgs sIsSet) (defBody sIsSet) (defScope sIsSet) .none kVm0 dcm0 pmm0 anm0 cdm0 ctm0), slm0⟩)
    (cm0 : PySem.W.codeIn K cdm0 "Pool.is_set" = true)
    (km0 : PySem.W.keepIn K (.ref g0) = true)
    (am1 : PySem.W.findIn K (.ref C) "is_owner" = some (some (.ref g1)))
    (im1 : PySem.W.isFn K (.ref g1) = true)
    (lm1 : K.lookup g1 = some ⟨ocm1, odm1, .func (PySem.W.fnOf "is_owner" "Pool.is_owner" (defArgs sIsOwner) (defBody sIsOwner) (defScope sIsOwner) .none kVm1 dcm1 pmm1 anm1 cdm1 ctm1), slm1⟩)
    (cm1 : PySem.W.codeIn K cdm1 "Pool.is_owner" = true)
    (km1 : PySem.W.keepIn K (.ref g1) = true)
    (am2 : PySem.W.findIn K (.ref C) "are_shares" = some (some (.ref g2)))
    (im2 : PySem.W.isFn K (.ref g2) = true)
    (lm2 : K.lookup g2 = some ⟨ocm2, odm2, .func (PySem.W.fnOf "are_shares" "Pool.are_shares" (defArgs sAreShares) (defBody sAreShares) (defScope sAreShares) .none kVm2 dcm2 pmm2 anm2 cdm2 ctm2), slm2⟩)
    (cm2 : PySem.W.codeIn K cdm2 "Pool.are_shares" = true)
    (km2 : PySem.W.keepIn K (.ref g2) = true)
    (am3 : PySem.W.findIn K (.ref C) "products" = some (some (.ref g3)))
    (im3 : PySem.W.isFn K (.ref g3) = true)
    (lm3 : K.lookup g3 = some ⟨ocm3, odm3, .func (PySem.W.fnOf "products" "Pool.products" (defArgs sProducts) (defBody sProducts) (defScope sProducts) .none kVm3 dcm3 pmm3 anm3 cdm3 ctm3), slm3⟩)
    (cm3 : PySem.W.codeIn K cdm3 "Pool.products" = true)
    (km3 : PySem.W.keepIn K (.ref g3) = true)
    (am4 : PySem.W.findIn K (.ref C) "worth" = some (some (.ref g4)))
    (im4 : PySem.W.isFn K (.ref g4) = true)
    (lm4 : K.lookup g4 = some ⟨ocm4, odm4, .func (PySem.W.fnOf "worth" "Pool.worth" (defArgs sWorth) (defBody sWorth) (defScope sWorth) .none kVm4 dcm4 pmm4 anm4 cdm4 ctm4), slm4⟩)
    (cm4 : PySem.W.codeIn K cdm4 "Pool.worth" = true)
    (km4 : PySem.W.keepIn K (.ref g4) = true)
    (am5 : PySem.W.findIn K (.ref C) "comes" = some (some (.ref g5)))
    (im5 : PySem.W.isFn K (.ref g5) = true)
    (lm5 : K.lookup g5 = some ⟨ocm5, odm5, .func (PySem.W.fnOf "comes" "Pool.comes" (defArgs sMComes) (defBody sMComes) (defScope sMComes) .none kVm5 dcm5 pmm5 anm5 cdm5 ctm5), slm5⟩)
    (cm5 : PySem.W.codeIn K cdm5 "Pool.comes" = true)
    (km5 : PySem.W.keepIn K (.ref g5) = true)
    (am6 : PySem.W.findIn K (.ref C) "equal" = some (some (.ref g6)))
    (im6 : PySem.W.isFn K (.ref g6) = true)
    (lm6 : K.lookup g6 = some ⟨ocm6, odm6, .func (PySem.W.fnOf "equal" "Pool.equal" (defArgs sMEqual) (defBody sMEqual) (defScope sMEqual) .none kVm6 dcm6 pmm6 anm6 cdm6 ctm6), slm6⟩)
    (cm6 : PySem.W.codeIn K cdm6 "Pool.equal" = true)
    (km6 : PySem.W.keepIn K (.ref g6) = true)
    (am7 : PySem.W.findIn K (.ref C) "core" = some (some (.ref g7)))
    (im7 : PySem.W.isFn K (.ref g7) = true)
    (lm7 : K.lookup g7 = some ⟨ocm7, odm7, .func (PySem.W.fnOf "core" "Pool.core" (defArgs sCore) (defBody sCore) (defScope sCore) .none kVm7 dcm7 pmm7 anm7 cdm7 ctm7), slm7⟩)
    (cm7 : PySem.W.codeIn K cdm7 "Pool.core" = true)
    (km7 : PySem.W.keepIn K (.ref g7) = true)
    (am8 : PySem.W.findIn K (.ref C) "divide" = some (some (.ref g8)))
    (im8 : PySem.W.isFn K (.ref g8) = true)
    (lm8 : K.lookup g8 = some ⟨ocm8, odm8, .func (PySem.W.fnOf "divide" "Pool.divide" (defArgs sDivide) (defBody sDivide) (defScope sDivide) .none kVm8 dcm8 pmm8 anm8 cdm8 ctm8), slm8⟩)
    (cm8 : PySem.W.codeIn K cdm8 "Pool.divide" = true)
    (km8 : PySem.W.keepIn K (.ref g8) = true)
    (am9 : PySem.W.findIn K (.ref C) "even" = some (some (.ref g9)))
    (im9 : PySem.W.isFn K (.ref g9) = true)
    (lm9 : K.lookup g9 = some ⟨ocm9, odm9, .func (PySem.W.fnOf "even" "Pool.even" (defArgs sMEven) (defBody sMEven) (defScope sMEven) .none kVm9 dcm9 pmm9 anm9 cdm9 ctm9), slm9⟩)
    (cm9 : PySem.W.codeIn K cdm9 "Pool.even" = true)
    (km9 : PySem.W.keepIn K (.ref g9) = true)
    (am10 : PySem.W.findIn K (.ref C) "least_most" = some (some (.ref g10)))
    (im10 : PySem.W.isFn K (.ref g10) = true)
    (lm10 : K.lookup g10 = some ⟨ocm10, odm10, .func (PySem.W.fnOf "least_most" "Pool.least_most" (defArgs sMLM) (defBody sMLM) (defScope sMLM) .none kVm10 dcm10 pmm10 anm10 cdm10 ctm10), slm10⟩)
    (cm10 : PySem.W.codeIn K cdm10 "Pool.least_most" = true)
    (km10 : PySem.W.keepIn K (.ref g10) = true)
    (am11 : PySem.W.findIn K (.ref C) "order" = some (some (.ref g11)))
    (im11 : PySem.W.isFn K (.ref g11) = true)
    (lm11 : K.lookup g11 = some ⟨ocm11, odm11, .func (PySem.W.fnOf "order" "Pool.order" (defArgs sMOrder) (defBody sMOrder) (defScope sMOrder) .none kVm11 dcm11 pmm11 anm11 cdm11 ctm11), slm11⟩)
    (cm11 : PySem.W.codeIn K cdm11 "Pool.order" = true)
    (km11 : PySem.W.keepIn K (.ref g11) = true)
    (am12 : PySem.W.findIn K (.ref C) "leaves" = some (some (.ref g12)))
    (im12 : PySem.W.isFn K (.ref g12) = true)
    (lm12 : K.lookup g12 = some ⟨ocm12, odm12, .func (PySem.W.fnOf "leaves" "Pool.leaves" (defArgs sLeaves) (defBody sLeaves) (defScope sLeaves) .none kVm12 dcm12 pmm12 anm12 cdm12 ctm12), slm12⟩)
    (cm12 : PySem.W.codeIn K cdm12 "Pool.leaves" = true)
    (km12 : PySem.W.keepIn K (.ref g12) = true)
    (am13 : PySem.W.findIn K (.ref C) "told" = some (some (.ref g13)))
    (im13 : PySem.W.isFn K (.ref g13) = true)
    (lm13 : K.lookup g13 = some ⟨ocm13, odm13, .func (PySem.W.fnOf "told" "Pool.told" (defArgs sTold) (defBody sTold) (defScope sTold) .none kVm13 dcm13 pmm13 anm13 cdm13 ctm13), slm13⟩)
    (cm13 : PySem.W.codeIn K cdm13 "Pool.told" = true)
    (km13 : PySem.W.keepIn K (.ref g13) = true)
    (am14 : PySem.W.findIn K (.ref C) "numbers" = some (some (.ref g14)))
    (im14 : PySem.W.isFn K (.ref g14) = true)
    (lm14 : K.lookup g14 = some ⟨ocm14, odm14, .func (PySem.W.fnOf "numbers" "Pool.numbers" (defArgs sNumbers) (defBody sNumbers) (defScope sNumbers) .none kVm14 dcm14 pmm14 anm14 cdm14 ctm14), slm14⟩)
    (cm14 : PySem.W.codeIn K cdm14 "Pool.numbers" = true)
    (km14 : PySem.W.keepIn K (.ref g14) = true)
    (am15 : PySem.W.findIn K (.ref C) "needing" = some (some (.ref g15)))
    (im15 : PySem.W.isFn K (.ref g15) = true)
    (lm15 : K.lookup g15 = some ⟨ocm15, odm15, .func (PySem.W.fnOf "needing" "Pool.needing" (defArgs sNeeding) (defBody sNeeding) (defScope sNeeding) .none kVm15 dcm15 pmm15 anm15 cdm15 ctm15), slm15⟩)
    (cm15 : PySem.W.codeIn K cdm15 "Pool.needing" = true)
    (km15 : PySem.W.keepIn K (.ref g15) = true)
    (am16 : PySem.W.findIn K (.ref C) "gap" = some (some (.ref g16)))
    (im16 : PySem.W.isFn K (.ref g16) = true)
    (lm16 : K.lookup g16 = some ⟨ocm16, odm16, .func (PySem.W.fnOf "gap" "Pool.gap" (defArgs sGap) (defBody sGap) (defScope sGap) .none kVm16 dcm16 pmm16 anm16 cdm16 ctm16), slm16⟩)
    (cm16 : PySem.W.codeIn K cdm16 "Pool.gap" = true)
    (km16 : PySem.W.keepIn K (.ref g16) = true)
    (am17 : PySem.W.findIn K (.ref C) "apart" = some (some (.ref g17)))
    (im17 : PySem.W.isFn K (.ref g17) = true)
    (lm17 : K.lookup g17 = some ⟨ocm17, odm17, .func (PySem.W.fnOf "apart" "Pool.apart" (defArgs sApart) (defBody sApart) (defScope sApart) .none kVm17 dcm17 pmm17 anm17 cdm17 ctm17), slm17⟩)
    (cm17 : PySem.W.codeIn K cdm17 "Pool.apart" = true)
    (km17 : PySem.W.keepIn K (.ref g17) = true)
    (am18 : PySem.W.findIn K (.ref C) "begin" = some (some (.ref g18)))
    (im18 : PySem.W.isFn K (.ref g18) = true)
    (lm18 : K.lookup g18 = some ⟨ocm18, odm18, .func (PySem.W.fnOf "begin" "Pool.begin" (defArgs sBegin) (defBody sBegin) (defScope sBegin) .none kVm18 dcm18 pmm18 anm18 cdm18 ctm18), slm18⟩)
    (cm18 : PySem.W.codeIn K cdm18 "Pool.begin" = true)
    (km18 : PySem.W.keepIn K (.ref g18) = true)
    (am19 : PySem.W.findIn K (.ref C) "product" = some (some (.ref g19)))
    (im19 : PySem.W.isFn K (.ref g19) = true)
    (lm19 : K.lookup g19 = some ⟨ocm19, odm19, .func (PySem.W.fnOf "product" "Pool.product" (defArgs sProduct) (defBody sProduct) (defScope sProduct) .none kVm19 dcm19 pmm19 anm19 cdm19 ctm19), slm19⟩)
    (cm19 : PySem.W.codeIn K cdm19 "Pool.product" = true)
    (km19 : PySem.W.keepIn K (.ref g19) = true)
    (am20 : PySem.W.findIn K (.ref C) "drop" = some (some (.ref g20)))
    (im20 : PySem.W.isFn K (.ref g20) = true)
    (lm20 : K.lookup g20 = some ⟨ocm20, odm20, .func (PySem.W.fnOf "drop" "Pool.drop" (defArgs sDrop) (defBody sDrop) (defScope sDrop) .none kVm20 dcm20 pmm20 anm20 cdm20 ctm20), slm20⟩)
    (cm20 : PySem.W.codeIn K cdm20 "Pool.drop" = true)
    (km20 : PySem.W.keepIn K (.ref g20) = true)
    (am21 : PySem.W.findIn K (.ref C) "merge" = some (some (.ref g21)))
    (im21 : PySem.W.isFn K (.ref g21) = true)
    (lm21 : K.lookup g21 = some ⟨ocm21, odm21, .func (PySem.W.fnOf "merge" "Pool.merge" (defArgs sMerge) (defBody sMerge) (defScope sMerge) .none kVm21 dcm21 pmm21 anm21 cdm21 ctm21), slm21⟩)
    (cm21 : PySem.W.codeIn K cdm21 "Pool.merge" = true)
    (km21 : PySem.W.keepIn K (.ref g21) = true)
    (am22 : PySem.W.findIn K (.ref C) "__init__" = some (some (.ref g22)))
    (im22 : PySem.W.isFn K (.ref g22) = true)
    (lm22 : K.lookup g22 = some ⟨ocm22, odm22, .func (PySem.W.fnOf "__init__" "Pool.__init__" (defArgs sInit) (defBody sInit) (defScope sInit) .none kVm22 dcm22 pmm22 anm22 cdm22 ctm22), slm22⟩)
    (cm22 : PySem.W.codeIn K cdm22 "Pool.__init__" = true)
    (km22 : PySem.W.keepIn K (.ref g22) = true)
    (pg : PySem.W.plainGet K C Str.empty = true)
    (hd : PySem.W.hasDictIn K C = true)
    (po : PySem.W.plainOver K C = true)
    (sa : PySem.W.findIn K (.ref C) "__setattr__" = some (some (.builtin "object.__setattr__")))
    (mk : PySem.W.makesIn K C = true)
    (kc : PySem.W.keepIn K (.ref C) = true)
    (nM : PySem.W.findIn K (.ref C) "many" = some none)
    (nK : PySem.W.findIn K (.ref C) "known" = some none)
    (ak0 : PySem.W.nsIn K mainGlobals "MOST_OWNERS" = some (some (.int (8) t0)))
    (ak1 : PySem.W.nsIn K mainGlobals "MOST_PRODUCTS" = some (some (.int (16) t1)))
    (ak2 : PySem.W.nsIn K mainGlobals "GREATEST_NUMBER" = some (some (.int (99) t2)))
    (ak3 : PySem.W.nsIn K mainGlobals "GREATEST_WORTH" = some (some (.int (1000000000) t3)))
    (ak4 : PySem.W.nsIn K mainGlobals "GREATEST_SHARE" = some (some (.int (1000000000000) t4)))
    (ak5 : PySem.W.nsIn K mainGlobals "OUT_OF_RANGE" = some (some (.int (-3) t5)))
    (ak6 : PySem.W.nsIn K mainGlobals "NO_FORM" = some (some (.int (-4) t6)))
    (ak7 : PySem.W.nsIn K mainGlobals "NO_PRODUCT" = some (some (.int (-5) t7)))
    (ak8 : PySem.W.nsIn K mainGlobals "THERE" = some (some (.int (-6) t8)))
    (ak9 : PySem.W.nsIn K mainGlobals "NO_PAIR" = some (some (.int (-7) t9)))
    (ak10 : PySem.W.nsIn K mainGlobals "NOT_STABLE" = some (some (.int (-8) t10)))
    (ak11 : PySem.W.nsIn K mainGlobals "FULL" = some (some (.int (-9) t11)))
    (ab0 : PySem.W.nsIn K mainGlobals "range" = some none)
    (ab1 : PySem.W.nsIn K mainGlobals "sum" = some none)
    (ab2 : PySem.W.nsIn K mainGlobals "len" = some none)
    (ab3 : PySem.W.nsIn K mainGlobals "enumerate" = some none)
    (ab4 : PySem.W.nsIn K mainGlobals "zip" = some none)
    (ab5 : PySem.W.nsIn K mainGlobals "sorted" = some none)
    (ab6 : PySem.W.nsIn K mainGlobals "list" = some none)
    (ab7 : PySem.W.nsIn K mainGlobals "dict" = some none)
    (ab8 : PySem.W.nsIn K mainGlobals "int" = some none)
    (ab9 : PySem.W.nsIn K mainGlobals "max" = some none)
    (ab10 : PySem.W.nsIn K mainGlobals "all" = some none)
    (at1 : PySem.W.nsIn K mainGlobals "MANY" = some (some (.ref m1)))
    (lt1 : K.lookup m1 = some o1)
    (tt1 : o1.cls = .type "tuple")
    (dt1 : o1.data = .seq its1 nn1)
    (zt1 : its1.size ≤ sizeLine)
    (vt1 : Vals (manyL.map V.int) its1.toList)
    (at2 : PySem.W.nsIn K mainGlobals "WITH_LIST" = some (some (.ref m2)))
    (lt2 : K.lookup m2 = some o2)
    (tt2 : o2.cls = .type "tuple")
    (dt2 : o2.data = .seq its2 nn2)
    (zt2 : its2.size ≤ sizeLine)
    (vt2 : Vals (withL.map V.int) its2.toList)
    : ∃ fd : FuncData, (∀ (s : Shared) (us : List Value), us.length = (["calls"] : List Str).length → BindsTo s fd ⟨us, []⟩ ((["calls"] : List Str).zip us)) ∧ ∀ base : Heap, K.In base → base.Ns mainGlobals mg → FnOk P w K mg base CX0 8 fa fd ["calls"] (PL (aAns K)) := by
  have e := hfa.symm.trans (PySem.W.mg_of X G ad30)
  cases e
  have B : Bt mg := ⟨PySem.W.mg_none_of X G ab0, PySem.W.mg_none_of X G ab1, PySem.W.mg_none_of X G ab2, PySem.W.mg_none_of X G ab3, PySem.W.mg_none_of X G ab4, PySem.W.mg_none_of X G ab5, PySem.W.mg_none_of X G ab6, PySem.W.mg_none_of X G ab7, PySem.W.mg_none_of X G ab8, PySem.W.mg_none_of X G ab9, PySem.W.mg_none_of X G ab10⟩
  have T : Txt K mg C := ⟨⟨pg, hd, po, sa⟩, nM, nK, PySem.W.mg_of X G aC, ⟨t0, PySem.W.mg_of X G ak0⟩, ⟨t1, PySem.W.mg_of X G ak1⟩, ⟨t2, PySem.W.mg_of X G ak2⟩, ⟨t3, PySem.W.mg_of X G ak3⟩, ⟨t4, PySem.W.mg_of X G ak4⟩, ⟨t5, PySem.W.mg_of X G ak5⟩, ⟨t6, PySem.W.mg_of X G ak6⟩, ⟨t7, PySem.W.mg_of X G ak7⟩, ⟨t8, PySem.W.mg_of X G ak8⟩, ⟨t9, PySem.W.mg_of X G ak9⟩, ⟨t10, PySem.W.mg_of X G ak10⟩, ⟨t11, PySem.W.mg_of X G ak11⟩⟩
  have G1 : TupG K mg "MANY" manyL := ⟨m1, PySem.W.mg_of X G at1, fun H => .inr ⟨o1, its1, nn1, lt1, tt1, dt1, zt1, vt1⟩⟩
  have G2 : TupG K mg "WITH_LIST" withL := ⟨m2, PySem.W.mg_of X G at2, fun H => .inr ⟨o2, its2, nn2, lt2, tt2, dt2, zt2, vt2⟩⟩
  have Fd_has : Def K mg "has" sHas "has" := ⟨f0, _, fun_mk (st := sHas) ld0 cd_0 kd0, PySem.W.mg_of X G ad0⟩
  have Fd_listed : Def K mg "listed" sListed "listed" := ⟨f1, _, fun_mk (st := sListed) ld1 cd_1 kd1, PySem.W.mg_of X G ad1⟩
  have Fd_size : Def K mg "size" sSize "size" := ⟨f2, _, fun_mk (st := sSize) ld2 cd_2 kd2, PySem.W.mg_of X G ad2⟩
  have Fd_is_within : Def K mg "is_within" sWithin "is_within" := ⟨f3, _, fun_mk (st := sWithin) ld3 cd_3 kd3, PySem.W.mg_of X G ad3⟩
  have Fd_everybody : Def K mg "everybody" sEvery "everybody" := ⟨f4, _, fun_mk (st := sEvery) ld4 cd_4 kd4, PySem.W.mg_of X G ad4⟩
  have Fd_without : Def K mg "without" sWithout "without" := ⟨f5, _, fun_mk (st := sWithout) ld5 cd_5 kd5, PySem.W.mg_of X G ad5⟩
  have Fd_merged : Def K mg "merged" sMerged "merged" := ⟨f6, _, fun_mk (st := sMerged) ld6 cd_6 kd6, PySem.W.mg_of X G ad6⟩
  have Fd_summed : Def K mg "summed" sSummed "summed" := ⟨f7, _, fun_mk (st := sSummed) ld7 cd_7 kd7, PySem.W.mg_of X G ad7⟩
  have Fd_alone : Def K mg "alone" sAlone "alone" := ⟨f8, _, fun_mk (st := sAlone) ld8 cd_8 kd8, PySem.W.mg_of X G ad8⟩
  have Fd_comes : Def K mg "comes" sComes "comes_worths" := ⟨f9, _, fun_mk (st := sComes) ld9 cd_9 kd9, PySem.W.mg_of X G ad9⟩
  have Fd_first_objection : Def K mg "first_objection" sFirst "first_objection" := ⟨f10, _, fun_mk (st := sFirst) ld10 cd_10 kd10, PySem.W.mg_of X G ad10⟩
  have Fd_is_whole : Def K mg "is_whole" sWhole "is_whole" := ⟨f11, _, fun_mk (st := sWhole) ld11 cd_11 kd11, PySem.W.mg_of X G ad11⟩
  have Fd_is_stable : Def K mg "is_stable" sStable "is_stable" := ⟨f12, _, fun_mk (st := sStable) ld12 cd_12 kd12, PySem.W.mg_of X G ad12⟩
  have Fd_joined_to : Def K mg "joined_to" sJoined "joined_to" := ⟨f13, _, fun_mk (st := sJoined) ld13 cd_13 kd13, PySem.W.mg_of X G ad13⟩
  have Fd_hanging_with : Def K mg "hanging_with" sHang "hanging_with" := ⟨f14, _, fun_mk (st := sHang) ld14 cd_14 kd14, PySem.W.mg_of X G ad14⟩
  have Fd_parts : Def K mg "parts" sParts "parts" := ⟨f15, _, fun_mk (st := sParts) ld15 cd_15 kd15, PySem.W.mg_of X G ad15⟩
  have Fd_least_part : Def K mg "least_part" sLeast "least_part" := ⟨f16, _, fun_mk (st := sLeast) ld16 cd_16 kd16, PySem.W.mg_of X G ad16⟩
  have Fd_parts_of : Def K mg "parts_of" sPartsOf "parts_of" := ⟨f17, _, fun_mk (st := sPartsOf) ld17 cd_17 kd17, PySem.W.mg_of X G ad17⟩
  have Fd_first_division : Def K mg "first_division" sDivision "first_division" := ⟨f18, _, fun_mk (st := sDivision) ld18 cd_18 kd18, PySem.W.mg_of X G ad18⟩
  have Fd_common_divisor : Def K mg "common_divisor" sGcd "common_divisor" := ⟨f19, _, fun_mk (st := sGcd) ld19 cd_19 kd19, PySem.W.mg_of X G ad19⟩
  have Fd_equal_parts_of : Def K mg "equal_parts_of" sEqOf "equal_parts_of" := ⟨f20, _, fun_mk (st := sEqOf) ld20 cd_20 kd20, PySem.W.mg_of X G ad20⟩
  have Fd_equal_parts : Def K mg "equal_parts" sEqual "equal_parts" := ⟨f21, _, fun_mk (st := sEqual) ld21 cd_21 kd21, PySem.W.mg_of X G ad21⟩
  have Fd_by_order : Def K mg "by_order" sOrder "by_order" := ⟨f22, _, fun_mk (st := sOrder) ld22 cd_22 kd22, PySem.W.mg_of X G ad22⟩
  have Fd_least_and_most : Def K mg "least_and_most" sLM "least_and_most" := ⟨f23, _, fun_mk (st := sLM) ld23 cd_23 kd23, PySem.W.mg_of X G ad23⟩
  have Fd_is_better : Def K mg "is_better" sBetter "is_better" := ⟨f24, _, fun_mk (st := sBetter) ld24 cd_24 kd24, PySem.W.mg_of X G ad24⟩
  have Fd_next_group : Def K mg "next_group" sNext "next_group" := ⟨f25, _, fun_mk (st := sNext) ld25 cd_25 kd25, PySem.W.mg_of X G ad25⟩
  have Fd_most_even : Def K mg "most_even" sEven "most_even" := ⟨f26, _, fun_mk (st := sEven) ld26 cd_26 kd26, PySem.W.mg_of X G ad26⟩
  have Fd_with_one : Def K mg "with_one" sWithOne "with_one" := ⟨f27, _, fun_mk (st := sWithOne) ld27 cd_27 kd27, PySem.W.mg_of X G ad27⟩
  have Fd_with_row : Def K mg "with_row" sWithRow "with_row" := ⟨f28, _, fun_mk (st := sWithRow) ld28 cd_28 kd28, PySem.W.mg_of X G ad28⟩
  have Fd_with_numbers : Def K mg "with_numbers" sWithNums "with_numbers" := ⟨f29, _, fun_mk (st := sWithNums) ld29 cd_29 kd29, PySem.W.mg_of X G ad29⟩
  have Fans := fun_mk (st := sAns) ld30 cd_30 kd30
  have Fm_is_set : DefM K C "is_set" "Pool.is_set" sIsSet := ⟨g0, _, fun_mk (st := sIsSet) lm0 cm0 km0, ⟨am0, im0, km0⟩⟩
  have Fm_is_owner : DefM K C "is_owner" "Pool.is_owner" sIsOwner := ⟨g1, _, fun_mk (st := sIsOwner) lm1 cm1 km1, ⟨am1, im1, km1⟩⟩
  have Fm_are_shares : DefM K C "are_shares" "Pool.are_shares" sAreShares := ⟨g2, _, fun_mk (st := sAreShares) lm2 cm2 km2, ⟨am2, im2, km2⟩⟩
  have Fm_products : DefM K C "products" "Pool.products" sProducts := ⟨g3, _, fun_mk (st := sProducts) lm3 cm3 km3, ⟨am3, im3, km3⟩⟩
  have Fm_worth : DefM K C "worth" "Pool.worth" sWorth := ⟨g4, _, fun_mk (st := sWorth) lm4 cm4 km4, ⟨am4, im4, km4⟩⟩
  have Fm_comes : DefM K C "comes" "Pool.comes" sMComes := ⟨g5, _, fun_mk (st := sMComes) lm5 cm5 km5, ⟨am5, im5, km5⟩⟩
  have Fm_equal : DefM K C "equal" "Pool.equal" sMEqual := ⟨g6, _, fun_mk (st := sMEqual) lm6 cm6 km6, ⟨am6, im6, km6⟩⟩
  have Fm_core : DefM K C "core" "Pool.core" sCore := ⟨g7, _, fun_mk (st := sCore) lm7 cm7 km7, ⟨am7, im7, km7⟩⟩
  have Fm_divide : DefM K C "divide" "Pool.divide" sDivide := ⟨g8, _, fun_mk (st := sDivide) lm8 cm8 km8, ⟨am8, im8, km8⟩⟩
  have Fm_even : DefM K C "even" "Pool.even" sMEven := ⟨g9, _, fun_mk (st := sMEven) lm9 cm9 km9, ⟨am9, im9, km9⟩⟩
  have Fm_least_most : DefM K C "least_most" "Pool.least_most" sMLM := ⟨g10, _, fun_mk (st := sMLM) lm10 cm10 km10, ⟨am10, im10, km10⟩⟩
  have Fm_order : DefM K C "order" "Pool.order" sMOrder := ⟨g11, _, fun_mk (st := sMOrder) lm11 cm11 km11, ⟨am11, im11, km11⟩⟩
  have Fm_leaves : DefM K C "leaves" "Pool.leaves" sLeaves := ⟨g12, _, fun_mk (st := sLeaves) lm12 cm12 km12, ⟨am12, im12, km12⟩⟩
  have Fm_told : DefM K C "told" "Pool.told" sTold := ⟨g13, _, fun_mk (st := sTold) lm13 cm13 km13, ⟨am13, im13, km13⟩⟩
  have Fm_numbers : DefM K C "numbers" "Pool.numbers" sNumbers := ⟨g14, _, fun_mk (st := sNumbers) lm14 cm14 km14, ⟨am14, im14, km14⟩⟩
  have Fm_needing : DefM K C "needing" "Pool.needing" sNeeding := ⟨g15, _, fun_mk (st := sNeeding) lm15 cm15 km15, ⟨am15, im15, km15⟩⟩
  have Fm_gap : DefM K C "gap" "Pool.gap" sGap := ⟨g16, _, fun_mk (st := sGap) lm16 cm16 km16, ⟨am16, im16, km16⟩⟩
  have Fm_apart : DefM K C "apart" "Pool.apart" sApart := ⟨g17, _, fun_mk (st := sApart) lm17 cm17 km17, ⟨am17, im17, km17⟩⟩
  have Fm_begin : DefM K C "begin" "Pool.begin" sBegin := ⟨g18, _, fun_mk (st := sBegin) lm18 cm18 km18, ⟨am18, im18, km18⟩⟩
  have Fm_product : DefM K C "product" "Pool.product" sProduct := ⟨g19, _, fun_mk (st := sProduct) lm19 cm19 km19, ⟨am19, im19, km19⟩⟩
  have Fm_drop : DefM K C "drop" "Pool.drop" sDrop := ⟨g20, _, fun_mk (st := sDrop) lm20 cm20 km20, ⟨am20, im20, km20⟩⟩
  have Fm_merge : DefM K C "merge" "Pool.merge" sMerge := ⟨g21, _, fun_mk (st := sMerge) lm21 cm21 km21, ⟨am21, im21, km21⟩⟩
  have Fi := fun_mk (st := sInit) lm22 cm22 km22
  have Bi := Fi.binds (ps := ["self"]) fun _ _ _ _ _ _ us hl => match us, hl with | [_], _ => rfl
  have M : Mk K C g22 := ⟨mk, am22, im22, kc⟩
  refine ⟨PySem.W.fnOf "answers" "answers" (defArgs sAns) (defBody sAns) (defScope sAns) .none kVd30 dcd30 pmd30 and30 cdd30 ctd30, fun s us hu => match us, hu with | [_], _ => .of_eq rfl, fun base _ _ => ?_⟩
  have c_has : Cal P w K mg base 1 "has" (PV aHas) := ok_has Fd_has
  have c_listed : Cal P w K mg base 2 "listed" (PL aListed) := ok_listed B Fd_listed c_has
  have c_size : Cal P w K mg base 3 "size" (PV aSize) := ok_size B Fd_size c_listed
  have c_is_within : Cal P w K mg base 1 "is_within" (PV aWithin) := ok_within Fd_is_within
  have c_everybody : Cal P w K mg base 1 "everybody" (PV aEvery) := ok_every Fd_everybody
  have c_without : Cal P w K mg base 1 "without" (PV aWithout) := ok_without Fd_without
  have c_merged : Cal P w K mg base 2 "merged" (PV aMerged) := ok_merged Fd_merged c_has c_everybody
  have c_summed : Cal P w K mg base 2 "summed" (PV (aSummed K)) := ok_summed B Fd_summed c_has
  have c_alone : Cal P w K mg base 2 "alone" (PV (aAlone K)) := ok_alone B Fd_alone c_is_within
  have c_comes_worths : Cal P w K mg base 3 "comes_worths" (PV (aComes K)) := ok_comes Fd_comes c_alone
  have c_first_objection : Cal P w K mg base 3 "first_objection" (PV (aFirst K)) := ok_first B Fd_first_objection c_alone c_summed
  have c_is_whole : Cal P w K mg base 3 "is_whole" (PV (aWhole K)) := ok_whole B Fd_is_whole c_alone c_everybody
  have c_is_stable : Cal P w K mg base 4 "is_stable" (PV (aStable K)) := ok_stable Fd_is_stable c_is_whole c_first_objection
  have c_joined_to : Cal P w K mg base 1 "joined_to" (PV (aJoined K)) := ok_joined Fd_joined_to
  have c_hanging_with : Cal P w K mg base 2 "hanging_with" (PV (aHang K)) := ok_hang Fd_hanging_with c_joined_to
  have c_parts : Cal P w K mg base 3 "parts" (PL (aParts K)) := ok_parts B Fd_parts c_has c_hanging_with
  have c_least_part : Cal P w K mg base 3 "least_part" (PV (aLeast K)) := ok_least B Fd_least_part c_is_within c_has c_alone c_summed
  have c_parts_of : Cal P w K mg base 4 "parts_of" (spPartsOf K) := ok_partsOf B Fd_parts_of c_listed c_without c_least_part
  have c_first_division : Cal P w K mg base 5 "first_division" (PL (aDivision K)) := ok_division B Fd_first_division c_parts_of
  have c_common_divisor : Cal P w K mg base 1 "common_divisor" (PV aGcd) := ok_gcd Fd_common_divisor
  have c_equal_parts_of : Cal P w K mg base 1 "equal_parts_of" (PL aEqOf) := ok_eqOf B Fd_equal_parts_of
  have c_equal_parts : Cal P w K mg base 3 "equal_parts" (PL (aEqual K)) := ok_equal B Fd_equal_parts c_listed c_equal_parts_of
  have c_by_order : Cal P w K mg base 4 "by_order" (PL (aOrder K)) := ok_order Fd_by_order c_comes_worths
  have c_least_and_most : Cal P w K mg base 4 "least_and_most" (PL (aLM K)) := ok_LM Fd_least_and_most c_everybody c_comes_worths
  have c_is_better : Cal P w K mg base 1 "is_better" (PV aBetter) := ok_better Fd_is_better
  have c_next_group : Cal P w K mg base 4 "next_group" (PU (aNext K)) := ok_next B Fd_next_group c_everybody c_alone c_is_within c_size c_is_better
  have c_most_even : Cal P w K mg base 5 "most_even" (spEven K) := ok_even B Fd_most_even c_everybody c_next_group c_size c_common_divisor c_listed
  have m_is_set : Met P w K mg base C 2 "is_set" (PV (aIsSet C)) := ok_isSet T Fm_is_set c_everybody
  have m_is_owner : Met P w K mg base C 1 "is_owner" (PV (aIsOwner C)) := ok_isOwner T Fm_is_owner
  have m_are_shares : Met P w K mg base C 1 "are_shares" (PV (aAreShares K C)) := ok_areShares B T Fm_are_shares
  have m_products : Met P w K mg base C 1 "products" (spProducts K C) := ok_products B T Fm_products
  have m_worth : Met P w K mg base C 3 "worth" (spM C (A1 3)) := ok_worth T Fm_worth m_products m_is_set c_alone
  have m_comes : Met P w K mg base C 4 "comes" (spM C (A2 4)) := ok_mcomes T Fm_comes m_products m_is_set m_is_owner c_has c_comes_worths
  have m_equal : Met P w K mg base C 4 "equal" (spM C (A0 5)) := ok_mequal T Fm_equal m_products c_equal_parts
  have m_core : Met P w K mg base C 4 "core" (spM C (AL K 6)) := ok_core T Fm_core m_products m_are_shares c_is_whole c_alone c_everybody c_first_objection
  have m_divide : Met P w K mg base C 6 "divide" (spM C (AL K 7)) := ok_divide T Fm_divide m_products m_are_shares c_is_stable c_first_division
  have m_even : Met P w K mg base C 6 "even" (spM C (A0 8)) := ok_meven T Fm_even m_products c_most_even
  have m_least_most : Met P w K mg base C 5 "least_most" (spM C (A1 9)) := ok_mLM T Fm_least_most m_products m_is_owner c_least_and_most
  have m_order : Met P w K mg base C 5 "order" (spM C (AL K 10)) := ok_morder B T Fm_order m_products c_by_order
  have m_leaves : Met P w K mg base C 4 "leaves" (spM C (A1 12)) := ok_leaves T Fm_leaves m_products m_is_owner c_everybody c_comes_worths
  have m_told : Met P w K mg base C 1 "told" (spM C (A1 13)) := ok_told B T Fm_told
  have m_numbers : Met P w K mg base C 1 "numbers" (spM C (A0 14)) := ok_numbers B T Fm_numbers
  have m_needing : Met P w K mg base C 2 "needing" (spM C (A1 15)) := ok_needing T Fm_needing m_products m_is_owner c_has
  have m_gap : Met P w K mg base C 3 "gap" (spM C (A1L K 16)) := ok_gap B T Fm_gap m_products m_is_set m_are_shares c_summed c_alone
  have m_apart : Met P w K mg base C 4 "apart" (spM C (A0 17)) := ok_apart T Fm_apart m_products c_parts
  have Ii : FnOk P w K mg base CX0 1 _ _ ["self"] (spInit C) := ok_init T Fi
  have m_begin : Met P w K mg base C 1 "begin" (spM C (A1 0)) := ok_begin T Fm_begin
  have m_product : Met P w K mg base C 3 "product" (spM C (A3 1)) := ok_product B T Fm_product m_is_set
  have m_drop : Met P w K mg base C 1 "drop" (spM C (A1 2)) := ok_drop B T Fm_drop
  have m_merge : Met P w K mg base C 3 "merge" (spM C (A2 11)) := ok_merge B T Fm_merge m_products m_is_owner c_merged
  have c_with_one : Cal P w K mg base 6 "with_one" (spM C AOne) := ok_withOne T Fd_with_one m_begin m_drop m_worth m_least_most m_leaves m_told m_needing
  have c_with_row : Cal P w K mg base 7 "with_row" (spM C (ARow K)) := ok_withRow T Fd_with_row m_core m_divide m_order m_gap
  have c_with_numbers : Cal P w K mg base 7 "with_numbers" (spM C (ANums K)) := ok_withNums B T Fd_with_numbers c_with_one m_product m_comes m_merge m_equal m_even m_numbers m_apart
  exact ok_ans B T Ii Bi M G1 G2 Fans c_with_row c_with_numbers
end Ro

set_option Elab.async false
set_option linter.all false
open PySem PySem.W PyProof.Rows
set_option maxRecDepth 100000 in
set_option maxHeartbeats 8000000 in
theorem PySem.Challenge.cw_royaltypools_s01_answers_holds : PySem.Challenge.rw_royaltypools_s01_answers.Holds := by
  w_on; k_headS; (case hw => exact ⟨[.list [.int 5]], by decide +kernel, by decide +kernel⟩)
  k_fillS
  refine L2.walk_specK (r := PySem.Challenge.rw_royaltypools_s01_answers) (k := 8) (CX := L2.CX0) (ps := ["calls"]) (sp := fun K => Ro.PL (Ro.aAns K)) (by decide +kernel) rfl rfl ⟨rfl, by decide, by decide⟩ (fun w h Y => PySem.W.kIn_of Y) ?F ?S (fun _ _ _ _ z => z)
  case F =>
    intro w mg fa h Y KX G hmg
    refine' Ro.all_mk KX G hmg ?aC ?ad0 ?ld0 ?cd_0 ?kd0 ?ad1 ?ld1 ?cd_1 ?kd1 ?ad2 ?ld2 ?cd_2 ?kd2 ?ad3 ?ld3 ?cd_3 ?kd3 ?ad4 ?ld4 ?cd_4 ?kd4 ?ad5 ?ld5 ?cd_5 ?kd5 ?ad6 ?ld6 ?cd_6 ?kd6 ?ad7 ?ld7 ?cd_7 ?kd7 ?ad8 ?ld8 ?cd_8 ?kd8 ?ad9 ?ld9 ?cd_9 ?kd9 ?ad10 ?ld10 ?cd_10 ?kd10 ?ad11 ?ld11 ?cd_11 ?kd11 ?ad12 ?ld12 ?cd_12 ?kd12 ?ad13 ?ld13 ?cd_13 ?kd13 ?ad14 ?ld14 ?cd_14 ?kd14 ?ad15 ?ld15 ?cd_15 ?kd15 ?ad16 ?ld16 ?cd_16 ?kd16 ?ad17 ?ld17 ?cd_17 ?kd17 ?ad18 ?ld18 ?cd_18 ?kd18 ?ad19 ?ld19 ?cd_19 ?kd19 ?ad20 ?ld20 ?cd_20 ?kd20 ?ad21 ?ld21 ?cd_21 ?kd21 ?ad22 ?ld22 ?cd_22 ?kd22 ?ad23 ?ld23 ?cd_23 ?kd23 ?ad24 ?ld24 ?cd_24 ?kd24 ?ad25 ?ld25 ?cd_25 ?kd25 ?ad26 ?ld26 ?cd_26 ?kd26 ?ad27 ?ld27 ?cd_27 ?kd27 ?ad28 ?ld28 ?cd_28 ?kd28 ?ad29 ?ld29 ?cd_29 ?kd29 ?ad30 ?ld30 ?cd_30 ?kd30 ?am0 ?im0 ?lm0 ?cm0 ?km0 ?am1 ?im1 ?lm1 ?cm1 ?km1 ?am2 ?im2 ?lm2 ?cm2 ?km2 ?am3 ?im3 ?lm3 ?cm3 ?km3 ?am4 ?im4 ?lm4 ?cm4 ?km4 ?am5 ?im5 ?lm5 ?cm5 ?km5 ?am6 ?im6 ?lm6 ?cm6 ?km6 ?am7 ?im7 ?lm7 ?cm7 ?km7 ?am8 ?im8 ?lm8 ?cm8 ?km8 ?am9 ?im9 ?lm9 ?cm9 ?km9 ?am10 ?im10 ?lm10 ?cm10 ?km10 ?am11 ?im11 ?lm11 ?cm11 ?km11 ?am12 ?im12 ?lm12 ?cm12 ?km12 ?am13 ?im13 ?lm13 ?cm13 ?km13 ?am14 ?im14 ?lm14 ?cm14 ?km14 ?am15 ?im15 ?lm15 ?cm15 ?km15 ?am16 ?im16 ?lm16 ?cm16 ?km16 ?am17 ?im17 ?lm17 ?cm17 ?km17 ?am18 ?im18 ?lm18 ?cm18 ?km18 ?am19 ?im19 ?lm19 ?cm19 ?km19 ?am20 ?im20 ?lm20 ?cm20 ?km20 ?am21 ?im21 ?lm21 ?cm21 ?km21 ?am22 ?im22 ?lm22 ?cm22 ?km22 ?pg ?hd ?po ?sa ?mk ?kc ?nM ?nK ?ak0 ?ak1 ?ak2 ?ak3 ?ak4 ?ak5 ?ak6 ?ak7 ?ak8 ?ak9 ?ak10 ?ak11 ?ab0 ?ab1 ?ab2 ?ab3 ?ab4 ?ab5 ?ab6 ?ab7 ?ab8 ?ab9 ?ab10 ?at1 ?lt1 ?tt1 ?dt1 ?zt1 ?vt1 ?at2 ?lt2 ?tt2 ?dt2 ?zt2 ?vt2
    (case aC => k_is)
    (case ad0 => k_is)
    (case ld0 => k_is)
    (case cd_0 => k_is)
    (case kd0 => k_is)
    (case ad1 => k_is)
    (case ld1 => k_is)
    (case cd_1 => k_is)
    (case kd1 => k_is)
    (case ad2 => k_is)
    (case ld2 => k_is)
    (case cd_2 => k_is)
    (case kd2 => k_is)
    (case ad3 => k_is)
    (case ld3 => k_is)
    (case cd_3 => k_is)
    (case kd3 => k_is)
    (case ad4 => k_is)
    (case ld4 => k_is)
    (case cd_4 => k_is)
    (case kd4 => k_is)
    (case ad5 => k_is)
    (case ld5 => k_is)
    (case cd_5 => k_is)
    (case kd5 => k_is)
    (case ad6 => k_is)
    (case ld6 => k_is)
    (case cd_6 => k_is)
    (case kd6 => k_is)
    (case ad7 => k_is)
    (case ld7 => k_is)
    (case cd_7 => k_is)
    (case kd7 => k_is)
    (case ad8 => k_is)
    (case ld8 => k_is)
    (case cd_8 => k_is)
    (case kd8 => k_is)
    (case ad9 => k_is)
    (case ld9 => k_is)
    (case cd_9 => k_is)
    (case kd9 => k_is)
    (case ad10 => k_is)
    (case ld10 => k_is)
    (case cd_10 => k_is)
    (case kd10 => k_is)
    (case ad11 => k_is)
    (case ld11 => k_is)
    (case cd_11 => k_is)
    (case kd11 => k_is)
    (case ad12 => k_is)
    (case ld12 => k_is)
    (case cd_12 => k_is)
    (case kd12 => k_is)
    (case ad13 => k_is)
    (case ld13 => k_is)
    (case cd_13 => k_is)
    (case kd13 => k_is)
    (case ad14 => k_is)
    (case ld14 => k_is)
    (case cd_14 => k_is)
    (case kd14 => k_is)
    (case ad15 => k_is)
    (case ld15 => k_is)
    (case cd_15 => k_is)
    (case kd15 => k_is)
    (case ad16 => k_is)
    (case ld16 => k_is)
    (case cd_16 => k_is)
    (case kd16 => k_is)
    (case ad17 => k_is)
    (case ld17 => k_is)
    (case cd_17 => k_is)
    (case kd17 => k_is)
    (case ad18 => k_is)
    (case ld18 => k_is)
    (case cd_18 => k_is)
    (case kd18 => k_is)
    (case ad19 => k_is)
    (case ld19 => k_is)
    (case cd_19 => k_is)
    (case kd19 => k_is)
    (case ad20 => k_is)
    (case ld20 => k_is)
    (case cd_20 => k_is)
    (case kd20 => k_is)
    (case ad21 => k_is)
    (case ld21 => k_is)
    (case cd_21 => k_is)
    (case kd21 => k_is)
    (case ad22 => k_is)
    (case ld22 => k_is)
    (case cd_22 => k_is)
    (case kd22 => k_is)
    (case ad23 => k_is)
    (case ld23 => k_is)
    (case cd_23 => k_is)
    (case kd23 => k_is)
    (case ad24 => k_is)
    (case ld24 => k_is)
    (case cd_24 => k_is)
    (case kd24 => k_is)
    (case ad25 => k_is)
    (case ld25 => k_is)
    (case cd_25 => k_is)
    (case kd25 => k_is)
    (case ad26 => k_is)
    (case ld26 => k_is)
    (case cd_26 => k_is)
    (case kd26 => k_is)
    (case ad27 => k_is)
    (case ld27 => k_is)
    (case cd_27 => k_is)
    (case kd27 => k_is)
    (case ad28 => k_is)
    (case ld28 => k_is)
    (case cd_28 => k_is)
    (case kd28 => k_is)
    (case ad29 => k_is)
    (case ld29 => k_is)
    (case cd_29 => k_is)
    (case kd29 => k_is)
    (case ad30 => k_is)
    (case ld30 => k_is)
    (case cd_30 => k_is)
    (case kd30 => k_is)
    (case am0 => k_is)
    (case im0 => k_is)
    (case lm0 => k_is)
    (case cm0 => k_is)
    (case km0 => k_is)
    (case am1 => k_is)
    (case im1 => k_is)
    (case lm1 => k_is)
    (case cm1 => k_is)
    (case km1 => k_is)
    (case am2 => k_is)
    (case im2 => k_is)
    (case lm2 => k_is)
    (case cm2 => k_is)
    (case km2 => k_is)
    (case am3 => k_is)
    (case im3 => k_is)
    (case lm3 => k_is)
    (case cm3 => k_is)
    (case km3 => k_is)
    (case am4 => k_is)
    (case im4 => k_is)
    (case lm4 => k_is)
    (case cm4 => k_is)
    (case km4 => k_is)
    (case am5 => k_is)
    (case im5 => k_is)
    (case lm5 => k_is)
    (case cm5 => k_is)
    (case km5 => k_is)
    (case am6 => k_is)
    (case im6 => k_is)
    (case lm6 => k_is)
    (case cm6 => k_is)
    (case km6 => k_is)
    (case am7 => k_is)
    (case im7 => k_is)
    (case lm7 => k_is)
    (case cm7 => k_is)
    (case km7 => k_is)
    (case am8 => k_is)
    (case im8 => k_is)
    (case lm8 => k_is)
    (case cm8 => k_is)
    (case km8 => k_is)
    (case am9 => k_is)
    (case im9 => k_is)
    (case lm9 => k_is)
    (case cm9 => k_is)
    (case km9 => k_is)
    (case am10 => k_is)
    (case im10 => k_is)
    (case lm10 => k_is)
    (case cm10 => k_is)
    (case km10 => k_is)
    (case am11 => k_is)
    (case im11 => k_is)
    (case lm11 => k_is)
    (case cm11 => k_is)
    (case km11 => k_is)
    (case am12 => k_is)
    (case im12 => k_is)
    (case lm12 => k_is)
    (case cm12 => k_is)
    (case km12 => k_is)
    (case am13 => k_is)
    (case im13 => k_is)
    (case lm13 => k_is)
    (case cm13 => k_is)
    (case km13 => k_is)
    (case am14 => k_is)
    (case im14 => k_is)
    (case lm14 => k_is)
    (case cm14 => k_is)
    (case km14 => k_is)
    (case am15 => k_is)
    (case im15 => k_is)
    (case lm15 => k_is)
    (case cm15 => k_is)
    (case km15 => k_is)
    (case am16 => k_is)
    (case im16 => k_is)
    (case lm16 => k_is)
    (case cm16 => k_is)
    (case km16 => k_is)
    (case am17 => k_is)
    (case im17 => k_is)
    (case lm17 => k_is)
    (case cm17 => k_is)
    (case km17 => k_is)
    (case am18 => k_is)
    (case im18 => k_is)
    (case lm18 => k_is)
    (case cm18 => k_is)
    (case km18 => k_is)
    (case am19 => k_is)
    (case im19 => k_is)
    (case lm19 => k_is)
    (case cm19 => k_is)
    (case km19 => k_is)
    (case am20 => k_is)
    (case im20 => k_is)
    (case lm20 => k_is)
    (case cm20 => k_is)
    (case km20 => k_is)
    (case am21 => k_is)
    (case im21 => k_is)
    (case lm21 => k_is)
    (case cm21 => k_is)
    (case km21 => k_is)
    (case am22 => k_is)
    (case im22 => k_is)
    (case lm22 => k_is)
    (case cm22 => k_is)
    (case km22 => k_is)
    (case pg => k_is)
    (case hd => k_is)
    (case po => k_is)
    (case sa => k_is)
    (case mk => k_is)
    (case kc => k_is)
    (case nM => k_is)
    (case nK => k_is)
    (case ak0 => k_is)
    (case ak1 => k_is)
    (case ak2 => k_is)
    (case ak3 => k_is)
    (case ak4 => k_is)
    (case ak5 => k_is)
    (case ak6 => k_is)
    (case ak7 => k_is)
    (case ak8 => k_is)
    (case ak9 => k_is)
    (case ak10 => k_is)
    (case ak11 => k_is)
    (case ab0 => k_is)
    (case ab1 => k_is)
    (case ab2 => k_is)
    (case ab3 => k_is)
    (case ab4 => k_is)
    (case ab5 => k_is)
    (case ab6 => k_is)
    (case ab7 => k_is)
    (case ab8 => k_is)
    (case ab9 => k_is)
    (case ab10 => k_is)
    (case at1 => k_is)
    (case lt1 => k_is)
    (case tt1 => rfl)
    (case dt1 => rfl)
    (case zt1 => decide +kernel)
    (case vt1 => repeat (first | exact Paired.nil | refine Paired.cons ⟨_, rfl⟩ ?_))
    (case at2 => k_is)
    (case lt2 => k_is)
    (case tt2 => rfl)
    (case dt2 => rfl)
    (case zt2 => decide +kernel)
    (case vt2 => repeat (first | exact Paired.nil | refine Paired.cons ⟨_, rfl⟩ ?_))
  case S =>
    intro K H xs a hO hwi hask hx
    cases hx with
    | cons h1 h2 =>
      cases h2
      cases h1 with
      | lst hs ha =>
        have e := L2.ints_dw a.1 _ ha
        subst e
        obtain ⟨cs, hl, hf, h400, hans⟩ := Ro.asked_parts (l := a.1) hask
        refine ⟨_, ⟨_, cs, rfl, by rw [← hl]; exact hs, hf, h400, rfl⟩, fun p H' hp e hp' => ?_⟩
        have hres : Ro.outs cs = PyVbptao.answers a.1 := hans.symm
        rw [hres] at hp'
        exact .lst (L2.SqL.of hp') (L2.dw_ints _)
