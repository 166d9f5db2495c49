import PyProof.Rows.All
import PyZn91
import Wide.All
import OpenK.AllK
import Wide.FinOn
import Open.SpecLaws
import KE.OsGo
import HandS.ForSpec
import HandS.TryMany
import HandS.ExcCtx
import HandS.Hot
import HandS.HotCalls
import HandS.ExcInit
import HandS.ExcInitHot
import HandS.ExcField
import HandS.ExcSuper
import PyProof.StrLoop
import HandS.Comp
import HandS.Iter
import KE.KDictKeyed
import HandS.Dict
import KE.KRevSl
import PyProof.EqAt
import HandS.TupAny
import HandS.IsInst
import HandS.Codes
import PySem.Challenge.RW_flakysearches_s01_answers
set_option Elab.async false
set_option linter.all false
set_option maxRecDepth 100000
set_option maxHeartbeats 4000000
namespace Fs
open R7286g.Spec

/-! ### candidates after an answer -/
def Asc (l : List Candidate) : Prop := l.Pairwise (fun a b => a.version < b.version)

theorem after_true_le {c : Candidate} {k : Nat} (h : c.version ≤ k) : c.after k true = some c := by
  unfold Candidate.after; rw [decide_eq_true h]; rfl
theorem after_true_gt {c : Candidate} {k : Nat} (h : k < c.version) : c.after k true = if c.bad = 0 then none else some { c with bad := c.bad - 1 } := by
  unfold Candidate.after; rw [decide_eq_false (by omega)]; rfl
theorem after_false_gt {c : Candidate} {k : Nat} (h : k < c.version) : c.after k false = some c := by
  unfold Candidate.after; rw [decide_eq_false (by omega)]; rfl
theorem after_false_le {c : Candidate} {k : Nat} (h : c.version ≤ k) : c.after k false = if c.good = 0 then none else some { c with good := c.good - 1 } := by
  unfold Candidate.after; rw [decide_eq_true h]; rfl

theorem after_version {c c' : Candidate} {k : Nat} {b : Bool} (h : c.after k b = some c') : c'.version = c.version := by
  rcases Nat.lt_or_ge k c.version with g | g <;> cases b
  · rw [after_false_gt g] at h; cases h; rfl
  · rw [after_true_gt g] at h; split at h <;> cases h; rfl
  · rw [after_false_le g] at h; split at h <;> cases h; rfl
  · rw [after_true_le g] at h; cases h; rfl

def wgt (c : Candidate) : Nat := c.bad + c.good + 1
theorem sumOf_nil : sumOf [] = 0 := rfl
theorem sumOf_cons (c : Candidate) (l : List Candidate) : sumOf (c :: l) = wgt c + sumOf l := by
  simp [sumOf, wgt]
theorem afterAnswer_nil (k : Nat) (b : Bool) : afterAnswer [] k b = [] := rfl
theorem afterAnswer_cons (c : Candidate) (l : List Candidate) (k : Nat) (b : Bool) : afterAnswer (c :: l) k b = (match c.after k b with | none => afterAnswer l k b | some c' => c' :: afterAnswer l k b) := by
  unfold afterAnswer
  rw [List.filterMap_cons]
  cases c.after k b <;> rfl

theorem wgt_after_le {c c' : Candidate} {k : Nat} {b : Bool} (h : c.after k b = some c') : wgt c' ≤ wgt c := by
  rcases Nat.lt_or_ge k c.version with g | g <;> cases b
  · rw [after_false_gt g] at h; cases h; exact Nat.le_refl _
  · rw [after_true_gt g] at h; split at h <;> cases h; simp only [wgt]; omega
  · rw [after_false_le g] at h; split at h <;> cases h; simp only [wgt]; omega
  · rw [after_true_le g] at h; cases h; exact Nat.le_refl _
theorem wgt_after_lt {c c' : Candidate} {k : Nat} {b : Bool} (h : c.after k b = some c') (n : decide (c.version ≤ k) ≠ b) : wgt c' < wgt c := by
  rcases Nat.lt_or_ge k c.version with g | g <;> cases b
  · exact absurd (decide_eq_false (by omega)) n
  · rw [after_true_gt g] at h; split at h <;> cases h; simp only [wgt]; omega
  · rw [after_false_le g] at h; split at h <;> cases h; simp only [wgt]; omega
  · exact absurd (decide_eq_true g) n

theorem sum_after_le (k : Nat) (b : Bool) : ∀ l, sumOf (afterAnswer l k b) ≤ sumOf l
  | [] => Nat.le_refl _
  | c :: l => by
    have ih := sum_after_le k b l
    rw [afterAnswer_cons, sumOf_cons]
    cases h : c.after k b with
    | none => show sumOf (afterAnswer l k b) ≤ _; omega
    | some c' =>
      show sumOf (c' :: afterAnswer l k b) ≤ _
      have := wgt_after_le h
      rw [sumOf_cons]; omega
theorem sum_after_lt {k : Nat} {b : Bool} : ∀ {l : List Candidate} {c : Candidate}, c ∈ l → decide (c.version ≤ k) ≠ b → sumOf (afterAnswer l k b) < sumOf l
  | [], c, hc, _ => by cases hc
  | x :: l, c, hc, n => by
    rw [afterAnswer_cons, sumOf_cons]
    have hw : 0 < wgt x := Nat.succ_pos _
    rcases List.mem_cons.mp hc with rfl | hc
    · have ih := sum_after_le k b l
      cases h : c.after k b with
      | none => show sumOf (afterAnswer l k b) < _; omega
      | some c' =>
        show sumOf (c' :: afterAnswer l k b) < _
        have := wgt_after_lt h n
        rw [sumOf_cons]; omega
    · have ih := sum_after_lt hc n
      cases h : x.after k b with
      | none => show sumOf (afterAnswer l k b) < _; omega
      | some c' =>
        show sumOf (c' :: afterAnswer l k b) < _
        have := wgt_after_le h
        rw [sumOf_cons]; omega

theorem asc_after {l : List Candidate} (h : Asc l) (k : Nat) (b : Bool) : Asc (afterAnswer l k b) := by
  refine List.Pairwise.filterMap _ (fun a a' r c hc c' hc' => ?_) h
  rw [after_version hc, after_version hc']
  exact r
theorem asc_nil : Asc [] := List.Pairwise.nil
theorem asc_start (n p q : Nat) : Asc (startOf n p q) := by
  unfold startOf Asc
  rw [List.pairwise_map]
  exact List.pairwise_lt_range
theorem after_mem_version {l : List Candidate} {k : Nat} {b : Bool} {c' : Candidate} (h : c' ∈ afterAnswer l k b) : ∃ c ∈ l, c'.version = c.version := by
  obtain ⟨c, hc, e⟩ := List.mem_filterMap.mp h
  exact ⟨c, hc, after_version e⟩

/-! ### the tests -/
theorem testsOf_split {l : List Candidate} {k : Nat} (h : k ∈ testsOf l) : ∃ l1 c l2, l = l1 ++ c :: l2 ∧ l2 ≠ [] ∧ c.version = k := by
  obtain ⟨c, hc, rfl⟩ := List.mem_map.mp h
  have hl : l ≠ [] := by rintro rfl; cases hc
  obtain ⟨a, b, e⟩ := List.append_of_mem hc
  refine ⟨a, c, b ++ [l.getLast hl], ?_, by simp, rfl⟩
  have := List.dropLast_concat_getLast hl
  rw [e] at this
  simpa using this.symm
theorem testsOf_of_split {l1 l2 : List Candidate} {c : Candidate} (h : l2 ≠ []) : c.version ∈ testsOf (l1 ++ c :: l2) := by
  unfold testsOf
  refine List.mem_map.mpr ⟨c, ?_, rfl⟩
  rw [List.dropLast_append_of_ne_nil (by simp)]
  refine List.mem_append_right _ ?_
  rw [List.dropLast_cons_of_ne_nil h]
  exact List.mem_cons_self
/-- in a test of an ascending row both answers leave somebody, and less than before -/
theorem asc_split {l1 l2 : List Candidate} {c : Candidate} (h : Asc (l1 ++ c :: l2)) : (∀ x ∈ l1, x.version < c.version) ∧ ∀ x ∈ l2, c.version < x.version := by
  obtain ⟨_, h2, h3⟩ := List.pairwise_append.mp h
  exact ⟨fun x hx => h3 x hx c List.mem_cons_self, (List.pairwise_cons.mp h2).1⟩
theorem test_cases {l : List Candidate} {k : Nat} (h : Asc l) (hk : k ∈ testsOf l) : (∃ c ∈ l, c.version ≤ k) ∧ ∃ c ∈ l, k < c.version := by
  obtain ⟨l1, c, l2, rfl, hn, rfl⟩ := testsOf_split hk
  obtain ⟨_, h2⟩ := asc_split h
  obtain ⟨x, r, rfl⟩ := List.exists_cons_of_ne_nil hn
  exact ⟨⟨c, by simp, Nat.le_refl _⟩, x, by simp, h2 x List.mem_cons_self⟩
theorem test_sum_lt {l : List Candidate} {k : Nat} (h : Asc l) (hk : k ∈ testsOf l) (b : Bool) : sumOf (afterAnswer l k b) < sumOf l := by
  obtain ⟨⟨c, hc, h1⟩, d, hd, h2⟩ := test_cases h hk
  cases b with
  | true => exact sum_after_lt hd (by rw [decide_eq_false (by omega)]; decide)
  | false => exact sum_after_lt hc (by rw [decide_eq_true h1]; decide)
theorem test_ne_nil {l : List Candidate} {k : Nat} (h : Asc l) (hk : k ∈ testsOf l) (b : Bool) : afterAnswer l k b ≠ [] := by
  obtain ⟨⟨c, hc, h1⟩, d, hd, h2⟩ := test_cases h hk
  intro e
  cases b with
  | true =>
    have : c ∈ afterAnswer l k true := List.mem_filterMap.mpr ⟨c, hc, after_true_le h1⟩
    rw [e] at this; cases this
  | false =>
    have : d ∈ afterAnswer l k false := List.mem_filterMap.mpr ⟨d, hd, after_false_gt h2⟩
    rw [e] at this; cases this
theorem testsOf_length (l : List Candidate) : (testsOf l).length = l.length - 1 := by simp [testsOf]
theorem testsOf_ne_nil {l : List Candidate} (h : 2 ≤ l.length) : testsOf l ≠ [] := by
  intro e
  have := testsOf_length l
  rw [e] at this
  simp at this; omega

/-! ### enough, fewest -/
theorem enough_succ_iff {d : Nat} {l : List Candidate} (h : 2 ≤ l.length) : enough (d + 1) l = true ↔ ∃ k ∈ testsOf l, enough d (afterAnswer l k true) = true ∧ enough d (afterAnswer l k false) = true := by
  rw [enough, decide_eq_false (by omega), Bool.false_or, List.any_eq_true]
  constructor
  · rintro ⟨k, hk, e⟩
    exact ⟨k, hk, Bool.and_eq_true_iff.mp e⟩
  · rintro ⟨k, hk, e⟩
    exact ⟨k, hk, Bool.and_eq_true_iff.mpr e⟩
theorem enough_short {l : List Candidate} (h : l.length ≤ 1) (d : Nat) : enough d l = true := by
  cases d with
  | zero => rw [enough]; exact decide_eq_true h
  | succ d => rw [enough, decide_eq_true h]; rfl
theorem enough_zero {l : List Candidate} : enough 0 l = true ↔ l.length ≤ 1 := by rw [enough]; exact decide_eq_true_iff
theorem enough_succ : ∀ {d : Nat} {l : List Candidate}, enough d l = true → enough (d + 1) l = true
  | 0, l, h => enough_short (enough_zero.mp h) _
  | d + 1, l, h => by
    rcases Nat.lt_or_ge 1 l.length with g | g
    · obtain ⟨k, hk, h1, h2⟩ := (enough_succ_iff g).mp h
      exact (enough_succ_iff g).mpr ⟨k, hk, enough_succ h1, enough_succ h2⟩
    · exact enough_short g _
theorem enough_mono {d e : Nat} {l : List Candidate} (h : enough d l = true) (hd : d ≤ e) : enough e l = true := by
  induction hd with
  | refl => exact h
  | step _ ih => exact enough_succ ih
theorem enough_sum : ∀ (n : Nat) {l : List Candidate}, Asc l → sumOf l ≤ n → enough n l = true
  | 0, l, _, h => by
    cases l with
    | nil => exact enough_short (Nat.zero_le _) _
    | cons c r => rw [sumOf_cons, wgt] at h; omega
  | n + 1, l, a, h => by
    rcases Nat.lt_or_ge 1 l.length with g | g
    · obtain ⟨k, hk⟩ := List.exists_mem_of_ne_nil _ (testsOf_ne_nil g)
      have h1 := test_sum_lt a hk true
      have h2 := test_sum_lt a hk false
      exact (enough_succ_iff g).mpr ⟨k, hk, enough_sum n (asc_after a k true) (by omega), enough_sum n (asc_after a k false) (by omega)⟩
    · exact enough_short g _
theorem fewest_iff {l : List Candidate} (a : Asc l) (d : Nat) : enough d l = true ↔ fewest l ≤ d := by
  have ex : enough (sumOf l) l = true := enough_sum _ a (Nat.le_refl _)
  cases hf : (List.range (sumOf l + 1)).find? (fun d => enough d l) with
  | none =>
    have := List.find?_eq_none.mp hf (sumOf l) (List.mem_range.mpr (Nat.lt_succ_self _))
    exact absurd ex this
  | some m =>
    have e : fewest l = m := by unfold fewest; rw [hf]; rfl
    rw [e]
    obtain ⟨h1, h2, h3⟩ := List.find?_range_eq_some.mp hf
    constructor
    · intro hd
      refine Nat.le_of_not_lt fun hlt => ?_
      have := h3 d hlt
      rw [hd] at this
      exact absurd this (by decide)
    · exact fun hd => enough_mono h1 hd
theorem fewest_short {l : List Candidate} (h : l.length ≤ 1) : fewest l = 0 := by
  unfold fewest
  rw [List.range_succ_eq_map, List.find?_cons_of_pos (p := fun d => enough d l) (a := 0) (enough_short h 0)]
  rfl
theorem fewest_succ_iff {l : List Candidate} (a : Asc l) (h : 2 ≤ l.length) (d : Nat) : fewest l ≤ d + 1 ↔ ∃ k ∈ testsOf l, fewest (afterAnswer l k true) ≤ d ∧ fewest (afterAnswer l k false) ≤ d := by
  rw [← fewest_iff a, enough_succ_iff h]
  constructor
  · rintro ⟨k, hk, h1, h2⟩
    exact ⟨k, hk, (fewest_iff (asc_after a _ _) _).mp h1, (fewest_iff (asc_after a _ _) _).mp h2⟩
  · rintro ⟨k, hk, h1, h2⟩
    exact ⟨k, hk, (fewest_iff (asc_after a _ _) _).mpr h1, (fewest_iff (asc_after a _ _) _).mpr h2⟩
theorem fewest_pos {l : List Candidate} (a : Asc l) (h : 2 ≤ l.length) : 1 ≤ fewest l := by
  refine Nat.le_of_not_lt fun hlt => ?_
  have := (fewest_iff a 0).mpr (by omega)
  rw [enough_zero] at this
  omega
/-- the worse answer to a test -/
def worse (l : List Candidate) (k : Nat) : Nat := max (fewest (afterAnswer l k true)) (fewest (afterAnswer l k false))
theorem worse_le {l : List Candidate} {k d : Nat} : worse l k ≤ d ↔ fewest (afterAnswer l k true) ≤ d ∧ fewest (afterAnswer l k false) ≤ d := Nat.max_le
/-- what the program's minimum is -/
theorem fewest_min {l : List Candidate} (a : Asc l) (h : 2 ≤ l.length) {m : Nat} (hm : m ∈ (testsOf l).map (worse l)) (hle : ∀ y ∈ (testsOf l).map (worse l), m ≤ y) : fewest l = m + 1 := by
  obtain ⟨k, hk, rfl⟩ := List.mem_map.mp hm
  have h1 : fewest l ≤ worse l k + 1 := (fewest_succ_iff a h _).mpr ⟨k, hk, worse_le.mp (Nat.le_refl _)⟩
  have p := fewest_pos a h
  obtain ⟨k2, hk2, h2⟩ := (fewest_succ_iff a h (fewest l - 1)).mp (by omega)
  have h3 := hle _ (List.mem_map.mpr ⟨k2, hk2, rfl⟩)
  have h4 := worse_le.mpr h2
  omega

/-! ### it hangs on the numbers of wrong answers alone -/
abbrev Prof := List (Nat × Nat)
def prof (l : List Candidate) : Prof := l.map fun c => (c.bad, c.good)
def decB (c : Candidate) : Option Candidate := if c.bad = 0 then none else some { c with bad := c.bad - 1 }
def decG (c : Candidate) : Option Candidate := if c.good = 0 then none else some { c with good := c.good - 1 }
def decBP (c : Nat × Nat) : Option (Nat × Nat) := if c.1 = 0 then none else some (c.1 - 1, c.2)
def decGP (c : Nat × Nat) : Option (Nat × Nat) := if c.2 = 0 then none else some (c.1, c.2 - 1)
theorem prof_decB : ∀ l : List Candidate, prof (l.filterMap decB) = (prof l).filterMap decBP
  | [] => rfl
  | c :: l => by
    have ih := prof_decB l
    show prof ((c :: l).filterMap decB) = ((c.bad, c.good) :: prof l).filterMap decBP
    rw [List.filterMap_cons, List.filterMap_cons, decB, decBP]
    by_cases h : c.bad = 0
    · rw [if_pos h, if_pos h]; exact ih
    · rw [if_neg h, if_neg h]; exact congrArg _ ih
theorem prof_decG : ∀ l : List Candidate, prof (l.filterMap decG) = (prof l).filterMap decGP
  | [] => rfl
  | c :: l => by
    have ih := prof_decG l
    show prof ((c :: l).filterMap decG) = ((c.bad, c.good) :: prof l).filterMap decGP
    rw [List.filterMap_cons, List.filterMap_cons, decG, decGP]
    by_cases h : c.good = 0
    · rw [if_pos h, if_pos h]; exact ih
    · rw [if_neg h, if_neg h]; exact congrArg _ ih
theorem fm_congr {α β : Type} {f g : α → Option β} : ∀ {l : List α}, (∀ x ∈ l, f x = g x) → l.filterMap f = l.filterMap g
  | [], _ => rfl
  | a :: l, h => by
    rw [List.filterMap_cons, List.filterMap_cons, h a List.mem_cons_self, fm_congr fun x hx => h x (List.mem_cons_of_mem _ hx)]
theorem after_low_true {l : List Candidate} {k : Nat} (h : ∀ x ∈ l, x.version ≤ k) : afterAnswer l k true = l := by
  unfold afterAnswer
  rw [fm_congr (g := some) (fun x hx => after_true_le (h x hx)), List.filterMap_some]
theorem after_high_true {l : List Candidate} {k : Nat} (h : ∀ x ∈ l, k < x.version) : afterAnswer l k true = l.filterMap decB := by
  unfold afterAnswer
  exact fm_congr (fun x hx => after_true_gt (h x hx))
theorem after_low_false {l : List Candidate} {k : Nat} (h : ∀ x ∈ l, x.version ≤ k) : afterAnswer l k false = l.filterMap decG := by
  unfold afterAnswer
  exact fm_congr (fun x hx => after_false_le (h x hx))
theorem after_high_false {l : List Candidate} {k : Nat} (h : ∀ x ∈ l, k < x.version) : afterAnswer l k false = l := by
  unfold afterAnswer
  rw [fm_congr (g := some) (fun x hx => after_false_gt (h x hx)), List.filterMap_some]
theorem after_append (l1 l2 : List Candidate) (k : Nat) (b : Bool) : afterAnswer (l1 ++ l2) k b = afterAnswer l1 k b ++ afterAnswer l2 k b := List.filterMap_append
theorem after_split_true {l1 l2 : List Candidate} {c : Candidate} (h : Asc (l1 ++ c :: l2)) : afterAnswer (l1 ++ c :: l2) c.version true = (l1 ++ [c]) ++ l2.filterMap decB := by
  obtain ⟨h1, h2⟩ := asc_split h
  rw [show l1 ++ c :: l2 = (l1 ++ [c]) ++ l2 by simp, after_append, after_high_true h2, after_low_true]
  intro x hx
  rcases List.mem_append.mp hx with hx | hx
  · exact Nat.le_of_lt (h1 x hx)
  · rw [List.mem_singleton.mp hx]; exact Nat.le_refl _
theorem after_split_false {l1 l2 : List Candidate} {c : Candidate} (h : Asc (l1 ++ c :: l2)) : afterAnswer (l1 ++ c :: l2) c.version false = (l1 ++ [c]).filterMap decG ++ l2 := by
  obtain ⟨h1, h2⟩ := asc_split h
  rw [show l1 ++ c :: l2 = (l1 ++ [c]) ++ l2 by simp, after_append, after_high_false h2, after_low_false]
  intro x hx
  rcases List.mem_append.mp hx with hx | hx
  · exact Nat.le_of_lt (h1 x hx)
  · rw [List.mem_singleton.mp hx]; exact Nat.le_refl _
theorem prof_append (l1 l2 : List Candidate) : prof (l1 ++ l2) = prof l1 ++ prof l2 := List.map_append
theorem prof_length (l : List Candidate) : (prof l).length = l.length := List.length_map ..
theorem enough_prof : ∀ (d : Nat) {l l' : List Candidate}, Asc l → Asc l' → prof l = prof l' → enough d l = true → enough d l' = true
  | 0, l, l', _, _, e, h => by
    have hl : l.length = l'.length := by rw [← prof_length l, ← prof_length l', e]
    rw [enough_zero] at h ⊢
    omega
  | d + 1, l, l', a, a', e, h => by
    have hl : l.length = l'.length := by rw [← prof_length l, ← prof_length l', e]
    rcases Nat.lt_or_ge 1 l.length with g | g
    · obtain ⟨k, hk, h1, h2⟩ := (enough_succ_iff g).mp h
      obtain ⟨l1, c, l2, rfl, hn, rfl⟩ := testsOf_split hk
      rw [prof_append] at e
      obtain ⟨l1', r', rfl, e1, e2⟩ := List.map_eq_append_iff.mp e.symm
      cases r' with
      | nil => cases e2
      | cons c' l2' =>
        have e3 : (c'.bad, c'.good) = (c.bad, c.good) := (List.cons.inj e2).1
        have e4 : prof l2' = prof l2 := (List.cons.inj e2).2
        have e1' : prof l1' = prof l1 := e1
        have hn' : l2' ≠ [] := by
          rintro rfl
          have z : prof l2 = [] := e4.symm
          exact hn (List.map_eq_nil_iff.mp z)
        have e5 : prof (l1' ++ [c']) = prof (l1 ++ [c]) := by
          rw [prof_append, prof_append, e1']
          exact congrArg _ (congrArg (· :: []) e3)
        refine (enough_succ_iff (by omega)).mpr ⟨c'.version, testsOf_of_split hn', enough_prof d (asc_after a _ _) (asc_after a' _ _) ?_ h1, enough_prof d (asc_after a _ _) (asc_after a' _ _) ?_ h2⟩
        · rw [after_split_true a, after_split_true a', prof_append _ (l2.filterMap decB), prof_append _ (l2'.filterMap decB), prof_decB, prof_decB, e5, e4]
        · rw [after_split_false a, after_split_false a', prof_append _ l2, prof_append _ l2', prof_decG, prof_decG, e5, e4]
    · exact enough_short (by omega) _
theorem fewest_prof {l l' : List Candidate} (a : Asc l) (a' : Asc l') (e : prof l = prof l') : fewest l = fewest l' := by
  refine Nat.le_antisymm ?_ ?_
  · exact (fewest_iff a _).mp (enough_prof _ a' a e.symm ((fewest_iff a' _).mpr (Nat.le_refl _)))
  · exact (fewest_iff a' _).mp (enough_prof _ a a' e ((fewest_iff a _).mpr (Nat.le_refl _)))
/-- the fewest tests of a row of numbers -/
def fewP (P : Prof) : Nat := fewest (P.zipIdx.map fun x => ⟨x.2, x.1.1, x.1.2⟩)
theorem asc_zip (P : Prof) : Asc (P.zipIdx.map fun x => (⟨x.2, x.1.1, x.1.2⟩ : Candidate)) := by
  unfold Asc
  rw [List.pairwise_map]
  have h : (P.zipIdx.map (·.2)).Pairwise (· < ·) := by
    rw [List.zipIdx_map_snd]
    exact List.pairwise_lt_range'
  exact List.pairwise_map.mp h
theorem prof_zip (P : Prof) : prof (P.zipIdx.map fun x => (⟨x.2, x.1.1, x.1.2⟩ : Candidate)) = P := by
  unfold prof
  rw [List.map_map]
  show P.zipIdx.map (fun x => (x.1.1, x.1.2)) = P
  have : (fun x : (Nat × Nat) × Nat => (x.1.1, x.1.2)) = Prod.fst := rfl
  rw [this, List.zipIdx_map_fst]
theorem fewest_fewP {l : List Candidate} (a : Asc l) : fewest l = fewP (prof l) := fewest_prof a (asc_zip _) (prof_zip _).symm

/-! ### the best test -/
theorem bestTest_short {l : List Candidate} (h : l.length ≤ 1) : bestTest l = none := if_pos h
theorem enough_worse {l : List Candidate} (a : Asc l) (k d : Nat) : (enough d (afterAnswer l k true) && enough d (afterAnswer l k false)) = decide (worse l k ≤ d) := by
  rw [Bool.eq_iff_iff, Bool.and_eq_true, fewest_iff (asc_after a _ _), fewest_iff (asc_after a _ _), decide_eq_true_iff, worse_le]
theorem bestTest_long {l : List Candidate} (a : Asc l) (h : 2 ≤ l.length) : bestTest l = ((testsOf l).filter fun k => decide (worse l k ≤ fewest l - 1)).head? := by
  unfold bestTest
  rw [if_neg (by omega), List.head?_filter]
  exact congrArg (fun p => List.find? p (testsOf l)) (funext fun k => enough_worse a k _)
theorem bestTest_some {l : List Candidate} (a : Asc l) (h : 2 ≤ l.length) : ∃ k r, (testsOf l).filter (fun k => decide (worse l k ≤ fewest l - 1)) = k :: r ∧ bestTest l = some k ∧ k ∈ testsOf l ∧ worse l k ≤ fewest l - 1 := by
  have p := fewest_pos a h
  obtain ⟨k2, hk2, h2⟩ := (fewest_succ_iff a h (fewest l - 1)).mp (by omega)
  have m2 : k2 ∈ (testsOf l).filter (fun k => decide (worse l k ≤ fewest l - 1)) := List.mem_filter.mpr ⟨hk2, decide_eq_true (worse_le.mpr h2)⟩
  obtain ⟨k, r, e⟩ := List.exists_cons_of_ne_nil (List.ne_nil_of_mem m2)
  have m : k ∈ (testsOf l).filter (fun k => decide (worse l k ≤ fewest l - 1)) := by rw [e]; exact List.mem_cons_self
  obtain ⟨m1, m3⟩ := List.mem_filter.mp m
  exact ⟨k, r, e, by rw [bestTest_long a h, e]; rfl, m1, of_decide_eq_true m3⟩
theorem bestTest_none {l : List Candidate} (a : Asc l) (h : bestTest l = none) : l.length ≤ 1 := by
  refine Nat.le_of_not_lt fun hl => ?_
  obtain ⟨k, _, _, e, _⟩ := bestTest_some a hl
  rw [e] at h; cases h
theorem bestTest_mem {l : List Candidate} (a : Asc l) {k : Nat} (h : bestTest l = some k) : k ∈ testsOf l ∧ 2 ≤ l.length ∧ worse l k ≤ fewest l - 1 := by
  have hl : 2 ≤ l.length := by
    refine Nat.le_of_not_lt fun hl => ?_
    rw [bestTest_short (by omega)] at h; cases h
  obtain ⟨k', _, _, e, m, w⟩ := bestTest_some a hl
  rw [e] at h; cases h
  exact ⟨m, hl, w⟩
theorem bestTest_fewest {l : List Candidate} (a : Asc l) {k : Nat} (h : bestTest l = some k) (b : Bool) : fewest (afterAnswer l k b) ≤ fewest l - 1 ∧ 1 ≤ fewest l := by
  obtain ⟨_, hl, w⟩ := bestTest_mem a h
  have := worse_le.mp w
  refine ⟨?_, fewest_pos a hl⟩
  cases b
  · exact this.2
  · exact this.1
theorem version_lt_after {n : Nat} {l : List Candidate} (h : ∀ c ∈ l, c.version < n) (k : Nat) (b : Bool) : ∀ c ∈ afterAnswer l k b, c.version < n := fun c hc => by
  obtain ⟨x, hx, e⟩ := after_mem_version hc
  rw [e]; exact h x hx

/-! ### by weight -/
theorem weight_start (d n p q : Nat) : weight d (startOf n p q) = n * shareOf d p q := by
  unfold weight startOf
  rw [List.map_map]
  show ((List.range n).map fun _ => shareOf d p q).sum = _
  rw [List.map_const', List.sum_replicate_nat, List.length_range]
theorem sumOf_start (n p q : Nat) : sumOf (startOf n p q) = n * (p + q + 1) := by
  unfold sumOf startOf
  rw [List.map_map]
  show ((List.range n).map fun _ => p + q + 1).sum = _
  rw [List.map_const', List.sum_replicate_nat, List.length_range]
def lightOk (n p q : Nat) : Bool := ((List.range (n * (p + q + 1) + 1)).find? fun d => decide (n * shareOf d p q ≤ 2 ^ d)).isSome
theorem light_all : ((List.range 11).all fun n => (List.range 3).all fun p => (List.range 3).all fun q => lightOk n p q) = true := by decide +kernel
theorem light_least {n p q : Nat} (hn : n ≤ 10) (hp : p ≤ 2) (hq : q ≤ 2) : n * shareOf (leastByWeight (startOf n p q)) p q ≤ 2 ^ leastByWeight (startOf n p q) ∧ ∀ d, d < leastByWeight (startOf n p q) → 2 ^ d < n * shareOf d p q := by
  have h := List.all_eq_true.mp (List.all_eq_true.mp (List.all_eq_true.mp light_all n (List.mem_range.mpr (by omega))) p (List.mem_range.mpr (by omega))) q (List.mem_range.mpr (by omega))
  unfold lightOk at h
  obtain ⟨m, hm⟩ := Option.isSome_iff_exists.mp h
  have e : leastByWeight (startOf n p q) = m := by
    unfold leastByWeight
    rw [sumOf_start]
    have : (fun d => decide (weight d (startOf n p q) ≤ 2 ^ d)) = fun d => decide (n * shareOf d p q ≤ 2 ^ d) := funext fun d => by rw [weight_start]
    rw [this, hm]
    rfl
  obtain ⟨h1, _, h3⟩ := List.find?_range_eq_some.mp hm
  rw [e]
  refine ⟨of_decide_eq_true h1, fun d hd => ?_⟩
  have := h3 d hd
  rw [Bool.not_eq_true', decide_eq_false_iff_not] at this
  omega
end Fs

/-! An own exception over Exception whose __init__ stores two fields; raised with context None; read where it is handled. -/
namespace Fs
open PySem PySem.Spec PyProof.Rows L2
abbrev St := L2.St

/-- what the written part says of such a class -/
structure RfC (K : PySem.W.Frag) (C : Addr) : Prop where
  cls : ∃ nm q N bs sn sub ab col dd k0 k1 k2 k3 k5, K.lookup C = some (excClassObj nm q C N bs PySem.ESX.exTail true sn sub ab col dd k0 k1 k2 k3 k5 "Exception.__new__")
  sa : PySem.W.findIn K (.ref C) "__setattr__" = some (some (.builtin "object.__setattr__"))
  xf : XfC K C
  tyC : PySem.W.typeIn K (.ref C) = some (.type "type")
  kC : PySem.W.keepIn K (.ref C) = true

section
variable {X : Cx} {pins : List (Addr × Obj)} {σ : St} {H : Hp} {s : Shared} {a C dx : Addr} {f : Str} {y : V} {u : Value} {fs : List (Str × V)} {Q : Unit → Shared → Prop} {E : Value → Shared → Prop} {A : Around}
theorem rf_clsIn (T : RfC X.K C) : ∃ cd, PySem.W.clsIn X.K C = some cd ∧ cd.mro = .ref C :: PySem.ESX.exTail ∧ cd.hasDict = true := by
  obtain ⟨nm, q, N, bs, sn, sub, ab, col, dd, k0, k1, k2, k3, k5, hC⟩ := T.cls
  refine ⟨{ name := nm, bases := bs, mro := .ref C :: PySem.ESX.exTail, ns := N, qualname := q, hasDict := true, slotNames := sn, subclasses := sub, abstract := ab, collection := col, hasDel := false }, ?_, rfl, rfl⟩
  unfold PySem.W.clsIn
  rw [hC] <;> rfl
/-- the first field -/
theorem rf_new (T : RfC X.K C) (I : Inv X pins σ H s) (e : H a = some (exo a C none)) (hno : PySem.W.findIn X.K (.ref C) f = some none) (ry : RelV y u)
    (h : ∀ dx s', H dx = none → dx ≠ a → Inv X pins σ (upd (upd H dx (exd dx [(f, y)])) a (exo a C (some dx))) s' → Q () s') : wpAny (model X.prog X.w) A (setAttr (.ref a) f u) Q E s := by
  obtain ⟨cd, hcl, hmro, hdict⟩ := rf_clsIn T
  obtain ⟨t1, ho⟩ := exo_at I.hok e
  obtain ⟨hp, g, d, t, os⟩ := s
  refine PySem.W.set_plain I.kIn (ox := { cls := .ref C, dict := none, data := .fields #[.ref t1, .none, .none, .none, .bool false, .none] }) (od := none) ⟨ho, rfl, rfl, trivial⟩ T.sa ?_
  refine PySem.ESX.osa_new I.kIn ho hcl hmro hdict hno (fun h' tk' dx k dn dne hx hn => ?_)
  have hnd : H dx = none := I.hok.fresh dn
  have nd : ∀ {b : Addr} {o : Obj}, hp.get? b = some o → b ≠ dx := fun {b o} q => Nat.ne_of_lt (Nat.lt_of_lt_of_le (Heap.lt_size q) dn)
  have na : ∀ {b : Addr}, H b = none → b ≠ a := fun {b} n z => by
    rw [z, e] at n
    cases n
  have U : Un X.fs [] H (upd (upd H dx (exd dx [(f, y)])) a (exo a C (some dx))) hp h' := by
    refine ⟨fun b o q n _ _ => k b o (na n) q, fun b o q n _ _ => ⟨o.slots, k b o (na n) q⟩, fun b o q n _ => ?_, fun b o q _ => ?_, fun b xs q => ?_, fun b o v q => ?_, fun b ps q => ⟨#[], ?_⟩⟩
    · rw [upd_ne (na n), upd_ne (nd q)]
      exact n
    · by_cases hb : b = a
      · exact ⟨_, by rw [hb]; exact hx⟩
      · exact ⟨o, k b o hb q⟩
    · rw [upd_ne (at_ne e q exo_tup), upd_ne (ne_of_none q hnd)]
      exact q
    · rw [upd_ne (at_ne e q exo_frz), upd_ne (ne_of_none q hnd)]
      exact q
    · rw [upd_ne (at_ne e q exo_tbl), upd_ne (ne_of_none q hnd), q]
      simp
  refine h dx _ hnd dne (I.un (t' := tk') U fun b o q => ?_)
  by_cases hb : b = a
  · subst hb
    rw [upd_same] at q
    cases q
    exact exo_ok hx
  · rw [upd_ne hb] at q
    by_cases hd : b = dx
    · subst hd
      rw [upd_same] at q
      cases q
      exact exd_ok hn (relO_put (fs := []) ry fun g => True.intro)
    · rw [upd_ne hd] at q
      refine (I.hok b o q).stay (fun c v hc z => k c v ?_ z) (fun c hc => ?_) (fun c xs hc => ?_)
      · rcases hc with hc | hc
        · rw [hc]
          exact hb
        · exact at_ne e hc exo_own
      · rw [upd_ne (at_ne e hc exo_own), upd_ne (ne_of_none hc hnd)]
        exact hc
      · rw [upd_ne (at_ne e hc exo_tup), upd_ne (ne_of_none hc hnd)]
        exact hc
/-- a further field -/
theorem rf_old (T : RfC X.K C) (I : Inv X pins σ H s) (e : H a = some (exo a C (some dx))) (ed : H dx = some (exd dx fs)) (hl : fs.length ≤ 900) (hno : PySem.W.findIn X.K (.ref C) f = some none) (ry : RelV y u)
    (h : ∀ s', Inv X pins σ (upd H dx (exd dx ((f, y) :: fs))) s' → Q () s') : wpAny (model X.prog X.w) A (setAttr (.ref a) f u) Q E s := by
  obtain ⟨cd, hcl, hmro, hdict⟩ := rf_clsIn T
  obtain ⟨t1, ho⟩ := exo_at I.hok e
  obtain ⟨mA, hns, rel⟩ := exd_at I.hok ed
  have hw := within_of rel
  obtain ⟨hp, g, d, t, os⟩ := s
  obtain ⟨oD, _, _, hoD, _, _⟩ := hns.count hw
  refine PySem.W.set_plain I.kIn (ox := { cls := .ref C, dict := some dx, data := .fields #[.ref t1, .none, .none, .none, .bool false, .none] }) (od := some oD) ⟨ho, rfl, rfl, hoD⟩ T.sa ?_
  refine PySem.ESX.osa_old I.kIn ho hns hw (by rw [List.length_map]; omega) hcl hmro hdict hno (fun h' tk' k hn => ?_)
  have hd : ∃ o, h'.get? dx = some o := by
    obtain ⟨o, _, _, e', _⟩ := hn
    exact ⟨o, e'⟩
  exact h _ (I.write (t' := tk') (x := dx) (e := dx) (o := exd dx ((f, y) :: fs)) (by rw [ed]; exact True.intro) (.inl rfl) k hd (exd_ok hn (relO_put ry rel)))
end

/-- self.f = e of such an exception -/
def tRf (K : PySem.W.Frag) (f : Str) (to te : TE) : TS := fun D σ H => te σ H fun y H1 => to σ H1 fun x H2 => ∃ a C : Addr, x = .ref a ∧ RfC K C ∧ PySem.W.findIn K (.ref C) f = some none ∧
  ((H2 a = some (exo a C none) ∧ ∀ dx, H2 dx = none → dx ≠ a → D.nx σ (upd (upd H2 dx (exd dx [(f, y)])) a (exo a C (some dx)))) ∨
    ∃ (dx : Addr) (fs : List (Str × V)), H2 a = some (exo a C (some dx)) ∧ H2 dx = some (exd dx fs) ∧ fs.length ≤ 900 ∧ D.nx σ (upd H2 dx (exd dx ((f, y) :: fs))))
section
variable {X : Cx} {o e : Expr} {es : List Expr} {to te : TE} {ta : TA} {f : Str} {p p' p1 p2 pos : Pos}
theorem ps_rf (ho : PE X o to) (he : PE X e te) (hs : swapsWith e (some (.Attribute o f p')) pos.line X.env = pure false := by rfl) : PS X (.Assign [.Attribute o f p'] e pos) (tRf X.K f to te) := by
  refine ⟨fun pins s σ H D I h => ?_⟩
  refine plainObj_wpAny_Assign_Attribute (thn (he.run pins s σ H _ I h) fun v s1 ⟨y, H1, I1, r1, q1⟩ => thn (ho.run pins s1 σ H1 _ I1 q1) fun u s2 ⟨x, H2, I2, r2, a, C, ex, T, hno, q⟩ => ?_) hs
  subst ex
  obtain rfl : u = Value.ref a := r2
  rcases q with ⟨ea, q⟩ | ⟨dx, fs, ea, ed, hl, q⟩
  · exact rf_new T I2 ea hno r1 fun dx s' n ne J => ⟨σ, _, J, q dx n ne⟩
  · exact rf_old T I2 ea ed hl hno r1 fun s' J => ⟨σ, _, J, q⟩
/-- C(e, ..), its own __init__ keeping sp; the context stays None -/
theorem pmk_rf {CX : CXT} {x : Str} {C fI : Addr} {k : Nat} {fd : FuncData} {ps : List Str} {sp : Sp} (T : RfC X.K C) (iC : PySem.W.findIn X.K (.ref C) "__init__" = some (some (.ref fI))) (tI : PySem.W.typeIn X.K (.ref fI) = some (.type "function"))
    (F1 : FnOk X.prog X.w X.K X.mg X.base CX k fI fd ps sp) (hr : Room (k + 1) X.A) (hb : Binds X.K fd ps []) (hx : Passes CX X (fun _ _ _ => False)) (hg : Gl X x) (hm : X.mg x = some (.ref C)) (ha : PA X (e :: es) ta)
    (hdb : (x == ("__debug__" : Str)) = false := by decide) (he : starEach (e :: es) X.env = (false, eval e X.env) :: starEach es X.env := by rfl) (hpl : (backTo pos (starEach es X.env)).any (·.1) = false := by rfl) :
    L2N.PMk X (.Call (.Name x p) (e :: es) [] pos) (tMkO C sp [] ta) := by
  intro pins s σ H Q I h
  obtain ⟨nm, q, N, bs, sn, sub, ab, col, dd, k0, k1, k2, k3, k5, hC⟩ := T.cls
  refine wpAny_Call_Name_kw (ld_glob I hg hm ?_ hdb)
  refine PySem.W.callWith_K (h₀ := X.base) I.ok.mod.kin T.kC (thn (ha.run pos pins s σ H _ I h) fun us s1 ⟨vs, H1, I1, r1, hz, q1⟩ => ⟨I1.kIn, ?_⟩) he hpl
  show wpAny _ _ (call (.ref C) us) _ _ _
  obtain ⟨hp, g, dr, tk, os⟩ := s1
  have hsz : hp.objs.size ≤ hp.objs.size + 1 := Nat.le_succ _
  have hn : H1 (hp.objs.size + 1) = none := I1.hok.fresh hsz
  have hq := q1 (hp.objs.size + 1) hn
  rw [List.append_nil] at hq
  have kk : ∀ b o, hp.get? b = some o → ((hp.push (PySem.W.kdv_tup us)).push (PySem.HandSPX.excO C hp.objs.size)).get? b = some o := fun b o e => Heap.get?_push_of_some _ (Heap.get?_push_of_some _ e)
  have hget : ((hp.push (PySem.W.kdv_tup us)).push (PySem.HandSPX.excO C hp.objs.size)).get? (hp.objs.size + 1) = some (PySem.HandSPX.excO C hp.objs.size) := by heap_get
  have I2 : Inv X pins σ (upd H1 (hp.objs.size + 1) (exo (hp.objs.size + 1) C none)) ⟨(hp.push (PySem.W.kdv_tup us)).push (PySem.HandSPX.excO C hp.objs.size), g, dr, tk, os⟩ :=
    I1.laid (t' := tk) (a := hp.objs.size + 1) (o := exo (hp.objs.size + 1) C none) (h' := (hp.push (PySem.W.kdv_tup us)).push (PySem.HandSPX.excO C hp.objs.size)) kk hsz (exo_ok hget)
  have r2 : Vals (V.ref (hp.objs.size + 1) :: vs) (Value.ref (hp.objs.size + 1) :: us) := .cons rfl r1
  have hl : (Value.ref (hp.objs.size + 1) :: us ++ []).length = ps.length := by
    have e := r2.length
    rw [F1.len _ _ _ _ hq] at e
    rw [List.append_nil]
    exact e.symm
  have hus : us.length ≤ sizeLine := by
    rw [← Paired.length r1, sizeLine_eq]
    omega
  have b2 := hb _ (Value.ref (hp.objs.size + 1) :: us) I2.kIn hl
  rw [List.append_nil] at b2
  refine wpAny_call (PySem.HandSPX.call_own F.excBase_Exception (fun _ => rfl) (I1.kIn _ _ hC) (PySem.W.looks_findIn I1.kIn iC) (fun self => PySem.W.bind_fn I1.kIn self tI) hus
    (codeAny_mono (F1.run _ X.stack _ _ ⟨Value.ref (hp.objs.size + 1) :: us, []⟩ (Value.ref (hp.objs.size + 1) :: us) _ _ (fun _ _ _ => False) (hr.make C us []) (I2.env0.make C us []) b2 r2 hq) fun r s' hq' => ?_))
  cases r with
  | error er => exact hx pins σ _ _ er s' I2 hq'
  | ok fl =>
    cases fl with
    | ret u =>
      obtain ⟨v, H2, os2, bare2, un2, hok2, rv, ev, d, fs, ea, ed, hd1, q2⟩ := hq'
      subst ev
      obtain ⟨h2, g2, d2, t2, os'⟩ := s'
      obtain ⟨t0, G, J, kG, ge, hoe, na⟩ := mk_end0 (d2 := d2) (t2 := t2) I1 hsz kk un2 hok2 os2 bare2 ea ed hd1
      refine ⟨rv, hp.objs.size + 1, _, _, ⟨G, g2, d2, t2, os'⟩, _, .ref C, some d, rfl, J, kG, ge, hoe, ⟨rfl, rfl, fun vs hv => ?_⟩, rfl, rfl, na, rfl, bare2, raises_own T.xf.exC T.tyC, q2⟩
      cases hv
      rfl
    | next => exact False.elim hq'
    | brk => exact False.elim hq'
    | cont => exact False.elim hq'
end
end Fs

/-! Where an exception is handled: a text gone through by a comprehension, an object made, the handled exception read in a def to which it is handed. -/
namespace Fs
open PySem PySem.Spec PyProof.Rows L2 L2H

/-! ### the suite is hot -/
theorem hot_suite {X : Cx} {a : Addr} {oe : Obj} {cls : Value} {d : Option Addr} {pn : List (Addr × Obj)} (hz : L2N.Zn cls d oe) (hf : ∃ vs, oe.data = .fields vs) : HotC (X.suite a ((a, oe) :: pn)) := by
  obtain ⟨vs, hv⟩ := hf
  exact ⟨(a, oe), ⟨rfl, vs, hv, hz.2.2 vs hv⟩, List.mem_cons_self⟩

/-! ### the end of a text's iterator -/
section
variable {prog : Program} {w : World} {A : Around} {E : Value → Shared → Prop} {s : Shared}
theorem ascii_end_hot {it x1 : Addr} {x : Str} {t : Tok} {i : Nat} {Q : Option Value → Shared → Prop} (hot : HotX.HotAt A x1 s.heap) (hit : s.heap.IsStrIter it "str_ascii_iterator" x t i) (hx : x.cps[i]? = none)
    (hQ : ∀ h', Heap.ExtBut it s.heap h' → Q none { s with heap := h' }) : wpAny (model prog w) A (pyNext (.ref it)) Q E s := by
  obtain ⟨o, ho, hc, hd⟩ := id hit
  obtain ⟨hh, o1, vs1, h1, d1, c1⟩ := hot
  have hne : ∀ vs : Array Value, vs = #[.str x t, .int i 0] → vs[2]? = some Value.none → False := fun vs e q => by
    subst e
    simp at q
  have hx1 : x1 ≠ it := fun e => by
    subst e
    rw [h1] at ho
    cases ho
    rw [d1] at hd
    cases hd
    exact hne _ rfl c1
  unfold pyNext
  refine wpAny_bind (wpAny_attempt (wpAny_callSpecial?_slot (name := Str.ofString "__next__") hit.typeIs F.slot_str_ascii_iterator_next
    (wpAny_call_entry F.slot_str_ascii_iterator_next hit.typeIs F.entry_str_ascii_iterator_next ?_ (F.args_str_ascii_iterator_next_1 _))))
  show wpAny _ _ (field (.ref it) 0 >>= _) _ _ s
  refine wpAny_bind (wpAny_field ho hd (x := .str x t) rfl ?_)
  show wpAny _ _ (field (.ref it) 1 >>= _) _ _ s
  refine wpAny_bind (wpAny_field ho hd (x := .int i 0) rfl ?_)
  simp only [Int.toNat_natCast, hx]
  refine wpAny_bind (wpAny_rule (wpAny_bind (wpAny_setField ho hd (by simp) (wpAny_bind (wpAny_letGo ?_)))))
  have k1 : (s.heap.update it (Obj.mapFields (·.setIfInBounds 0 Value.none))).get? x1 = some o1 := (Heap.get?_update_other _ _ (Ne.symm hx1)).trans h1
  show wpAny _ _ (newExc (.type "StopIteration") [] >>= _) _ _ _
  refine wpAny_bind ?_
  simp only [newExc, newTuple]
  refine wpAny_bind (wpAny_newObj_type ?_ (by size_fits))
  refine wpAny_bind (m := firstArgMember _ _) (wpAny_of_eq (a := Value.none) (by first | rfl | (simp only [firstArgMember]; rfl)) ?_)
  refine wpAny_newObj_type ?_ (by size_fits)
  refine HotX.raiseNew_hot ⟨hh, o1, vs1, Heap.get?_push_of_some _ (Heap.get?_push_of_some _ k1), d1, c1⟩ (Nat.ne_of_lt (Heap.lt_size (Heap.get?_push_of_some _ k1))) (Heap.get?_push_size _ rfl) rfl (by first | (simp; done) | (simp; omega) | (simp only [Array.size_append]; simp; omega)) ?_
  refine wpAny_bind (wpAny_isInstance (T := "StopIteration") (b := true) ⟨_, Heap.get?_update_self _ (Heap.get?_push_size _ rfl) rfl, rfl⟩ isSubtype_stop ?_)
  refine wpAny_pure (hQ _ fun b ob hb e => ?_)
  have e2 : (s.heap.update it (Obj.mapFields (·.setIfInBounds 0 Value.none))).get? b = some ob := (Heap.get?_update_other _ _ (Ne.symm hb)).trans e
  rw [Heap.get?_update_other _ _ (Nat.ne_of_gt (Heap.lt_size (Heap.get?_push_of_some _ e2)))]
  exact Heap.get?_push_of_some _ (Heap.get?_push_of_some _ e2)
end
theorem turn_asciiH {P : Program} {w : World} {K : PySem.W.Frag} {tg : Expr} (it : Addr) (x : Str) (t : Tok) : TurnH P w K tg (Its x) [it] it (fun i h => h.IsStrIter it "str_ascii_iterator" x t i) where
  mem := by simp
  obj := fun i h st b hb => by
    have e : b = it := by simpa using hb
    subst e
    obtain ⟨o, e, c, d⟩ := st
    exact ⟨o, e, fun v z => by rw [d] at z; cases z⟩
  keep := fun i h h' st k => let ⟨o, ho, r⟩ := st; ⟨o, k it (by simp) o ho, r⟩
  item := by
    intro X hP hw hK hc i pins s σ H E I hf st hg
    subst hP hw hK
    obtain ⟨f0, f1, f2, f3, f4, f5⟩ := hf it (by simp)
    have hlt : i < x.cps.size := hg
    refine wpAny_pyNext_ascii_item st (c := x.cps[i]) (by simp [hlt]) fun h' st' sb => ?_
    have I1 : Inv X pins σ H { s with heap := h', toks := s.toks + 1 } := I.turned (fun b o hb e => (sb.2 b hb).trans e) f0 f1 f3 f4 f5
    obtain ⟨oi, e, cc, dd⟩ := id st'
    exact ⟨_, rfl, go_of (s := { s with heap := h', toks := s.toks + 1 }) e cc dd (by decide) ⟨.str ⟨#[x.cps[i]]⟩, H, I1, ⟨s.toks, rfl⟩, ⟨rfl, x.cps[i], by simp [hlt], rfl⟩, st', fun b hb => (hf b hb).1⟩⟩
  done := by
    intro X hP hw hK hc i pins s σ H E I hf st hg
    subst hP hw hK
    obtain ⟨f0, f1, f2, f3, f4, f5⟩ := hf it (by simp)
    obtain ⟨x1, hot⟩ := hc.at I
    exact ascii_end_hot hot st (Array.getElem?_eq_none hg) fun h' eb => ⟨rfl, I.turned (t' := s.toks) (fun b o hb e => eb b o hb e) f0 f1 f3 f4 f5⟩
  self := fun _ _ _ _ _ st h => wpAny_pyIter_striter_ascii st h
/-- a text of ASCII signs -/
def iAsc (te : TE) : TI := fun σ H R => te σ H fun v H1 => ∃ x : Str, v = .str x ∧ x.cps.all (· < 128) = true ∧ R (Its x) H1
theorem pi_ascH {X : Cx} {tg e : Expr} {te : TE} (he : PE X e te) : PIH X tg e (iAsc te) := by
  refine ⟨fun pins s σ H R I h => ?_⟩
  refine thn (he.run pins s σ H _ I h) fun v s1 ⟨y, H1, I1, r1, x, ex, ha, q⟩ => ?_
  subst ex
  obtain ⟨t, rfl⟩ := r1
  refine wpAny_pyIter_ascii ha ⟨s1.heap.objs.size, [s1.heap.objs.size], _, _, H1, rfl, I1.kept (t' := s1.toks) fun b ob e => Heap.get?_push_of_some _ e, turn_asciiH _ x t, ⟨_, Heap.get?_push_size _ rfl, rfl, rfl⟩, fun b hb => ?_, q⟩
  have e : b = s1.heap.objs.size := by simpa using hb
  subst e
  exact I1.fpOk (Nat.le_refl _) (I1.hok.fresh (Nat.le_refl _))

/-! ### a comprehension's block there -/
abbrev blkH (X : Cx) (s : Shared) (H : Hp) (scope : Scope) (cenv : Env) (fp : List Addr) : Cx := (X.blk s H scope cenv fp).tr X.pn (fun _ _ => False)
theorem pe_lcH {X : Cx} {elt tg iter : Expr} {scope : Scope} {own : List (Str × Nat)} {pos : Pos} {wi : TI} {g : TG} {te : TE} (hc : HotC X) (hN : X.N.Nodup) (hi : PIH X tg iter wi) (ok : BlkOk X.N X.env.scope scope own)
    (hg : ∀ (s : Shared) (H : Hp) (C : Addr) (cl : List (Str × Addr)) (fp : List Addr), PG (blkH X s H scope (compEnvC scope cl C X.env) fp) tg g)
    (he : ∀ (s : Shared) (H : Hp) (C : Addr) (cl : List (Str × Addr)) (fp : List Addr), PE (blkH X s H scope (compEnvC scope cl C X.env) fp) elt te) (hs : ∀ x, foldedSetIterable iter X.env x = pure x := by intro _; rfl) :
    PE X (.ListComp elt [⟨tg, iter, [], 0⟩] scope pos) (tLc wi g tYes te (own.map (·.2))) := by
  refine ⟨fun pins s σ H Q I h => ?_⟩
  rw [eval_ListComp]
  have hfree : ∀ y ∈ scope.names, y.2 = .free → ∃ c, X.env.cells.lookup y.1 = some c := fun y hy e => by
    rcases ok.free y hy e with k | k
    · exact I.ok.has _ (.inl k)
    · exact I.ok.has _ (.inr k)
  refine wpAny_comprehension_free (use := none) rfl hs (closure_ok hfree) ok.kind (fun y hy e => by rw [ok.uniq y hy, e])
    (thn (hi.run pins s σ H _ I h) fun xv s1 hx => thn hx fun itv s2 h2 => ?_)
  obtain ⟨it, fp, tn, J, H2, e, I2, T, st2, f2, q⟩ := h2
  subst e
  refine wpAny_newObj_type (newEnv_comp ?_) (by show 0 ≤ sizeLine; decide)
  generalize hD : s2.heap.objs.size = D
  have hDn : H2 D = none := I2.hok.fresh (Nat.le_of_eq hD)
  obtain ⟨W, ⟨m0, w0⟩, turn⟩ := q D hDn
  generalize hs3 : ({ s2 with heap := s2.heap.push { cls := .type "list", data := .seq ([] : List Value).toArray } } : Shared) = s3
  have h3 : s3.heap = s2.heap.push { cls := .type "list", data := .seq ([] : List Value).toArray } := by rw [← hs3]
  have I3 : Inv X pins σ (upd H2 D (.lst [])) s3 := by
    rw [← hs3]
    refine I2.laid (t' := s2.toks) (fun b o e => Heap.get?_push_of_some _ e) (Nat.le_of_eq hD) ⟨Nat.zero_le _, [], 0, .nil, ?_⟩
    rw [← hD]
    exact Heap.get?_push_size _ rfl
  have sz : ∀ b ∈ fp, b < s2.heap.objs.size := fun b hb => by
    obtain ⟨o, e, _⟩ := T.obj _ _ st2 b hb
    exact Heap.lt_size e
  have f3 : ∀ b ∈ fp, FpOk X pins (upd H2 D (.lst [])) b ∧ b < s3.heap.objs.size := fun b hb => by
    have hlt := sz b hb
    refine ⟨⟨?_, (f2 b hb).2⟩, by rw [h3, Heap.size_push]; exact Nat.lt_succ_of_lt hlt⟩
    rw [upd_ne (by rw [← hD]; exact Nat.ne_of_lt hlt)]
    exact (f2 b hb).1
  have st3 : tn 0 s3.heap := T.keep _ _ _ st2 fun b _ o e => by rw [h3]; exact Heap.get?_push_of_some _ e
  have I4 := block_start I3 ok hN f3
  have pg := hg s3 (upd H2 D (.lst [])) s3.heap.objs.size (cellsFrom (s3.heap.objs.size + 1) scope.names (cloFrom X.env.cells scope.names [])) fp
  have pe := he s3 (upd H2 D (.lst [])) s3.heap.objs.size (cellsFrom (s3.heap.objs.size + 1) scope.names (cloFrom X.env.cells scope.names [])) fp
  show codeAny _ _ (.compStart (.ListComp elt [⟨tg, iter, [], 0⟩] scope pos) 0 (.ref it) (.ref D) (compEnvC scope (cellsFrom (s3.heap.objs.size + 1) scope.names (cloFrom X.env.cells scope.names [])) s3.heap.objs.size X.env)) (compPost (model X.prog X.w) X.A X.xe none _ (.ref D) s3.heap.objs.size) { s3 with heap := pushCells (s3.heap.push { cls := .type "dict", data := .dict #[] }) scope.names }
  have nfp : ∀ b ∈ fp, (upd H2 D (.lst [])) b = none := fun b hb => (f3 b hb).1.1
  -- the handled exception's pin comes along
  have pinX : ∀ p ∈ X.pn, p.1 < s3.heap.objs.size ∧ p.1 ∉ frs X.stack ∧ s3.heap.get? p.1 = some p.2 ∧ (upd H2 D (.lst [])) p.1 = none ∧ ∀ v, p.2.data ≠ .cell v := fun p hp => by
    obtain ⟨p1, p2, p3, p4, p5⟩ := I3.pin p (List.mem_append_left _ hp)
    exact ⟨Heap.lt_size p1, fun z => (List.mem_cons.mp (I3.stkSub p.1 z)).elim p3 p4, p1, p2, p5⟩
  have I4' : Inv (blkH X s3 (upd H2 D (.lst [])) scope (compEnvC scope (cellsFrom (s3.heap.objs.size + 1) scope.names (cloFrom X.env.cells scope.names [])) s3.heap.objs.size X.env) fp) [] (wipe σ (own.map (·.2))) (upd H2 D (.lst []))
      { s3 with heap := pushCells (s3.heap.push { cls := .type "dict", data := .dict #[] }) scope.names } := by
    refine (I4.pins_of (pins' := X.pn) fun p hp => ?_).toTry (fun _ _ => False)
    obtain ⟨p1, p2, p3, p4, p5⟩ := pinX p hp
    exact ⟨pushCells_keeps _ _ _ _ (Heap.get?_push_of_some _ p3), p4, Nat.ne_of_lt p1, p2, p5⟩
  have hotY : HotC (blkH X s3 (upd H2 D (.lst [])) scope (compEnvC scope (cellsFrom (s3.heap.objs.size + 1) scope.names (cloFrom X.env.cells scope.names [])) s3.heap.objs.size X.env) fp) := by
    obtain ⟨p, h1, h2⟩ := hc
    exact ⟨p, h1, h2⟩
  generalize hce : compEnvC scope (cellsFrom (s3.heap.objs.size + 1) scope.names (cloFrom X.env.cells scope.names [])) s3.heap.objs.size X.env = ce at I4' hotY pg pe ⊢
  have cL : ce.locals = s3.heap.objs.size := by subst hce; rfl
  generalize hH3 : upd H2 D (.lst []) = H3 at I3 I4' hotY pg pe w0 nfp f3 pinX
  generalize hs4 : ({ s3 with heap := pushCells (s3.heap.push { cls := .type "dict", data := .dict #[] }) scope.names } : Shared) = s4 at I4' ⊢
  have st4 : tn 0 s4.heap := T.keep _ _ _ st3 fun b _ o e => by rw [← hs4]; exact pushCells_keeps _ _ _ _ (Heap.get?_push_of_some _ e)
  have stat : ∀ {σ' : St} {H' : Hp} {s' : Shared}, Inv (blkH X s3 H3 scope ce fp) [] σ' H' s' → (∀ b ∈ fp, H' b = none) → ∀ b ∈ fp, FpOk (blkH X s3 H3 scope ce fp) [] H' b := fun {σ' H' s'} I' hn b hb =>
    ⟨hn b hb, (I'.ok.exf b hb).1, I'.ok.exfs b hb, .inl hb, fun x c e => (I'.ok.exf b hb).2 x c e, fun p hp => by
      have hp' : p ∈ X.pn := by rw [List.append_nil] at hp; exact hp
      exact (f3 b hb).1.2.2.2.2.2 p (List.mem_append_left _ hp')⟩
  have loop : codeAny (model X.prog X.w) X.A (.compLoop (.ListComp elt [⟨tg, iter, [], 0⟩] scope pos) 0 (.ref it) (.ref D) ce) (compPost (model X.prog X.w) X.A X.xe none (EP X pins σ Q) (.ref D) s3.heap.objs.size) s4 := by
    refine compLoop_any (fun n s' => ∃ i H', Inv (blkH X s3 H3 scope ce fp) [] (wipe σ (own.map (·.2))) H' s' ∧ tn i s'.heap ∧ (∀ b ∈ fp, H' b = none) ∧ W i n H') ?_ m0 ⟨0, H3, I4', st4, nfp, w0⟩
    rintro n s5 ⟨i, H5, I5, st5, n5, w5⟩
    rcases turn i n H5 w5 with ⟨stop, qq⟩ | ⟨go, Nx, hNx, step⟩
    · refine thnF (T.done (blkH X s3 H3 scope ce fp) rfl rfl rfl hotY i [] s5 _ H5 (fun _ _ => False) I5 (stat I5 n5) st5 stop) fun r s6 ⟨hr, I6⟩ => ?_
      subst hr
      have I7 : Inv X pins σ H5 s6 := I3.call' (ch := fp) I6.os I6.base I6.hok I6.bare fun b hb => ⟨(f3 b hb).1.2.2.2.1, (f3 b hb).1.2.1, (f3 b hb).1.2.2.2.2.1, (f3 b hb).1.2.2.2.2.2⟩
      have nC : H5 s3.heap.objs.size = none := by
        have z : H5 ce.locals = none := I6.free
        rw [cL] at z
        exact z
      obtain ⟨m, hn, _⟩ := I6.loc
      have hn : s6.heap.Ns ce.locals m := hn
      rw [cL] at hn
      obtain ⟨k0, k1, k2, k3, k4, k5⟩ := I3.fpOk (Nat.le_refl _) nC
      exact ⟨m, hn, fun h'' sb => ⟨.ref D, H5, I7.turned (t' := s6.toks) (fun b o hb e => (sb.2 b hb).trans e) k0 k1 k3 k4 k5, rfl, qq⟩⟩
    · refine thnF (T.item (blkH X s3 H3 scope ce fp) rfl rfl rfl hotY i [] s5 _ H5 (fun _ _ => False) I5 (stat I5 n5) st5 go) fun r s6 ⟨u, hr, h6⟩ => ?_
      subst hr
      refine thnF h6 fun _ s7 ⟨x, H7, I7, r7, y7, st7, n7⟩ => ?_
      have I7' := I7.pinned (stat I7 n7) (T.obj _ _ st7)
      refine thnF (pg.run _ s7 _ H7 x u _ I7' r7 (step x H7 y7)) fun _ s8 ⟨σ8, H8, I8, hw8, q8⟩ => ?_
      have fin : ∀ {s' : Shared} {H' : Hp}, Inv (blkH X s3 H3 scope ce fp) ([] ++ pinsAt fp s7.heap) σ8 H' s' → Nx H' → ∃ m, m < n ∧ ∃ i H', Inv (blkH X s3 H3 scope ce fp) [] (wipe σ (own.map (·.2))) H' s' ∧ tn i s'.heap ∧ (∀ b ∈ fp, H' b = none) ∧ W i m H' := fun {s' H'} I' nx => by
        obtain ⟨m', hm, w'⟩ := hNx H' nx
        have pin' : ∀ b ∈ fp, ∀ o, s7.heap.get? b = some o → s'.heap.get? b = some o ∧ H' b = none := fun b hb o e =>
          let z := I'.pin (b, o) (List.mem_append_right _ (List.mem_append_right _ (mem_pinsAt hb e)))
          ⟨z.1, z.2.1⟩
        have hl : (wipe σ (own.map (·.2))).length = σ8.length := by rw [← hw8, wipe_length]
        refine ⟨m', hm, i + 1, H', (I'.unpinned (pins := [])).weak hl (fun j v e => ?_), T.keep _ _ _ st7 fun b hb o e => (pin' b hb o e).1, fun b hb => ?_, w'⟩
        · rw [← hw8] at e
          exact (wipe_some e).1
        · obtain ⟨o, e, _⟩ := T.obj _ _ st7 b hb
          exact (pin' b hb o e).2
      refine wpAny_tests_nil ?_
      have q9 : te σ8 H8 fun y H4 => ∃ acc, H4 D = some (.lst acc) ∧ acc.length < sizeLine ∧ Nx (upd H4 D (.lst (acc ++ [y]))) := by
        have z : (if true = true then te σ8 H8 fun y H4 => ∃ acc, H4 D = some (.lst acc) ∧ acc.length < sizeLine ∧ Nx (upd H4 D (.lst (acc ++ [y]))) else Nx H8) := q8
        rw [if_pos rfl] at z
        exact z
      rw [if_pos rfl]
      refine thnF (pe.run _ s8 σ8 H8 _ I8 q9) fun z s10 ⟨yv, H10, I10, r10, acc, hD10, hz10, nx⟩ => ?_
      exact app_ok (X := blkH X s3 H3 scope ce fp) I10 hD10 hz10 r10 fun s11 I11 => fin I11 nx
  exact codeAny_compStart_list loop (T.self X.A 0 _ _ _ st4 loop)
/-- over a text -/
theorem lc_text {x : Str} {g : TG} {tt : TT} {te : TE} {vs : List Nat} {σ : St} {H1 : Hp} {D : Addr} {Qd : Hp → Prop} (Pv : Nat → Hp → Prop) (h0 : Pv 0 (upd H1 D (.lst [])))
    (hs : ∀ i c H, x.cps[i]? = some c → Pv i H → g (.str ⟨#[c]⟩) (wipe σ vs) H fun σ2 H2 => wipe σ2 vs = wipe σ vs ∧ tt σ2 H2 fun b H3 =>
      if b = true then te σ2 H3 fun y H4 => ∃ acc, H4 D = some (.lst acc) ∧ acc.length < sizeLine ∧ Pv (i + 1) (upd H4 D (.lst (acc ++ [y]))) else Pv (i + 1) H3) (hd : ∀ H, Pv x.cps.size H → Qd H) :
    ∃ W : Nat → Nat → Hp → Prop, (∃ m, W 0 m (upd H1 D (.lst []))) ∧ ∀ i m H, W i m H →
      ((Its x).stop i H ∧ Qd H) ∨ ((Its x).go i H ∧ ∃ Nx : Hp → Prop, (∀ H', Nx H' → ∃ m', m' < m ∧ W (i + 1) m' H') ∧ ∀ y H', (Its x).yld i H y H' → g y (wipe σ vs) H' fun σ2 H2 => wipe σ2 vs = wipe σ vs ∧ tt σ2 H2 fun b H3 =>
        if b = true then te σ2 H3 fun y H4 => ∃ acc, H4 D = some (.lst acc) ∧ acc.length < sizeLine ∧ Nx (upd H4 D (.lst (acc ++ [y]))) else Nx H3) := by
  refine ⟨fun i m H => m = x.cps.size - i ∧ i ≤ x.cps.size ∧ Pv i H, ⟨x.cps.size, by simp, Nat.zero_le _, h0⟩, ?_⟩
  rintro i m H ⟨rfl, hi, p⟩
  by_cases hlt : i < x.cps.size
  · refine .inr ⟨hlt, Pv (i + 1), fun H' p' => ⟨x.cps.size - (i + 1), by omega, rfl, hlt, p'⟩, fun y H' hy => ?_⟩
    obtain ⟨e, c, hc, rfl⟩ := hy
    subst e
    exact hs i c _ hc p
  · have e : i = x.cps.size := by omega
    subst e
    exact .inl ⟨Nat.le_refl _, hd H p⟩

/-! ### an object made there -/
section
variable {X : Cx} {CX : CXT} {k : Nat} {f C : Addr} {fd : FuncData} {ps : List Str} {sp : Sp} {E : XK} {x : Str} {p pos : Pos} {e : Expr} {es : List Expr} {t : TA}
theorem pe_makeH (M : Mk X.K C f) (F : FnH X.prog X.w X.K X.mg X.base CX k f fd ps sp) (hr : RoomH (k + 1) X.A) (hc : HotC X) (hg : Gl X x) (hm : X.mg x = some (.ref C)) (hb : Binds X.K fd ps []) (hx : Passes CX X E)
    (ha : PA X (e :: es) t) (hdb : (x == ("__debug__" : Str)) = false := by decide) (he : starEach (e :: es) X.env = (false, eval e X.env) :: starEach es X.env := by rfl) (hpl : (backTo pos (starEach es X.env)).any (·.1) = false := by rfl) :
    PE X (.Call (.Name x p) (e :: es) [] pos) (tMake C sp [] E t) := by
  refine ⟨fun pins s0 σ H0 Q I0 h0 => ?_⟩
  refine wpAny_Call_Name_kw (ld_glob I0 hg hm ?_ hdb)
  refine PySem.W.callWith_K (h₀ := X.base) I0.ok.mod.kin M.kp (thn (ha.run pos pins s0 σ H0 _ I0 h0) fun us s ⟨vs, H, I, r, q⟩ => ⟨I.kIn, ?_⟩) he hpl
  show wpAny _ _ (call (.ref C) us) _ _ _
  have hq := q (s.heap.objs.size + 1) s.heap.objs.size (I.hok.fresh (Nat.le_succ _)) (I.hok.fresh (Nat.le_refl _)) (Nat.ne_of_lt (Nat.lt_succ_self _))
  rw [List.append_nil] at hq
  have I2 := Inv.made (C := C) I
  have r2 : Vals (V.ref (s.heap.objs.size + 1) :: vs) (Value.ref (s.heap.objs.size + 1) :: us) := .cons rfl r
  have hl : (Value.ref (s.heap.objs.size + 1) :: us ++ []).length = ps.length := by
    rw [List.append_nil]
    have e := r2.length
    rw [F.len _ _ _ _ hq] at e
    exact e.symm
  have b2 := hb _ (Value.ref (s.heap.objs.size + 1) :: us) I2.kIn hl
  rw [List.append_nil] at b2
  obtain ⟨pn, hot, hpn⟩ := hc
  have P1 := I2.pin pn (List.mem_append_left _ hpn)
  refine wpAny_call (make_map (f := f) I.kIn M.makes M.init (beq_iff_eq.mp M.fn) (codeAny_mono (F.run _ X.stack _ _ ⟨Value.ref (s.heap.objs.size + 1) :: us, []⟩ (Value.ref (s.heap.objs.size + 1) :: us) _ _ E pn (hr.make C us [])
    ⟨hot.1, hot.2⟩ ⟨P1.1, P1.2.1, fun hmm => (List.mem_cons.mp (I2.stkSub pn.1 hmm)).elim P1.2.2.1 P1.2.2.2.1, P1.2.2.2.2⟩ (I2.env0.make C us []) b2 r2 hq) fun r s' hq' => ?_))
  cases r with
  | error e => exact hx pins σ _ _ e s' I2 hq'
  | ok fl =>
    cases fl with
    | ret u =>
      obtain ⟨v, H', I3, rv, ev, q3⟩ := I2.after hq'
      subst ev
      exact ⟨rv, ⟨V.ref (s.heap.objs.size + 1), H', I3, rfl, q3⟩⟩
    | next => exact False.elim hq'
    | brk => exact False.elim hq'
    | cont => exact False.elim hq'
end

/-! ### the handled exception handed to a def: its promise hangs on the exception's object p -/
structure FnHp (P : Program) (w : World) (K : PySem.W.Frag) (mg : Str → Option Value) (base : Heap) (CX : CXT) (k : Nat) (f : Addr) (fd : FuncData) (ps : List Str) (sp : Addr × Obj → Sp) : Prop where
  len : ∀ p vs H Q E, sp p vs H Q E → vs.length = ps.length
  run : ∀ (A : Around) (outer : List Env) (s : Shared) (H : Hp) (args : Args) (us : List Value) (vs : List V) (Q : VK) (E : XK) (p : Addr × Obj), RoomH k A → Hot1 A p → PinOk outer H s p → Env0 P w K mg base A outer s H → BindsTo s fd args (ps.zip us) → Vals vs us → sp p vs H Q E →
    codeAny (model P w) A (.call (.ref f) args) (CR CX outer P w H s Q E) s
theorem fn_ofHp {CX : CXT} {P : Program} {w : World} {K : PySem.W.Frag} {mg : Str → Option Value} {base : Heap} {k : Nat} {f : Addr} {name qual : Str} {params : Arguments} {body : List Stmt} {scope : Scope} {dV kV doc pm cdv ct oc : Value} {an od : Option Addr}
    {osl : Array (Option Value)} {N ps : List Str} {sp : Addr × Obj → Sp} (lk : K.lookup f = some ⟨oc, od, .func (PySem.W.fnOf name qual params body scope dV kV doc pm an cdv ct), osl⟩) (hcd : PySem.W.codeIn K cdv qual = true) (S : FnScope N ps scope)
    (len : ∀ p vs H Q E, sp p vs H Q E → vs.length = ps.length)
    (hbody : ∀ (A : Around) (outer : List Env) (s : Shared) (H : Hp) (vs : List V) (Q : VK) (E : XK) (p : Addr × Obj), Hot1 A p → RoomH k (A.deeper (envOfC qual scope s.heap.objs.size f cdv)) → sp p vs H Q E →
      ∃ t, PSs (cxH CX P w K mg base N qual scope f cdv A outer s H E p) body t ∧ t { nx := fun _ H' => Q .non H', rt := Q } (L2.start N vs) H) :
    FnHp P w K mg base CX (k + 1) f (PySem.W.fnOf name qual params body scope dV kV doc pm an cdv ct) ps sp := by
  refine ⟨len, fun A outer s H args us vs Q E p hr hot hpin e0 hb r hsp => ?_⟩
  -- the promise for this p alone is one that FnH serves: it says which object is handled
  have hl := len _ _ _ _ _ hsp
  have KX : K.In s.heap := e0.mod.kin.keeps fun b o e => (e0.bs b o e).1
  have lim : s.heap.NoLimit := e0.mod.nolimit.keeps fun b o e => (e0.bs b o e).1
  have hkind : ∀ y ∈ ps.zip us, scope.names.lookup y.1 = some .local ∨ (scope.names.lookup y.1 = some .cell ∧ ((cellsFrom (s.heap.objs.size + 1) scope.names []).lookup y.1).isSome = true) := fun ⟨n, v⟩ hy => by
    rcases S.par n (List.of_mem_zip hy).1 with q | q
    · exact .inl q
    · exact .inr ⟨q, PySem.W.cellsFrom_some _ _ _ (.inl q)⟩
  refine codeAny_call_function hr.depth (KX _ _ lk) rfl S.co S.gen rfl (PySem.W.codeRec_of KX hcd) (hb _ _ _ _ ?_)
  refine wpAny_newFunctionEnv_cells S.kind hkind fun env he s1 x => ?_
  subst he
  refine ⟨lim.keeps x.toInCall.keep, codeAny_func ?_⟩
  obtain ⟨t, ht, hq⟩ := hbody A outer s H vs Q E p hot (hr.deeper _) hsp
  have I : Inv (cxH CX P w K mg base N qual scope f cdv A outer s H E p) [] (L2.start N vs) H s1 := inv_startH S hpin e0 hl r x
  refine wpAny_mono (ht.run [] s1 (L2.start N vs) H _ I hq) (fun fl s' hs => ?_) fun e s' hs => hs
  have fin : ∀ {σ' : St} {H' : Hp} {v : V} {u : Value}, Inv (cxH CX P w K mg base N qual scope f cdv A outer s H E p) [] σ' H' s' → RelV v u → Q v H' → CE outer P w H s Q u s' :=
    fun {σ' H' v u} J rv q => ⟨v, H', J.os, J.bare, J.base, J.hok, rv, q⟩
  cases fl with
  | ret u =>
    obtain ⟨v, σ', H', J, rv, q⟩ := hs
    exact fin J rv q
  | next =>
    obtain ⟨σ', H', J, q⟩ := hs
    exact fin (v := V.non) (u := Value.none) J rfl q
  | brk =>
    obtain ⟨_, _, _, q⟩ := hs
    exact False.elim q
  | cont =>
    obtain ⟨_, _, _, q⟩ := hs
    exact False.elim q
section
variable {X : Cx} {CX : CXT} {k : Nat} {f C : Addr} {fd : FuncData} {ps : List Str} {E : St → XK} {x m : Str} {q pos apos : Pos} {e o : Expr} {es : List Expr} {ta : TE} {t : TA}
theorem pe_callHp {sp : Addr × Obj → Sp} {p : Addr × Obj} (F : FnHp X.prog X.w X.K X.mg X.base CX k f fd ps sp) (hr : RoomH k X.A) (hot : Hot1 X.A p) (hp : p ∈ X.pn) (hg : Gl X x) (hm : X.mg x = some (.ref f)) (hk : PySem.W.keepIn X.K (.ref f) = true) (hb : Binds X.K fd ps []) (hx : ∀ σ, PassesAt CX X σ (E σ))
    (ha : PA X (e :: es) t) (hdb : (x == ("__debug__" : Str)) = false := by decide) (he : starEach (e :: es) X.env = (false, eval e X.env) :: starEach es X.env := by rfl) (hpl : (backTo pos (starEach es X.env)).any (·.1) = false := by rfl) :
    PE X (.Call (.Name x q) (e :: es) [] pos) (tCallS (sp p) E t) := by
  refine ⟨fun pins s σ H Q I h => ?_⟩
  refine wpAny_Call_Name_kw (ld_glob I hg hm ?_ hdb)
  refine PySem.W.callWith_K (h₀ := X.base) I.ok.mod.kin hk (thn (ha.run pos pins s σ H _ I h) fun us s1 ⟨vs, H1, I1, r, h⟩ => ⟨I1.kIn, ?_⟩) he hpl
  have hl : us.length = ps.length := by rw [← r.length]; exact F.len _ _ _ _ _ h
  have b := hb s1 us I1.kIn (by rw [List.append_nil]; exact hl)
  rw [List.append_nil] at b
  have P1 := I1.pin p (List.mem_append_left _ hp)
  have hpin : PinOk X.stack H1 s1 p := ⟨P1.1, P1.2.1, fun hm => (List.mem_cons.mp (I1.stkSub p.1 hm)).elim P1.2.2.1 P1.2.2.2.1, P1.2.2.2.2⟩
  show wpAny _ _ (call (.ref f) us) _ _ _
  refine wpAny_call (codeAny_mono (F.run X.A X.stack s1 H1 ⟨us, []⟩ us vs Q (E σ) p hr hot hpin I1.env0 b r h) fun r s' hq => ?_)
  cases r with
  | error e => exact hx σ pins H1 s1 e s' I1 hq
  | ok fl =>
    cases fl with
    | ret u => exact I1.after hq
    | next => exact False.elim hq
    | brk => exact False.elim hq
    | cont => exact False.elim hq
/-- refused.f, refused the pinned exception -/
def tXp (a d : Addr) (f : Str) (te : TE) : TE := fun σ H Q => te σ H fun x H1 => x = .ref a ∧ ∃ (fs : List (Str × V)) (v : V), H1 d = some (.xd fs) ∧ fs.lookup f = some v ∧ Q v H1
theorem pe_xp {a d : Addr} {oe : Obj} {te : TE} {n : Str} (T : XfC X.K C) (hno : PySem.W.findIn X.K (.ref C) n = some none) (hp : (a, oe) ∈ X.pn) (hc : oe.cls = .ref C) (hd : oe.dict = some d) (hf : ∃ vs, oe.data = .fields vs)
    (he : PE X e te) (hb : attributeBase e n X.env (eval e X.env) = eval e X.env := by rfl) : PE X (.Attribute e n pos) (tXp a d n te) := by
  refine ⟨fun pins s σ H Q I h => ?_⟩
  refine attr_of hb (thn (he.run pins s σ H _ I h) fun u s1 hh => ?_)
  obtain ⟨x, H1, I1, rx, ex, fs, v, ea, l, q⟩ := hh
  subst ex
  obtain rfl : u = Value.ref a := rx
  obtain ⟨ha, _⟩ := I1.pin (a, oe) (List.mem_append_left _ hp)
  obtain ⟨vs, hdt⟩ := hf
  have hx : ObjOk X.prog X.w H1 s1.heap d (.xd fs) := I1.hok d _ ea
  obtain ⟨mA, hns, hr⟩ := hx
  obtain ⟨od, ho, hl⟩ := lookIn_ns hns
  obtain ⟨u, hu, ru⟩ := RelO.some_of (v := v) (o := mA n) (by rw [← l]; exact hr n)
  have J : PySem.W.InstAt s1.heap a oe C (some od) := ⟨ha, hc, by unfold PySem.W.notCls; rw [hdt] <;> rfl, by rw [hd]; exact ho⟩
  exact HandSPX.exc_get I1.kIn J T.ga T.gg T.exC (PySem.W.findObj_own T.hdC hno rfl (by rw [hl, hu])) (handed_of ru) ⟨v, H1, I1.tok _, ru, q⟩
end
end Fs

/-! A dict whose keys are tuples of pairs of whole numbers, its values whole numbers. -/
namespace Fs
open PySem PySem.Spec PyProof.Rows L2

abbrev Pr := List (Nat × Nat)
def pairK (p : Nat × Nat) : NestedKey := .tup [.num p.1, .num p.2]
def keyN (P : Pr) : NestedKey := .tup (P.map pairK)
theorem pairK_inj {p q : Nat × Nat} (h : pairK p = pairK q) : p = q := by
  injection h with h
  injection h with h1 h2
  injection h2 with h2 _
  injection h1 with h1
  injection h2 with h2
  exact Prod.ext (Int.ofNat.inj h1) (Int.ofNat.inj h2)
theorem keyN_inj {P P' : Pr} (h : keyN P = keyN P') : P = P' := by
  injection h with h
  exact (List.map_inj_right fun _ _ e => pairK_inj e).mp h
theorem keyN_depth (P : Pr) : (keyN P).depth ≤ 8 := by
  have h : ∀ l : Pr, NestedKey.depthAll (l.map pairK) ≤ 1 := by
    intro l
    induction l with
    | nil => exact Nat.zero_le _
    | cons p l ih =>
      show max (NestedKey.depth (pairK p)) (NestedKey.depthAll (l.map pairK)) ≤ 1
      have : NestedKey.depth (pairK p) = 1 := rfl
      omega
  show NestedKey.depthAll (P.map pairK) + 1 ≤ 8
  have := h P
  omega

/-- at a stands the key P -/
def KeyAt (H : Hp) (a : Addr) (P : Pr) : Prop := ∃ as : List Addr, H a = some (.tup (as.map V.ref)) ∧ Paired (fun b p => H b = some (.tup [.int (p : Nat × Nat).1, .int p.2])) as P
theorem KeyAt.mono {H H' : Hp} {a : Addr} {P : Pr} (h : KeyAt H a P) (k : ∀ b xs, H b = some (.tup xs) → H' b = some (.tup xs)) : KeyAt H' a P := by
  obtain ⟨as, h1, h2⟩ := h
  exact ⟨as, k _ _ h1, Paired.mapP h2 fun b p q => k _ _ q⟩
section
variable {P : Program} {w : World} {H : Hp} {h : Heap}
theorem pair_is (ok : HOk P w H h) {b : Addr} {p : Nat × Nat} (e : H b = some (.tup [.int p.1, .int p.2])) : NestedIs h (pairK p) (.ref b) := by
  obtain ⟨_, its, r, o, h1, h2, n, h3⟩ := ok b _ e
  cases r with
  | cons r1 r =>
    cases r with
    | cons r2 r =>
      cases r
      obtain ⟨t1, rfl⟩ := r1
      obtain ⟨t2, rfl⟩ := r2
      exact .tup h1 h2 h3 (.cons (.int _ _) (.cons (.int _ _) .nil))
theorem key_is (ok : HOk P w H h) {a : Addr} {K : Pr} (e : KeyAt H a K) : (nestedKind P w).is h (keyN K) a := by
  obtain ⟨as, h1, h2⟩ := e
  obtain ⟨_, its, r, o, g1, g2, n, g3⟩ := ok a _ h1
  refine ⟨.tup g1 g2 g3 ?_, keyN_depth K⟩
  show NestedAll h (K.map pairK) its
  clear g3 g1 h1
  induction h2 generalizing its with
  | nil => cases r; exact .nil
  | @cons b p as ps q _ ih =>
    cases r with
    | cons r1 r =>
      obtain rfl := r1
      exact .cons (pair_is ok q) (ih (by have := ‹_ ≤ sizeLine›; rw [List.map_cons, List.length_cons] at this; omega) _ r)
end

abbrev Ent := Pr × Addr × Int
def EntR (x : Ent) (y : NestedKey × Addr × Value) : Prop := y.1 = keyN x.1 ∧ y.2.1 = x.2.1 ∧ ∃ t, y.2.2 = Value.int x.2.2 t
def rawN (P : Program) (w : World) (d : Addr) (xs : List Ent) (h : Heap) : Prop := (d == sysModules) = false ∧ (xs.map (·.1)).Nodup ∧ ∃ ys, Paired EntR xs ys ∧ ∃ o es ep, h.get? d = some o ∧ o.ExactDict ∧ o.data = .dict es ep ∧ es.toList = ys.map (entryOfKey (nestedKind P w))
/-- the dict at d -/
def dN (P : Program) (w : World) (d : Addr) (xs : List Ent) : HO := .ext (rawN P w d xs)
def lookN (xs : List Ent) (K : Pr) : Option (Addr × Int) := (xs.find? fun x => decide (x.1 = K)).map (·.2)
def putN (xs : List Ent) (K : Pr) (a : Addr) (v : Int) : List Ent := if (lookN xs K).isSome then xs.map (fun x => if x.1 = K then (x.1, x.2.1, v) else x) else xs ++ [(K, a, v)]

theorem lookN_cons (x : Ent) (xs : List Ent) (K : Pr) : lookN (x :: xs) K = if x.1 = K then some x.2 else lookN xs K := by
  unfold lookN
  rw [List.find?_cons]
  by_cases h : x.1 = K
  · simp [h]
  · simp [h]
theorem lookN_mem {xs : List Ent} {K : Pr} {p : Addr × Int} (h : lookN xs K = some p) : (K, p) ∈ xs := by
  induction xs with
  | nil => cases h
  | cons x xs ih =>
    rw [lookN_cons] at h
    by_cases e : x.1 = K
    · rw [if_pos e] at h
      cases h
      subst e
      exact List.mem_cons_self
    · rw [if_neg e] at h
      exact List.mem_cons_of_mem _ (ih h)
theorem lookN_none {xs : List Ent} {K : Pr} (h : lookN xs K = none) : K ∉ xs.map (·.1) := by
  induction xs with
  | nil => exact List.not_mem_nil
  | cons x xs ih =>
    rw [lookN_cons] at h
    by_cases e : x.1 = K
    · rw [if_pos e] at h; cases h
    · rw [if_neg e] at h
      rw [List.map_cons, List.mem_cons]
      rintro (q | q)
      · exact e q.symm
      · exact ih h q
theorem putN_mem {xs : List Ent} {K : Pr} {a : Addr} {v : Int} {x : Ent} (h : x ∈ putN xs K a v) : x ∈ xs ∨ (x.1 = K ∧ x.2.2 = v ∧ (x.2.1 = a ∨ ∃ y ∈ xs, y.1 = K ∧ x.2.1 = y.2.1)) := by
  unfold putN at h
  split at h
  · obtain ⟨y, hy, rfl⟩ := List.mem_map.mp h
    by_cases e : y.1 = K
    · rw [if_pos e]
      exact .inr ⟨e, rfl, .inr ⟨y, hy, e, rfl⟩⟩
    · rw [if_neg e]
      exact .inl hy
  · rcases List.mem_append.mp h with h | h
    · exact .inl h
    · rw [List.mem_singleton.mp h]
      exact .inr ⟨rfl, rfl, .inl rfl⟩
theorem putN_look {xs : List Ent} {K : Pr} {a : Addr} {v : Int} : ∃ b, lookN (putN xs K a v) K = some (b, v) := by
  unfold putN
  split
  · rename_i h
    obtain ⟨p, hp⟩ := Option.isSome_iff_exists.mp h
    clear h
    induction xs with
    | nil => cases hp
    | cons x xs ih =>
      rw [lookN_cons] at hp
      rw [List.map_cons, lookN_cons]
      by_cases e : x.1 = K
      · rw [if_pos e, if_pos (by exact e)]
        exact ⟨_, rfl⟩
      · rw [if_neg e] at hp ⊢
        rw [if_neg e]
        exact ih hp
  · rename_i h
    have h : lookN xs K = none := by
      cases e : lookN xs K with
      | none => rfl
      | some p => rw [e] at h; exact absurd rfl h
    refine ⟨a, ?_⟩
    rename_i h0
    clear h0
    induction xs with
    | nil => rw [List.nil_append, lookN_cons, if_pos rfl]
    | cons x xs ih =>
      rw [lookN_cons] at h
      by_cases e : x.1 = K
      · rw [if_pos e] at h; cases h
      · rw [if_neg e] at h
        rw [List.cons_append, lookN_cons, if_neg e]
        exact ih h
theorem putN_keys {xs : List Ent} {K : Pr} {a : Addr} {v : Int} (h : (xs.map (·.1)).Nodup) : ((putN xs K a v).map (·.1)).Nodup := by
  unfold putN
  split
  · rw [List.map_map]
    have e : (fun x : Ent => (if x.1 = K then (x.1, x.2.1, v) else x).1) = fun x => x.1 := by
      funext x
      split <;> rfl
    show (xs.map (fun x : Ent => (if x.1 = K then (x.1, x.2.1, v) else x).1)).Nodup
    rw [e]
    exact h
  · rename_i q
    have q : lookN xs K = none := by
      cases e : lookN xs K with
      | none => rfl
      | some p => rw [e] at q; exact absurd rfl q
    rw [List.map_append]
    refine List.nodup_append.mpr ⟨h, by simp, fun b hb c hc z => ?_⟩
    have : c = K := by simpa using hc
    subst this
    subst z
    exact lookN_none q hb
theorem look_rel {K : Pr} {xs : List Ent} {ys : List (NestedKey × Addr × Value)} (rel : Paired EntR xs ys) : (lookN xs K = none → atKey ys (keyN K) = none) ∧ (∀ p, lookN xs K = some p → ∃ t, atKey ys (keyN K) = some (p.1, .int p.2 t)) := by
  induction rel with
  | nil => exact ⟨fun _ => rfl, fun p h => by cases h⟩
  | @cons x y xs ys r _ ih =>
    obtain ⟨i1, i2⟩ := ih
    obtain ⟨e1, e2, tk, e3⟩ := r
    have key : atKey (y :: ys) (keyN K) = if x.1 = K then some y.2 else atKey ys (keyN K) := by
      unfold atKey
      rw [List.find?_cons]
      by_cases h : x.1 = K
      · have : decide (y.1 = keyN K) = true := by rw [e1, h]; exact decide_eq_true rfl
        rw [this, if_pos h]
        rfl
      · have : decide (y.1 = keyN K) = false := decide_eq_false fun q => h (keyN_inj (e1.symm.trans q))
        rw [this, if_neg h]
    rw [lookN_cons, key]
    by_cases h : x.1 = K
    · rw [if_pos h, if_pos h]
      refine ⟨fun q => (by cases q), fun p q => ?_⟩
      have q := Option.some.inj q
      subst q
      exact ⟨tk, congrArg some (Prod.ext e2 e3)⟩
    · rw [if_neg h, if_neg h]
      exact ⟨i1, i2⟩
theorem put_rel {K : Pr} {a : Addr} {v : Int} {t : Tok} {xs : List Ent} {ys : List (NestedKey × Addr × Value)} (r : Paired EntR xs ys) : Paired EntR (putN xs K a v) (storedH ys (keyN K) a (.int v t)) := by
  obtain ⟨i1, i2⟩ := look_rel (K := K) r
  unfold putN storedH
  cases e : lookN xs K with
  | none =>
    rw [i1 e]
    exact r.snoc ⟨rfl, rfl, t, rfl⟩
  | some p =>
    obtain ⟨tk, e2⟩ := i2 p e
    rw [e2]
    show Paired EntR (xs.map _) (ys.map (putAt (keyN K) (.int v t)))
    clear i1 i2 e e2
    induction r with
    | nil => exact .nil
    | @cons x y xs ys q _ ih =>
      refine .cons ?_ ih
      obtain ⟨e1, e2, tk, e3⟩ := q
      unfold putAt
      show EntR (if x.1 = K then (x.1, x.2.1, v) else x) _
      by_cases h : x.1 = K
      · rw [if_pos h, if_pos (by rw [e1, h])]
        exact ⟨e1, e2, t, rfl⟩
      · rw [if_neg h, if_neg fun q => h (keyN_inj (e1.symm.trans q))]
        exact ⟨e1, e2, tk, e3⟩
theorem paired_len {α β : Type} {F : α → β → Prop} {l : List α} {m : List β} (r : Paired F l m) : l.length = m.length := Paired.length r

section
variable {X : Cx} {pins : List (Addr × Obj)} {σ : St} {H : Hp} {s : Shared} {d a : Addr} {xs : List Ent} {K : Pr}
/-- the dict as the library tells it -/
theorem dict_of (I : Inv X pins σ H s) (e : H d = some (dN X.prog X.w d xs)) (hk : ∀ x ∈ xs, KeyAt H x.2.1 x.1) : (d == sysModules) = false ∧ ∃ ys, Paired EntR xs ys ∧ s.heap.DictOfH (nestedKind X.prog X.w) d ys := by
  have x : ObjOk X.prog X.w H s.heap d (.ext (rawN X.prog X.w d xs)) := I.hok d _ e
  obtain ⟨hd, nd, ys, r, o, es, ep, h1, h2, h3, h4⟩ := x.1
  clear x
  refine ⟨hd, ys, r, o, es, ep, h1, h2, h3, h4, ?_, ?_⟩
  · clear h4 nd e
    induction r with
    | nil => intro y hy; cases hy
    | @cons x y xs ys q _ ih =>
      intro z hz
      rcases List.mem_cons.mp hz with rfl | hz
      · obtain ⟨e1, e2, _⟩ := q
        rw [e1, e2]
        exact key_is I.hok (hk x List.mem_cons_self)
      · exact ih (fun x hx => hk x (List.mem_cons_of_mem _ hx)) z hz
  · have e : ys.map (·.1) = (xs.map (·.1)).map keyN := by
      clear h4 nd e hk
      induction r with
      | nil => rfl
      | @cons x y xs ys q _ ih =>
        rw [List.map_cons, List.map_cons, List.map_cons, ih, q.1]
    rw [e]
    exact List.Pairwise.map _ (fun _ _ ne q => ne (keyN_inj q)) nd
theorem dN_ok {P : Program} {w : World} {h : Heap} {ys : List (NestedKey × Addr × Value)} (hd : (d == sysModules) = false) (nd : (xs.map (·.1)).Nodup) (r : Paired EntR xs ys) {o : Obj} {es : Array DictEntry} {ep : Nat} (h1 : h.get? d = some o) (h2 : o.ExactDict) (h3 : o.data = .dict es ep) (h4 : es.toList = ys.map (entryOfKey (nestedKind P w))) : ObjOk P w H h d (dN P w d xs) := by
  refine ⟨⟨hd, nd, ys, r, o, es, ep, h1, h2, h3, h4⟩, ⟨o, h1⟩, fun g1 g2 z k => ?_⟩
  obtain ⟨hd, nd, ys, r, o, es, ep, h1, h2, h3, h4⟩ := z
  exact ⟨hd, nd, ys, r, o, es, ep, k o h1, h2, h3, h4⟩
end

/-! ### rules -/
def tDNewN (P : Program) (w : World) : TE := fun _ H Q => ∀ p, H p = none → Q (.ref p) (upd H p (dN P w p []))
def rNotInN (P : Program) (w : World) : R2 := fun x y H Q => ∃ a d K xs, x = .ref a ∧ y = .ref d ∧ H d = some (dN P w d xs) ∧ KeyAt H a K ∧ (∀ x ∈ xs, KeyAt H x.2.1 x.1) ∧ Q (.bl (!(lookN xs K).isSome)) H
def rIxN (P : Program) (w : World) : R2 := fun x y H Q => ∃ a d K xs p, x = .ref d ∧ y = .ref a ∧ H d = some (dN P w d xs) ∧ KeyAt H a K ∧ (∀ x ∈ xs, KeyAt H x.2.1 x.1) ∧ lookN xs K = some p ∧ Q (.int p.2) H
def tSetN (P : Program) (w : World) : TSet := fun o i v H Q => ∃ a d K xs n, o = .ref d ∧ i = .ref a ∧ v = .int n ∧ H d = some (dN P w d xs) ∧ KeyAt H a K ∧ (∀ x ∈ xs, KeyAt H x.2.1 x.1) ∧ xs.length ≤ sizeLine ∧ Q (upd H d (dN P w d (putN xs K a n)))
section
variable {X : Cx} {pos : Pos}
theorem roomN {A : Around} {k : Nat} (hr : Room k A) (prog : Program) (w : World) : (nestedKind prog w).room A.in1 ∧ (nestedKind prog w).room A := by
  have := hr.un
  exact ⟨by show A.units + 1 + 8 < cLine; omega, by show A.units + 8 < cLine; omega⟩
theorem pe_dnewN : PE X (.Dict [] [] pos) (tDNewN X.prog X.w) := ⟨fun pins s σ H Q I h => by
  have hb := I.big
  exact wpAny_Dict_empty ⟨.ref s.heap.objs.size, _, I.laid (a := s.heap.objs.size) (o := dN X.prog X.w s.heap.objs.size []) (t' := s.toks) (fun _ _ q => Heap.get?_push_of_some _ q) (Nat.le_refl _)
    (dN_ok (ys := []) (es := #[]) (ep := 0) (beq_eq_false_iff_ne.mpr (Ne.symm (Nat.ne_of_lt hb))) List.nodup_nil .nil (Heap.get?_push_size _ rfl) ⟨rfl, rfl, rfl⟩ rfl rfl), rfl, h _ (I.hok.fresh (Nat.le_refl _))⟩⟩
theorem op_notInN {k : Nat} (hr : Room k X.A) : OpR X (compareOp .NotIn) (rNotInN X.prog X.w) := by
  intro pins s σ H x y v u Q I rx ry h
  obtain ⟨a, d, K, xs, rfl, rfl, e, ka, hk, q⟩ := h
  cases rx
  cases ry
  obtain ⟨hd, ys, r, hm⟩ := dict_of I e hk
  have hs : (atKey ys (keyN K)).isSome = (lookN xs K).isSome := by
    obtain ⟨i1, i2⟩ := look_rel (K := K) r
    cases z : lookN xs K with
    | none => rw [i1 z]; rfl
    | some p =>
      obtain ⟨t, z2⟩ := i2 p z
      rw [z2]; rfl
  show wpAny _ _ (do return Value.bool (!(← contains (.ref d) (.ref a)))) _ _ _
  refine wpAny_bind (wpAny_contains_heap (roomN hr X.prog X.w).1 (key_is I.hok ka) hd hm (wpAny_pure ?_))
  rw [hs]
  exact ⟨.bl _, H, I.tok _, rfl, q⟩
theorem ix_N {k : Nat} (hr : Room k X.A) : IxR X (rIxN X.prog X.w) := by
  intro value slice pins s σ H x y v u Q I rx ry h hs
  obtain ⟨a, d, K, xs, p, rfl, rfl, e, ka, hk, hl, q⟩ := h
  cases rx
  cases ry
  obtain ⟨hd, ys, r, hm⟩ := dict_of I e hk
  obtain ⟨t, z⟩ := (look_rel (K := K) r).2 p hl
  exact tail_any hm.typeIs slot_dict_getitem.lookup (wpAny_getItem_heap (roomN hr X.prog X.w).1 (key_is I.hok ka) hm z ⟨.int p.2, H, I.tok _, ⟨t, rfl⟩, q⟩) hs
theorem set_N {k : Nat} (hr : Room k X.A) : PSet X (tSetN X.prog X.w) := by
  intro pins s σ H o i v ov iv u Q I ro ri rv h
  obtain ⟨a, d, K, xs, n, rfl, rfl, rfl, e, ka, hk, hz, q⟩ := h
  cases ro
  cases ri
  obtain ⟨t, rfl⟩ := rv
  obtain ⟨hd, ys, r, hm⟩ := dict_of I e hk
  have nd : (xs.map (·.1)).Nodup := by
    have x : ObjOk X.prog X.w H s.heap d (.ext (rawN X.prog X.w d xs)) := I.hok d _ e
    exact x.1.2.1
  refine wpAny_setItem_heap (knd := nestedKind X.prog X.w) (roomN hr X.prog X.w).1 (key_is I.hok ka) hm (fun h' hm' hs => ?_) (by rw [← paired_len r]; exact hz)
  obtain ⟨o, es, ep, h1, h2, h3, h4, _, _⟩ := hm'
  exact ⟨_, I.write (x := d) (e := d) (o := dN X.prog X.w d (putN xs K a n)) (by rw [e]; trivial) (.inl rfl) (fun b u hb q => (hs.2 b hb).trans q) ⟨o, h1⟩ (dN_ok hd (putN_keys nd) (put_rel r) h1 h2 h3 h4), q⟩
end
end Fs

/-! Further rules: a tuple backwards, a tuple against a tuple of one text, a for over a list or a tuple. -/
namespace Fs
open PySem PySem.Spec PyProof.Rows L2

/-! ### t[::-1] -/
section
variable {prog : Program} {w : World} {A : Around} {E : Value → Shared → Prop} {s : Shared}
theorem places_rev (n : Nat) : Builtin.Slice.slicePlaces ((n : Int) - 1) (-1) (-1) = n := by
  unfold Builtin.Slice.slicePlaces
  have h1 : ¬ ((-1 : Int) > 0) := by omega
  simp only [h1, if_false]
  have e : (-(-1) : Int) = 1 := rfl
  rw [e]
  simp only [Int.ediv_one]
  split <;> omega
theorem pick_rev (xs : Array Value) : ((List.range xs.size).filterMap fun (k : Nat) => xs[(((xs.size : Int) - 1) + (k : Int) * -1).toNat]?).toArray = xs.toList.reverse.toArray := by
  rw [← PySem.W.krv_pick]
  unfold slicePick
  rw [PySem.W.krv_bounds]
  show _ = ((sliceRange ((xs.size : Int) - 1) (-1) (-1)).filterMap (xs[·]?)).toArray
  rw [PySem.W.krv_sliceRange, List.filterMap_map]
  refine congrArg List.toArray ?_
  have key : ∀ l : List Nat, (∀ k ∈ l, k < xs.size) → (l.filterMap fun (k : Nat) => xs[(((xs.size : Int) - 1) + (k : Int) * -1).toNat]?) = l.filterMap ((fun x => xs[x]?) ∘ fun k => xs.size - 1 - k) := by
    intro l
    induction l with
    | nil => intro _; rfl
    | cons k l ih =>
      intro h
      have hk := h k List.mem_cons_self
      rw [List.filterMap_cons, List.filterMap_cons, ih fun j hj => h j (List.mem_cons_of_mem _ hj)]
      have e : (((xs.size : Int) - 1) + (k : Int) * -1).toNat = xs.size - 1 - k := by omega
      rw [e]
      rfl
  exact key _ fun k hk => List.mem_range.mp hk
theorem getItem_tuple_rev {t sl : Addr} {items : Array Value} {u : Tok} {Q : Value → Shared → Prop} (ht : IsTup s.heap t items) (hs : s.heap.IsSliceOf sl .none .none (.int (-1) u))
    (h : Q (.ref s.heap.objs.size) { s with heap := s.heap.push { cls := .type "tuple", data := .seq items.toList.reverse.toArray } })
    (hsz : items.size ≤ sizeLine) : wpAny (model prog w) A (getItem (.ref t) (.ref sl)) Q E s := by
  have hrev : sizeOk (.seq items.toList.reverse.toArray) := by
    show items.toList.reverse.toArray.size ≤ sizeLine
    rw [List.size_toArray, List.length_reverse, Array.length_toList]
    exact hsz
  obtain ⟨os, hos, hcs, hds⟩ := id hs
  have hTs : s.TypeIs (.ref sl) "slice" := ⟨os, hos, hcs⟩
  unfold getItem
  try with_reducible refine wpAny_holding ?_
  first | refine wpAny_bind (wpAny_pure ?_) | skip
  refine wpAny_bind (wpAny_sequenceKey ht.typeIs (by decide) ?_)
  refine wpAny_bind (wpAny_callSpecial?_slot (name := Str.ofString "__getitem__") ht.typeIs PyProof.Rows.slot_tuple_getitem
    (wpAny_call_entry PyProof.Rows.slot_tuple_getitem ht.typeIs entry_tuple_getitem ?_ (args_tuple_getitem _ _)))
  show wpAny _ _ (Builtin.Tuple.tupleItemsOf (.ref t) >>= _) _ _ s
  refine wpAny_bind (tupleItemsOf_ ht ?_)
  refine wpAny_bind (wpAny_typeOf hTs ?_)
  rw [if_pos (by decide)]
  have app : ∀ {Q' : Int × Int × Nat → Shared → Prop} {A' : Around} {E' : Value → Shared → Prop}, Q' ((items.size : Int) - 1, -1, items.size) s → wpAny (model prog w) A' (Builtin.Slice.sliceApplied (.ref sl) (pure (items.size : Int))) Q' E' s := by
    intro Q' A' E' q
    unfold Builtin.Slice.sliceApplied Builtin.Slice.sliceFields
    refine wpAny_bind (wpAny_bind (wpAny_field hos hds (x := .none) rfl (wpAny_bind (wpAny_field hos hds (x := .none) rfl (wpAny_bind (wpAny_field hos hds (x := .int (-1) u) rfl (wpAny_pure ?_)))))))
    refine wpAny_bind (slicePart_int ?_)
    show wpAny _ _ (if ((-1 : Int) == 0) = true then _ else _) _ _ s
    rw [if_neg (by decide)]
    refine wpAny_bind (slicePart_none (wpAny_bind (slicePart_none (wpAny_bind (wpAny_pure ?_)))))
    show wpAny _ _ (pure ((items.size : Int) - 1, (-1 : Int), Builtin.Slice.slicePlaces ((items.size : Int) - 1) (-1) (-1))) _ _ s
    rw [places_rev]
    exact wpAny_pure q
  refine wpAny_bind (app ?_)
  have hno : ¬ ((((items.size : Int) - 1 == 0) && (-1 : Int) == 1 && items.size == items.size) = true) := by
    rw [show ((-1 : Int) == 1) = false from rfl, Bool.and_false, Bool.false_and]
    exact Bool.false_ne_true
  show wpAny _ _ (if (((items.size : Int) - 1 == 0) && (-1 : Int) == 1 && items.size == items.size) = true then _ else _) _ _ s
  rw [if_neg hno, pick_rev]
  first
    | exact wpAny_bind (m := Builtin.Tuple.tupleExact _) (wpAny_newObj_type (wpAny_pure ⟨_, rfl, wpAny_pure h⟩) hrev)
    | exact wpAny_bind (m := Builtin.Tuple.tupleExact _) (wpAny_newObj_type (wpAny_bind (wpAny_pure (wpAny_pure ⟨_, rfl, wpAny_pure h⟩))) hrev)
    | exact wpAny_bind (wpAny_bind (m := Builtin.Tuple.tupleExact _) (wpAny_newObj_type (wpAny_pure (wpAny_pure ⟨_, rfl, wpAny_pure h⟩)) hrev))
    | exact wpAny_bind (wpAny_bind (m := Builtin.Tuple.tupleExact _) (wpAny_newObj_type (wpAny_pure ⟨_, rfl, wpAny_pure h⟩) hrev))
end
def tRevT (K : PySem.W.Frag) (te : TE) : TE := fun σ H Q => te σ H fun x H1 => ∃ a xs, x = .ref a ∧ SqT K H1 a xs ∧ ∀ p, H1 p = none → Q (.ref p) (upd H1 p (.tup xs.reverse))
section
variable {X : Cx}
theorem pe_revT {e : Expr} {te : TE} {k : Nat} {p1 p2 p3 pos : Pos} (he : PE X e te) : PE X (.Subscript e (.Slice none none (some (.UnaryOp .USub (.Constant (.int 1) k p1) p2)) p3) pos) (tRevT X.K te) := by
  refine ⟨fun pins s σ H Q I h => ?_⟩
  refine Subscript_ (thn (he.run pins s σ H _ I h) fun v s1 ⟨x, H1, I1, r1, q1⟩ => ?_)
  obtain ⟨a, xs, ex, hx, q⟩ := q1
  subst ex
  cases r1
  have hst : PE X (.UnaryOp .USub (.Constant (.int 1) k p1) p2) (tUn (rU fun i => .int (-i)) (tC (.int 1))) := pe_un un_neg pe_int
  refine wpAny_Slice ?_
  rw [evalPart_none]
  refine wpAny_pure ?_
  refine wpAny_pure ?_
  rw [show evalPart (some (.UnaryOp .USub (.Constant (.int 1) k p1) p2)) X.env = eval (.UnaryOp .USub (.Constant (.int 1) k p1) p2) X.env from by first | rfl | (simp only [evalPart])]
  refine thn (hst.run pins s1 σ H1 (fun z H2 => z = .int (-1) ∧ H2 = H1) I1 ⟨1, rfl, rfl, rfl⟩) fun vs s4 ⟨z, H4, I4, rz, ez, e4⟩ => ?_
  subst ez e4
  obtain ⟨u, rfl⟩ := rz
  have I5 : Inv X pins σ H4 { s4 with heap := s4.heap.push { cls := .type "slice", data := .fields #[.none, .none, .int (-1) u] } } := I4.kept (t' := s4.toks) fun b ob q => Heap.get?_push_of_some _ q
  obtain ⟨its, r, ht, hz⟩ := I5.tuple hx
  have hlen := r.length
  show wpAny (model X.prog X.w) X.A (subscriptTail e (.Slice none none (some (.UnaryOp .USub (.Constant (.int 1) k p1) p2)) p3) (.ref a) (.ref s4.heap.objs.size)) (EP X pins σ Q) X.xe { s4 with heap := s4.heap.push { cls := .type "slice", data := .fields #[.none, .none, .int (-1) u] } }
  refine tail_any (ops := [.ref a, .ref s4.heap.objs.size]) ht.typeIs PyProof.Rows.slot_tuple_getitem.lookup ?_ (by with_unfolding_all rfl)
  refine getItem_tuple_rev ht (Heap.IsSliceOf.new _ .none .none (.int (-1) u)) ?_ (by rw [List.size_toArray]; omega)
  refine ⟨.ref _, _, I5.laid (t' := s4.toks) (o := .tup xs.reverse) (fun b ob q => Heap.get?_push_of_some _ q) (Nat.le_refl _) ?_, rfl, q _ (I5.hok.fresh (Nat.le_refl _))⟩
  exact ⟨by rw [List.length_reverse]; exact hz, _, r.reverse, IsTup.new _ _⟩

/-! ### a for over a list or a tuple -/
def iSeq (K : PySem.W.Frag) (te : TE) : TI := fun σ H R => te σ H fun x H1 => ∃ a, x = .ref a ∧ (((∃ xs, SqL K H1 a xs) ∧ R (Itl K a) H1) ∨ ((∃ xs, SqT K H1 a xs) ∧ R (Itt K a) H1))
theorem pi_seq {tg l : Expr} {tl : TE} (hl : PE X l tl) : PI X tg l (iSeq X.K tl) := by
  refine ⟨fun pins s σ H R I h => ?_⟩
  refine thn (hl.run pins s σ H _ I h) fun v s1 ⟨x, H1, I1, r1, q1⟩ => ?_
  obtain ⟨a, e, q⟩ := q1
  subst e
  cases r1
  have fp : ∀ o : Obj, ∀ b ∈ [s1.heap.objs.size], FpOk X pins H1 b := fun o b hb => by
    have e : b = s1.heap.objs.size := by simpa using hb
    subst e
    exact I1.fpOk (Nat.le_refl _) (I1.hok.fresh (Nat.le_refl _))
  rcases q with ⟨⟨xs, hq⟩, q⟩ | ⟨⟨xs, hq⟩, q⟩
  · obtain ⟨its, rv, p, hz⟩ := I1.list hq
    refine wpAny_pyIter_list p.isList ?_
    exact ⟨s1.heap.objs.size, [s1.heap.objs.size], _, _, H1, rfl, I1.kept (t' := s1.toks) fun b o e => Heap.get?_push_of_some _ e, turn_list a _, ⟨_, Heap.get?_push_size _ rfl, rfl, rfl⟩, fp ⟨.none, none, .cell none, #[]⟩, q⟩
  · obtain ⟨its, rv, p, hz⟩ := I1.tuple hq
    refine wpAny_pyIter_tuple (show s1.heap.IsTuple a its.toArray from p) ?_
    exact ⟨s1.heap.objs.size, [s1.heap.objs.size], _, _, H1, rfl, I1.kept (t' := s1.toks) fun b o e => Heap.get?_push_of_some _ e, turn_tuple a _, ⟨_, Heap.get?_push_size _ rfl, rfl, rfl⟩, fp ⟨.none, none, .cell none, #[]⟩, q⟩

/-! ### a tuple whose first is a text against a tuple of one text -/
def rEqTag (K : PySem.W.Frag) : R2 := fun x y H Q => ∃ (a b : Addr) (z t : Str) (r : List V), x = .ref a ∧ y = .ref b ∧ SqT K H a (.str z :: r) ∧ SqT K H b [.str t] ∧ Q (.bl (decide (z = t) && r.isEmpty)) H
theorem op_eqTag {k : Nat} (hr : Room k X.A) : OpR X (compareOp .Eq) (rEqTag X.K) := by
  intro pins s σ H x y v u Q I rx ry h
  obtain ⟨a, b, z, t, r, rfl, rfl, ha, hb, q⟩ := h
  cases rx
  cases ry
  obtain ⟨its, r1, p1, _⟩ := I.tuple ha
  obtain ⟨its2, r2, p2, _⟩ := I.tuple hb
  cases r1 with
  | @cons _ u0 _ ur rz rr =>
    cases r2 with
    | @cons _ w0 _ wr rt rn =>
      cases rn
      obtain ⟨t1, rfl⟩ := rz
      obtain ⟨t2, rfl⟩ := rt
      refine SeqAt.eq_tupleAt (e := fun _ => decide (z = t)) (show s.heap.IsTuple a (Value.str z t1 :: ur).toArray from p1) (show s.heap.IsTuple b [Value.str t t2].toArray from p2) hr.units0 (fun j h1 h2 => ?_) ?_
      · have e : j = 0 := by
          have : j < 1 := h2
          omega
        subst e
        intro prog w E Q hq
        exact wpAny_eqBool_str hq
      · have hl := rr.length
        have e1 : min (Value.str z t1 :: ur).toArray.size [Value.str t t2].toArray.size = 1 := by simp
        have e2 : ((Value.str z t1 :: ur).toArray.size == [Value.str t t2].toArray.size) = r.isEmpty := by
          rw [List.size_toArray, List.size_toArray, List.length_cons, ← hl]
          cases r with
          | nil => rfl
          | cons y r => simp
        rw [e1, e2]
        refine fin_bl I q ?_
        simp
end
end Fs

/-! Defs of the text with their promises, by name: how they are called. -/
namespace Fs
open PySem PySem.Spec PyProof.Rows L2 L2H
section
variable (P : Program) (w : World) (K : PySem.W.Frag) (mg : Str → Option Value) (base : Heap)
/-- a def that lets nothing out; one that may raise; one as it is called where an exception is handled; one to which that exception is handed -/
structure Cal (k : Nat) (x : Str) (sp : Sp) : Prop where
  ex : ∃ (f : Addr) (fd : FuncData) (ps : List Str), FnOk P w K mg base L2.CX0 k f fd ps sp ∧ mg x = some (.ref f) ∧ PySem.W.keepIn K (.ref f) = true ∧ Binds K fd ps []
structure CalX (k : Nat) (x : Str) (sp : Sp) : Prop where
  ex : ∃ (f : Addr) (fd : FuncData) (ps : List Str), FnOk P w K mg base (L2N.CX P w) k f fd ps sp ∧ mg x = some (.ref f) ∧ PySem.W.keepIn K (.ref f) = true ∧ Binds K fd ps []
structure CalH (k : Nat) (x : Str) (sp : Sp) : Prop where
  ex : ∃ (f : Addr) (fd : FuncData) (ps : List Str), FnH P w K mg base L2.CX0 k f fd ps sp ∧ mg x = some (.ref f) ∧ PySem.W.keepIn K (.ref f) = true ∧ Binds K fd ps []
structure CalP (k : Nat) (x : Str) (sp : Addr × Obj → Sp) : Prop where
  ex : ∃ (f : Addr) (fd : FuncData) (ps : List Str), FnHp P w K mg base L2.CX0 k f fd ps sp ∧ mg x = some (.ref f) ∧ PySem.W.keepIn K (.ref f) = true ∧ Binds K fd ps []
structure Met (k : Nat) (C : Addr) (m : Str) (sp : Sp) : Prop where
  ex : ∃ (f : Addr) (fd : FuncData) (ps : List Str), FnOk P w K mg base L2.CX0 k f fd ps sp ∧ Cls K C ∧ Meth K C m f ∧ Binds K fd ps []
structure MetX (k : Nat) (C : Addr) (m : Str) (sp : Sp) : Prop where
  ex : ∃ (f : Addr) (fd : FuncData) (ps : List Str), FnOk P w K mg base (L2N.CX P w) k f fd ps sp ∧ Cls K C ∧ Meth K C m f ∧ Binds K fd ps []
structure Mak (k : Nat) (x : Str) (C : Addr) (sp : Sp) : Prop where
  ex : ∃ (f : Addr) (fd : FuncData) (ps : List Str), FnOk P w K mg base L2.CX0 k f fd ps sp ∧ Mk K C f ∧ mg x = some (.ref C) ∧ Binds K fd ps []
structure MakH (k : Nat) (x : Str) (C : Addr) (sp : Sp) : Prop where
  ex : ∃ (f : Addr) (fd : FuncData) (ps : List Str), FnH P w K mg base L2.CX0 k f fd ps sp ∧ Mk K C f ∧ mg x = some (.ref C) ∧ Binds K fd ps []
end
section
variable (K : PySem.W.Frag) (mg : Str → Option Value)
/-- how they stand: a def, a method, an __init__ -/
structure Df (x : Str) (st : Stmt) (ps : List Str) : Prop where
  ex : ∃ (f : Addr) (fd : FuncData), Fun K x x st f fd ∧ mg x = some (.ref f) ∧ Binds K fd ps []
structure Dm (C : Addr) (m qual : Str) (st : Stmt) (ps : List Str) : Prop where
  ex : ∃ (f : Addr) (fd : FuncData), Fun K m qual st f fd ∧ Cls K C ∧ Meth K C m f ∧ Binds K fd ps []
structure Di (x : Str) (C : Addr) (qual : Str) (st : Stmt) (ps : List Str) : Prop where
  ex : ∃ (f : Addr) (fd : FuncData), Fun K "__init__" qual st f fd ∧ Mk K C f ∧ mg x = some (.ref C) ∧ Binds K fd ps []
end

section
variable {P : Program} {w : World} {K : PySem.W.Frag} {mg : Str → Option Value} {base : Heap} {x m qual : Str} {C : Addr} {st : Stmt} {N ps : List Str} {k : Nat} {sp : Sp}
/-- a body that lets nothing out -/
abbrev Bd (P : Program) (w : World) (K : PySem.W.Frag) (mg : Str → Option Value) (base : Heap) (N : List Str) (qual : Str) (st : Stmt) (k : Nat) (sp : Sp) : Prop :=
  ∀ (f : Addr) (cdv : Value) (A : Around) (outer : List Env) (s : Shared) (H : Hp) (vs : List V) (Q : VK) (E : XK), Room k (A.deeper (envOfC qual (defScope st) s.heap.objs.size f cdv)) → sp vs H Q E →
    ∃ t, PSs (cxOf L2.CX0 P w K mg base N qual (defScope st) f cdv A outer s H E).nox (defBody st) t ∧ t { nx := fun _ H' => Q .non H', rt := Q } (start N vs) H
abbrev BdX (P : Program) (w : World) (K : PySem.W.Frag) (mg : Str → Option Value) (base : Heap) (N : List Str) (qual : Str) (st : Stmt) (k : Nat) (sp : Sp) : Prop :=
  ∀ (f : Addr) (cdv : Value) (A : Around) (outer : List Env) (s : Shared) (H : Hp) (vs : List V) (Q : VK) (E : XK), Room k (A.deeper (envOfC qual (defScope st) s.heap.objs.size f cdv)) → sp vs H Q E →
    ∃ t, PSs (cxOf (L2N.CX P w) P w K mg base N qual (defScope st) f cdv A outer s H E) (defBody st) t ∧ t { nx := fun _ H' => Q .non H', rt := Q } (start N vs) H
abbrev BdH (P : Program) (w : World) (K : PySem.W.Frag) (mg : Str → Option Value) (base : Heap) (N : List Str) (qual : Str) (st : Stmt) (k : Nat) (sp : Sp) : Prop :=
  ∀ (f : Addr) (cdv : Value) (A : Around) (outer : List Env) (s : Shared) (H : Hp) (vs : List V) (Q : VK) (E : XK) (p : Addr × Obj), Hot1 A p → RoomH k (A.deeper (envOfC qual (defScope st) s.heap.objs.size f cdv)) → sp vs H Q E →
    ∃ t, PSs (cxH L2.CX0 P w K mg base N qual (defScope st) f cdv A outer s H E p).nox (defBody st) t ∧ t { nx := fun _ H' => Q .non H', rt := Q } (start N vs) H
abbrev BdP (P : Program) (w : World) (K : PySem.W.Frag) (mg : Str → Option Value) (base : Heap) (N : List Str) (qual : Str) (st : Stmt) (k : Nat) (sp : Addr × Obj → Sp) : Prop :=
  ∀ (f : Addr) (cdv : Value) (A : Around) (outer : List Env) (s : Shared) (H : Hp) (vs : List V) (Q : VK) (E : XK) (p : Addr × Obj), Hot1 A p → RoomH k (A.deeper (envOfC qual (defScope st) s.heap.objs.size f cdv)) → sp p vs H Q E →
    ∃ t, PSs (cxH L2.CX0 P w K mg base N qual (defScope st) f cdv A outer s H E p).nox (defBody st) t ∧ t { nx := fun _ H' => Q .non H', rt := Q } (start N vs) H
theorem fnBd {f : Addr} {fd : FuncData} (F : Fun K x qual st f fd) (S : FnScope N ps (defScope st)) (len : ∀ vs H Q E, sp vs H Q E → vs.length = ps.length) (b : Bd P w K mg base N qual st k sp) : FnOk P w K mg base L2.CX0 (k + 1) f fd ps sp := by
  obtain ⟨oc, od, kV, doc, pm, an, cdv, ct, osl, rfl, lk, hcd⟩ := F.ex
  refine fn_of lk hcd S len fun A outer s H vs Q E hr hsp => ?_
  obtain ⟨t, h, q⟩ := b f cdv A outer s H vs Q E hr hsp
  exact ⟨t, h.nox, q⟩
theorem fnBdX {f : Addr} {fd : FuncData} (F : Fun K x qual st f fd) (S : FnScope N ps (defScope st)) (len : ∀ vs H Q E, sp vs H Q E → vs.length = ps.length) (b : BdX P w K mg base N qual st k sp) : FnOk P w K mg base (L2N.CX P w) (k + 1) f fd ps sp := by
  obtain ⟨oc, od, kV, doc, pm, an, cdv, ct, osl, rfl, lk, hcd⟩ := F.ex
  exact fn_of lk hcd S len fun A outer s H vs Q E hr hsp => b f cdv A outer s H vs Q E hr hsp
theorem fnBdH {f : Addr} {fd : FuncData} (F : Fun K x qual st f fd) (S : FnScope N ps (defScope st)) (len : ∀ vs H Q E, sp vs H Q E → vs.length = ps.length) (b : BdH P w K mg base N qual st k sp) : FnH P w K mg base L2.CX0 (k + 1) f fd ps sp := by
  obtain ⟨oc, od, kV, doc, pm, an, cdv, ct, osl, rfl, lk, hcd⟩ := F.ex
  refine fn_ofH lk hcd S len fun A outer s H vs Q E p hot hr hsp => ?_
  obtain ⟨t, h, q⟩ := b f cdv A outer s H vs Q E p hot hr hsp
  exact ⟨t, h.nox, q⟩
theorem fnBdP {sp : Addr × Obj → Sp} {f : Addr} {fd : FuncData} (F : Fun K x qual st f fd) (S : FnScope N ps (defScope st)) (len : ∀ p vs H Q E, sp p vs H Q E → vs.length = ps.length) (b : BdP P w K mg base N qual st k sp) : FnHp P w K mg base L2.CX0 (k + 1) f fd ps sp := by
  obtain ⟨oc, od, kV, doc, pm, an, cdv, ct, osl, rfl, lk, hcd⟩ := F.ex
  refine fn_ofHp lk hcd S len fun A outer s H vs Q E p hot hr hsp => ?_
  obtain ⟨t, h, q⟩ := b f cdv A outer s H vs Q E p hot hr hsp
  exact ⟨t, h.nox, q⟩
theorem Df.cal (D : Df K mg x st ps) (S : FnScope N ps (defScope st)) (len : ∀ vs H Q E, sp vs H Q E → vs.length = ps.length) (b : Bd P w K mg base N x st k sp) : Cal P w K mg base (k + 1) x sp := by
  obtain ⟨f, fd, F, hm, bd⟩ := D.ex
  exact ⟨f, fd, ps, fnBd F S len b, hm, F.kp, bd⟩
theorem Df.calX (D : Df K mg x st ps) (S : FnScope N ps (defScope st)) (len : ∀ vs H Q E, sp vs H Q E → vs.length = ps.length) (b : BdX P w K mg base N x st k sp) : CalX P w K mg base (k + 1) x sp := by
  obtain ⟨f, fd, F, hm, bd⟩ := D.ex
  exact ⟨f, fd, ps, fnBdX F S len b, hm, F.kp, bd⟩
theorem Df.calH (D : Df K mg x st ps) (S : FnScope N ps (defScope st)) (len : ∀ vs H Q E, sp vs H Q E → vs.length = ps.length) (b : BdH P w K mg base N x st k sp) : CalH P w K mg base (k + 1) x sp := by
  obtain ⟨f, fd, F, hm, bd⟩ := D.ex
  exact ⟨f, fd, ps, fnBdH F S len b, hm, F.kp, bd⟩
theorem Df.calP {sp : Addr × Obj → Sp} (D : Df K mg x st ps) (S : FnScope N ps (defScope st)) (len : ∀ p vs H Q E, sp p vs H Q E → vs.length = ps.length) (b : BdP P w K mg base N x st k sp) : CalP P w K mg base (k + 1) x sp := by
  obtain ⟨f, fd, F, hm, bd⟩ := D.ex
  exact ⟨f, fd, ps, fnBdP F S len b, hm, F.kp, bd⟩
theorem Dm.met (D : Dm K C m qual st ps) (S : FnScope N ps (defScope st)) (len : ∀ vs H Q E, sp vs H Q E → vs.length = ps.length) (b : Bd P w K mg base N qual st k sp) : Met P w K mg base (k + 1) C m sp := by
  obtain ⟨f, fd, F, c, hm, bd⟩ := D.ex
  exact ⟨f, fd, ps, fnBd F S len b, c, hm, bd⟩
theorem Dm.metX (D : Dm K C m qual st ps) (S : FnScope N ps (defScope st)) (len : ∀ vs H Q E, sp vs H Q E → vs.length = ps.length) (b : BdX P w K mg base N qual st k sp) : MetX P w K mg base (k + 1) C m sp := by
  obtain ⟨f, fd, F, c, hm, bd⟩ := D.ex
  exact ⟨f, fd, ps, fnBdX F S len b, c, hm, bd⟩
theorem Di.mak (D : Di K mg x C qual st ps) (S : FnScope N ps (defScope st)) (len : ∀ vs H Q E, sp vs H Q E → vs.length = ps.length) (b : Bd P w K mg base N qual st k sp) : Mak P w K mg base (k + 1) x C sp := by
  obtain ⟨f, fd, F, mk, hm, bd⟩ := D.ex
  exact ⟨f, fd, ps, fnBd F S len b, mk, hm, bd⟩
theorem Di.makH (D : Di K mg x C qual st ps) (S : FnScope N ps (defScope st)) (len : ∀ vs H Q E, sp vs H Q E → vs.length = ps.length) (b : BdH P w K mg base N qual st k sp) : MakH P w K mg base (k + 1) x C sp := by
  obtain ⟨f, fd, F, mk, hm, bd⟩ := D.ex
  exact ⟨f, fd, ps, fnBdH F S len b, mk, hm, bd⟩
end

/-! ### calls -/
def tCl (sp : Sp) (E : XK) (t : TA) : TE := fun σ H Q => t σ H fun vs H1 => sp vs H1 Q E
def tClS (sp : Sp) (E : St → XK) (t : TA) : TE := fun σ H Q => t σ H fun vs H1 => sp vs H1 Q (E σ)
def tMt (C : Addr) (m : Str) (sp : Sp) (E : XK) (ta : TE) (t : TA) : TE := fun σ H Q => ta σ H fun x H1 => ∃ a dx fs, x = .ref a ∧ H1 a = some (.ins C dx fs) ∧ fs.lookup m = none ∧ t σ H1 fun vs H2 => sp (x :: vs) H2 Q E
def tMtS (C : Addr) (m : Str) (sp : Sp) (E : St → XK) (ta : TE) (t : TA) : TE := fun σ H Q => ta σ H fun x H1 => ∃ a dx fs, x = .ref a ∧ H1 a = some (.ins C dx fs) ∧ fs.lookup m = none ∧ t σ H1 fun vs H2 => sp (x :: vs) H2 Q (E σ)
def tMk (C : Addr) (sp : Sp) (t : TA) : TE := fun σ H Q => t σ H fun vs H1 => ∀ x dx, H1 x = none → H1 dx = none → dx ≠ x → sp (.ref x :: vs) (upd (upd H1 dx (.own x)) x (.ins C dx [])) (fun v H2 => v = .non ∧ Q (.ref x) H2) E0
theorem pe_to {X : Cx} {e : Expr} {t t' : TE} (h : PE X e t) (i : ∀ σ H Q, t' σ H Q → t σ H Q) : PE X e t' := ⟨fun pins s σ H Q I q => h.run pins s σ H Q I (i _ _ _ q)⟩
section
variable {X : Cx} {k j : Nat} {C : Addr} {x m : Str} {sp : Sp} {p pos apos : Pos} {e o : Expr} {es : List Expr} {ta : TE} {t : TA}
theorem run_cl {CX : CXT} {f : Addr} {fd : FuncData} {ps : List Str} {E : St → XK} {pins : List (Addr × Obj)} {σ : St} {H : Hp} {s : Shared} {Q : VK} {us : List Value} {vs : List V} (F : FnOk X.prog X.w X.K X.mg X.base CX k f fd ps sp) (hr : Room k X.A) (hb : Binds X.K fd ps []) (hx : ∀ σ, PassesAt CX X σ (E σ))
    (I : Inv X pins σ H s) (r : Vals vs us) (h : sp vs H Q (E σ)) : wpAny (model X.prog X.w) X.A (call (.ref f) us) (EP X pins σ Q) X.xe s := run_fnS F hr hb (hx σ) I r h
theorem pe_clS {CX : CXT} {f : Addr} {fd : FuncData} {ps : List Str} {E : St → XK} (F : FnOk X.prog X.w X.K X.mg X.base CX k f fd ps sp) (hr : Room k X.A) (hg : Gl X x) (hm : X.mg x = some (.ref f)) (hk : PySem.W.keepIn X.K (.ref f) = true) (hb : Binds X.K fd ps []) (hx : ∀ σ, PassesAt CX X σ (E σ))
    (ha : PA X (e :: es) t) (hdb : (x == ("__debug__" : Str)) = false := by decide) (he : starEach (e :: es) X.env = (false, eval e X.env) :: starEach es X.env := by rfl) (hpl : (backTo pos (starEach es X.env)).any (·.1) = false := by rfl) :
    PE X (.Call (.Name x p) (e :: es) [] pos) (tClS sp E t) := by
  refine ⟨fun pins s σ H Q I h => ?_⟩
  refine wpAny_Call_Name_kw (ld_glob I hg hm ?_ hdb)
  exact PySem.W.callWith_K (h₀ := X.base) I.ok.mod.kin hk (thn (ha.run pos pins s σ H _ I h) fun us s1 ⟨vs, H1, I1, r, q⟩ => ⟨I1.kIn, run_fnS F hr hb (hx σ) I1 r q⟩) he hpl
theorem pe_mtS {CX : CXT} {f : Addr} {fd : FuncData} {ps : List Str} {E : St → XK} {pl : Sem Bool} (he : PE X o ta) (c : Cls X.K C) (hm : Meth X.K C m f) (F : FnOk X.prog X.w X.K X.mg X.base CX k f fd ps sp) (hr : Room k X.A) (hb : Binds X.K fd ps []) (hx : ∀ σ, PassesAt CX X σ (E σ)) (ha : PA X (e :: es) t)
    (hst : starEach (e :: es) X.env = (false, eval e X.env) :: starEach es X.env := by rfl) (hpl : (backTo pos (starEach es X.env)).any (·.1) = false := by rfl)
    (ht : eval (.Call (.Attribute o m apos) (e :: es) [] pos) X.env = (do
      let ov ← eval o X.env
      standAt apos.atName
      let (f, first) ← holding [ov] (getMethod ov m pl)
      callWith pos f first (backTo pos (starEach (e :: es) X.env)) (backToKw pos (keywordEach [] X.env))) := by rfl) :
    PE X (.Call (.Attribute o m apos) (e :: es) [] pos) (tMtS C m sp E ta t) := by
  refine ⟨fun pins s σ H Q I h => ?_⟩
  refine PySem.W.methodCall_KW (pl := pl) (thn (he.run pins s σ H _ I h) fun u s1 ⟨x, H1, I1, rx, a, dx, fs, ex, ea, l, q⟩ => ?_) ht
  subst ex
  obtain rfl : u = Value.ref a := rx
  refine getmeth_ok I1 ea c hm l ?_
  exact PySem.W.callWith_K (first := [.ref a]) (h₀ := X.base) I.ok.mod.kin hm.kp (thn (ha.run pos pins s1 σ H1 _ I1 q) fun us s2 ⟨vs, H2, I2, r, q2⟩ => ⟨I2.kIn, run_fnS (us := .ref a :: us) (vs := .ref a :: vs) F hr hb (hx σ) I2 (.cons rfl r) q2⟩) hst hpl
theorem pe_mtS0 {CX : CXT} {f : Addr} {fd : FuncData} {ps : List Str} {E : St → XK} {pl : Sem Bool} (he : PE X o ta) (c : Cls X.K C) (hm : Meth X.K C m f) (F : FnOk X.prog X.w X.K X.mg X.base CX k f fd ps sp) (hr : Room k X.A) (hb : Binds X.K fd ps []) (hx : ∀ σ, PassesAt CX X σ (E σ))
    (ht : eval (.Call (.Attribute o m apos) [] [] pos) X.env = (do
      let ov ← eval o X.env
      standAt apos.atName
      let (f, first) ← holding [ov] (getMethod ov m pl)
      callWith pos f first (backTo pos (starEach [] X.env)) (backToKw pos (keywordEach [] X.env))) := by rfl) :
    PE X (.Call (.Attribute o m apos) [] [] pos) (tMtS C m sp E ta tNil) := by
  refine ⟨fun pins s σ H Q I h => ?_⟩
  refine PySem.W.methodCall_KW (pl := pl) (thn (he.run pins s σ H _ I h) fun u s1 ⟨x, H1, I1, rx, a, dx, fs, ex, ea, l, q⟩ => ?_) ht
  subst ex
  obtain rfl : u = Value.ref a := rx
  refine getmeth_ok I1 ea c hm l ?_
  exact PySem.W.callWith_K0 (first := [.ref a]) I1.kIn hm.kp (run_fnS (us := [.ref a]) (vs := [.ref a]) F hr hb (hx σ) I1 (.cons rfl .nil) q)
theorem pass0S {X : Cx} (σ : St) : PassesAt L2.CX0 X σ E0 := fun _ _ _ _ _ _ h => h.elim
theorem pass0E {X : Cx} {E : XK} (σ : St) : PassesAt L2.CX0 X σ E := fun _ _ _ _ _ _ h => h.elim

/-- a def that lets nothing out, called -/
theorem pe_c (c : Cal X.prog X.w X.K X.mg X.base k x sp) (hr : Room j X.A) (hk : k ≤ j) (hg : Gl X x) (ha : PA X (e :: es) t)
    (hdb : (x == ("__debug__" : Str)) = false := by decide) (he : starEach (e :: es) X.env = (false, eval e X.env) :: starEach es X.env := by rfl) (hpl : (backTo pos (starEach es X.env)).any (·.1) = false := by rfl) :
    PE X (.Call (.Name x p) (e :: es) [] pos) (tCl sp E0 t) := by
  obtain ⟨f, fd, ps, F, hm, kp, b⟩ := c.ex
  exact pe_clS (E := fun _ => E0) F (hr.mono hk) hg hm kp b pass0S ha hdb he hpl
/-- one that may raise, called in a def that hands the error on -/
theorem pe_cX {W : WX} {E : XK} (c : CalX X.prog X.w X.K X.mg X.base k x sp) (hr : Room j X.A) (hk : k ≤ j) (hg : Gl X x) (tk : L2N.Takes X W) (hW : ∀ cls d σ H, E cls d H → W cls d σ H) (ha : PA X (e :: es) t)
    (hdb : (x == ("__debug__" : Str)) = false := by decide) (he : starEach (e :: es) X.env = (false, eval e X.env) :: starEach es X.env := by rfl) (hpl : (backTo pos (starEach es X.env)).any (·.1) = false := by rfl) :
    PE X (.Call (.Name x p) (e :: es) [] pos) (tCl sp E t) := by
  obtain ⟨f, fd, ps, F, hm, kp, b⟩ := c.ex
  exact pe_clS (E := fun _ => E) F (hr.mono hk) hg hm kp b (fun σ pins H s e s' I h => L2N.passes_call tk hW pins σ H s e s' I h) ha hdb he hpl
/-- .. within a try -/
theorem pe_cT {W : WX} (c : CalX X.prog X.w X.K X.mg X.base k x sp) (hr : Room j X.A) (hk : k ≤ j) (hg : Gl X x) (tk : L2N.Takes X W) (ha : PA X (e :: es) t)
    (hdb : (x == ("__debug__" : Str)) = false := by decide) (he : starEach (e :: es) X.env = (false, eval e X.env) :: starEach es X.env := by rfl) (hpl : (backTo pos (starEach es X.env)).any (·.1) = false := by rfl) :
    PE X (.Call (.Name x p) (e :: es) [] pos) (tClS sp (WE W) t) := by
  obtain ⟨f, fd, ps, F, hm, kp, b⟩ := c.ex
  exact pe_clS F (hr.mono hk) hg hm kp b (fun σ => L2N.passAt tk σ) ha hdb he hpl
theorem pe_cH (c : CalH X.prog X.w X.K X.mg X.base k x sp) (hr : RoomH j X.A) (hk : k ≤ j) (hc : HotC X) (hg : Gl X x) (ha : PA X (e :: es) t)
    (hdb : (x == ("__debug__" : Str)) = false := by decide) (he : starEach (e :: es) X.env = (false, eval e X.env) :: starEach es X.env := by rfl) (hpl : (backTo pos (starEach es X.env)).any (·.1) = false := by rfl) :
    PE X (.Call (.Name x p) (e :: es) [] pos) (tCl sp E0 t) := by
  obtain ⟨f, fd, ps, F, hm, kp, b⟩ := c.ex
  exact pe_callH (E := fun _ => E0) F (hr.mono hk) hc hg hm kp b pass0S ha hdb he hpl
theorem pe_cP {sp : Addr × Obj → Sp} {q : Addr × Obj} (c : CalP X.prog X.w X.K X.mg X.base k x sp) (hr : RoomH j X.A) (hk : k ≤ j) (hot : Hot1 X.A q) (hq : q ∈ X.pn) (hg : Gl X x) (ha : PA X (e :: es) t)
    (hdb : (x == ("__debug__" : Str)) = false := by decide) (he : starEach (e :: es) X.env = (false, eval e X.env) :: starEach es X.env := by rfl) (hpl : (backTo pos (starEach es X.env)).any (·.1) = false := by rfl) :
    PE X (.Call (.Name x p) (e :: es) [] pos) (tCl (sp q) E0 t) := by
  obtain ⟨f, fd, ps, F, hm, kp, b⟩ := c.ex
  exact pe_callHp (E := fun _ => E0) F (hr.mono hk) hot hq hg hm kp b pass0S ha hdb he hpl
theorem pe_m {pl : Sem Bool} (c : Met X.prog X.w X.K X.mg X.base k C m sp) (hr : Room j X.A) (hk : k ≤ j) (he : PE X o ta) (ha : PA X (e :: es) t)
    (hst : starEach (e :: es) X.env = (false, eval e X.env) :: starEach es X.env := by rfl) (hpl : (backTo pos (starEach es X.env)).any (·.1) = false := by rfl)
    (ht : eval (.Call (.Attribute o m apos) (e :: es) [] pos) X.env = (do
      let ov ← eval o X.env
      standAt apos.atName
      let (f, first) ← holding [ov] (getMethod ov m pl)
      callWith pos f first (backTo pos (starEach (e :: es) X.env)) (backToKw pos (keywordEach [] X.env))) := by rfl) :
    PE X (.Call (.Attribute o m apos) (e :: es) [] pos) (tMt C m sp E0 ta t) := by
  obtain ⟨f, fd, ps, F, cl, hm, b⟩ := c.ex
  exact pe_mtS (E := fun _ => E0) (pl := pl) he cl hm F (hr.mono hk) b pass0S ha hst hpl ht
theorem pe_m0 {pl : Sem Bool} (c : Met X.prog X.w X.K X.mg X.base k C m sp) (hr : Room j X.A) (hk : k ≤ j) (he : PE X o ta)
    (ht : eval (.Call (.Attribute o m apos) [] [] pos) X.env = (do
      let ov ← eval o X.env
      standAt apos.atName
      let (f, first) ← holding [ov] (getMethod ov m pl)
      callWith pos f first (backTo pos (starEach [] X.env)) (backToKw pos (keywordEach [] X.env))) := by rfl) :
    PE X (.Call (.Attribute o m apos) [] [] pos) (tMt C m sp E0 ta tNil) := by
  obtain ⟨f, fd, ps, F, cl, hm, b⟩ := c.ex
  exact pe_mtS0 (E := fun _ => E0) (pl := pl) he cl hm F (hr.mono hk) b pass0S ht
theorem pe_mX {pl : Sem Bool} {W : WX} {E : XK} (c : MetX X.prog X.w X.K X.mg X.base k C m sp) (hr : Room j X.A) (hk : k ≤ j) (tk : L2N.Takes X W) (hW : ∀ cls d σ H, E cls d H → W cls d σ H) (he : PE X o ta) (ha : PA X (e :: es) t)
    (hst : starEach (e :: es) X.env = (false, eval e X.env) :: starEach es X.env := by rfl) (hpl : (backTo pos (starEach es X.env)).any (·.1) = false := by rfl)
    (ht : eval (.Call (.Attribute o m apos) (e :: es) [] pos) X.env = (do
      let ov ← eval o X.env
      standAt apos.atName
      let (f, first) ← holding [ov] (getMethod ov m pl)
      callWith pos f first (backTo pos (starEach (e :: es) X.env)) (backToKw pos (keywordEach [] X.env))) := by rfl) :
    PE X (.Call (.Attribute o m apos) (e :: es) [] pos) (tMt C m sp E ta t) := by
  obtain ⟨f, fd, ps, F, cl, hm, b⟩ := c.ex
  exact pe_mtS (E := fun _ => E) (pl := pl) he cl hm F (hr.mono hk) b (fun σ pins H s e s' I h => L2N.passes_call tk hW pins σ H s e s' I h) ha hst hpl ht
theorem pe_mT {pl : Sem Bool} {W : WX} (c : MetX X.prog X.w X.K X.mg X.base k C m sp) (hr : Room j X.A) (hk : k ≤ j) (tk : L2N.Takes X W) (he : PE X o ta) (ha : PA X (e :: es) t)
    (hst : starEach (e :: es) X.env = (false, eval e X.env) :: starEach es X.env := by rfl) (hpl : (backTo pos (starEach es X.env)).any (·.1) = false := by rfl)
    (ht : eval (.Call (.Attribute o m apos) (e :: es) [] pos) X.env = (do
      let ov ← eval o X.env
      standAt apos.atName
      let (f, first) ← holding [ov] (getMethod ov m pl)
      callWith pos f first (backTo pos (starEach (e :: es) X.env)) (backToKw pos (keywordEach [] X.env))) := by rfl) :
    PE X (.Call (.Attribute o m apos) (e :: es) [] pos) (tMtS C m sp (WE W) ta t) := by
  obtain ⟨f, fd, ps, F, cl, hm, b⟩ := c.ex
  exact pe_mtS (pl := pl) he cl hm F (hr.mono hk) b (fun σ => L2N.passAt tk σ) ha hst hpl ht
theorem pe_k (c : Mak X.prog X.w X.K X.mg X.base k x C sp) (hr : Room j X.A) (hk : k + 1 ≤ j) (hg : Gl X x) (ha : PA X (e :: es) t)
    (hdb : (x == ("__debug__" : Str)) = false := by decide) (he : starEach (e :: es) X.env = (false, eval e X.env) :: starEach es X.env := by rfl) (hpl : (backTo pos (starEach es X.env)).any (·.1) = false := by rfl) :
    PE X (.Call (.Name x p) (e :: es) [] pos) (tMk C sp t) := by
  obtain ⟨f, fd, ps, F, M, hm, b⟩ := c.ex
  refine ⟨fun pins s σ H Q I h => ?_⟩
  refine wpAny_Call_Name_kw (ld_glob I hg hm ?_ hdb)
  refine PySem.W.callWith_K (h₀ := X.base) I.ok.mod.kin M.kp (thn (ha.run pos pins s σ H _ I h) fun us s1 ⟨vs, H1, I1, r, q⟩ => ⟨I1.kIn, run_make M F (hr.mono hk) b .nil pass0 I1 r fun y dx h1 h2 h3 => ?_⟩) he hpl
  rw [List.append_nil]
  exact q y dx h1 h2 h3
theorem pe_k0 (c : Mak X.prog X.w X.K X.mg X.base k x C sp) (hr : Room j X.A) (hk : k + 1 ≤ j) (hg : Gl X x) (hdb : (x == ("__debug__" : Str)) = false := by decide) :
    PE X (.Call (.Name x p) [] [] pos) (tMk C sp tNil) := by
  obtain ⟨f, fd, ps, F, M, hm, b⟩ := c.ex
  exact pe_make0 M F (hr.mono hk) hg hm b .nil pass0 hdb
theorem pe_kH (c : MakH X.prog X.w X.K X.mg X.base k x C sp) (hr : RoomH j X.A) (hk : k + 1 ≤ j) (hc : HotC X) (hg : Gl X x) (ha : PA X (e :: es) t)
    (hdb : (x == ("__debug__" : Str)) = false := by decide) (he : starEach (e :: es) X.env = (false, eval e X.env) :: starEach es X.env := by rfl) (hpl : (backTo pos (starEach es X.env)).any (·.1) = false := by rfl) :
    PE X (.Call (.Name x p) (e :: es) [] pos) (tMk C sp t) := by
  obtain ⟨f, fd, ps, F, M, hm, b⟩ := c.ex
  refine pe_to (pe_makeH (E := E0) M F (hr.mono hk) hc hg hm b pass0 ha hdb he hpl : PE X (.Call (.Name x p) (e :: es) [] pos) (tMake C sp [] E0 t)) fun σ H Q h => ?_
  show t σ H fun vs H1 => ∀ x dx, H1 x = none → H1 dx = none → dx ≠ x → sp (.ref x :: (vs ++ [])) _ _ _
  have e : (fun (vs : List V) (H1 : Hp) => ∀ x dx, H1 x = none → H1 dx = none → dx ≠ x → sp (.ref x :: (vs ++ [])) (upd (upd H1 dx (.own x)) x (.ins C dx [])) (fun v H2 => v = .non ∧ Q (.ref x) H2) E0) = fun vs H1 => ∀ x dx, H1 x = none → H1 dx = none → dx ≠ x → sp (.ref x :: vs) (upd (upd H1 dx (.own x)) x (.ins C dx [])) (fun v H2 => v = .non ∧ Q (.ref x) H2) E0 := by
    funext vs H1
    rw [List.append_nil]
  rw [e]
  exact h
end

/-! ### what is kept -/
/-- all that is tracked stands, but for F; tuples and what is locked always -/
structure Keep (F : Addr → Prop) (H H' : Hp) : Prop where
  all : ∀ b o, H b = some o → ¬ F b → H' b = some o
  tup : ∀ b xs, H b = some (.tup xs) → H' b = some (.tup xs)
  frz : ∀ b o u, H b = some (.frz o u) → H' b = some (.frz o u)
abbrev Kp : Hp → Hp → Prop := Keep fun _ => False
section
variable {F G : Addr → Prop} {H H1 H2 : Hp} {a : Addr} {o : HO} {K : PySem.W.Frag} {xs : List V}
theorem Keep.refl : Keep F H H := ⟨fun _ _ e _ => e, fun _ _ e => e, fun _ _ _ e => e⟩
theorem Keep.trans (a : Keep F H H1) (b : Keep F H1 H2) : Keep F H H2 := ⟨fun c o e n => b.all c o (a.all c o e n) n, fun c xs e => b.tup c xs (a.tup c xs e), fun c o u e => b.frz c o u (a.frz c o u e)⟩
theorem Keep.mono (a : Keep F H H1) (h : ∀ b o, H b = some o → F b → G b) : Keep G H H1 := ⟨fun c o e n => a.all c o e fun f => n (h c o e f), a.tup, a.frz⟩
theorem Keep.new (e : H a = none) : Keep F H (upd H a o) := ⟨fun b u q _ => by rw [upd_ne (ne_of_none q e)]; exact q, fun b u q => by rw [upd_ne (ne_of_none q e)]; exact q, fun b u v q => by rw [upd_ne (ne_of_none q e)]; exact q⟩
theorem Keep.snoc (k : Keep F H H1) (e : H1 a = none) : Keep F H (upd H1 a o) := k.trans (Keep.new e)
/-- an object within F is changed -/
theorem Keep.put {u : HO} (f : F a) (e : H a = some u) (h1 : ∀ xs, u ≠ .tup xs) (h2 : ∀ ob v, u ≠ .frz ob v) : Keep F H (upd H a o) := by
  refine ⟨fun b v q n => ?_, fun b v q => ?_, fun b v z q => ?_⟩
  · rw [upd_ne (fun x : b = a => n (x ▸ f))]; exact q
  · rw [upd_ne (ne_of q e (fun z => h1 _ z.symm))]; exact q
  · rw [upd_ne (ne_of q e (fun z => h2 _ _ z.symm))]; exact q
/-- an object made since is changed -/
theorem Keep.mut {u : HO} (k : Keep F H H1) (f : H a = none) (e : H1 a = some u) (h1 : ∀ xs, u ≠ .tup xs) (h2 : ∀ ob v, u ≠ .frz ob v) : Keep F H (upd H1 a o) := by
  refine ⟨fun b v q n => ?_, fun b v q => ?_, fun b v z q => ?_⟩
  · rw [upd_ne (ne_of_none q f)]; exact k.all b v q n
  · rw [upd_ne (ne_of_none q f)]; exact k.tup b v q
  · rw [upd_ne (ne_of_none q f)]; exact k.frz b v z q
theorem Keep.free (k : Keep F H H1) (e : H1 a = none) (hf : ¬ F a) : H a = none := by
  cases q : H a with
  | none => rfl
  | some o =>
    rw [k.all a o q hf] at e
    cases e
theorem Kp.free (k : Kp H H1) (e : H1 a = none) : H a = none := Keep.free k e fun f => f
theorem Kp.at (k : Kp H H1) {b : Addr} {o : HO} (e : H b = some o) : H1 b = some o := k.all b o e fun f => f
theorem Kp.to (k : Kp H H1) : Keep F H H1 := ⟨fun b o e _ => k.at e, k.tup, k.frz⟩
theorem Keep.sqT (k : Keep F H H1) (h : SqT K H a xs) : SqT K H1 a xs := by
  rcases h with (h | ⟨o, h⟩) | h
  · exact .inl (.inl (k.tup _ _ h))
  · exact .inl (.inr ⟨o, k.frz _ _ _ h⟩)
  · exact .inr h
theorem Keep.sqL (k : Keep F H H1) (n : ¬ F a) (h : SqL K H a xs) : SqL K H1 a xs := by
  rcases h with (h | ⟨o, h⟩) | h
  · exact .inl (.inl (k.all _ _ h n))
  · exact .inl (.inr ⟨o, k.frz _ _ _ h⟩)
  · exact .inr h
theorem Kp.sqL (k : Kp H H1) (h : SqL K H a xs) : SqL K H1 a xs := Keep.sqL k (fun f => f) h
end
end Fs

/-! The defs of the text, their slots. Printed by gen.py. -/
namespace Fs
open PySem PySem.Spec PyProof.Rows L2 L2H
def top (i : Nat) : Stmt := PySem.Challenge.pw_flakysearches_s01_answers.main.body.getD i (.Pass ⟨0, 0, 0, 0⟩)
abbrev s_first_left : Stmt := top 1
abbrev N_first_left : List Str := ["versions", "bad", "good", "version"]
theorem sc_first_left : FnScope N_first_left ["versions", "bad", "good"] (defScope s_first_left) := ⟨rfl, rfl, rfl, by decide +kernel, rfl, by decide +kernel, by decide +kernel⟩

abbrev s_left_by : Stmt := top 2
abbrev N_left_by : List Str := ["left", "tested", "is_bad", "found", "version", "bad", "good"]
theorem sc_left_by : FnScope N_left_by ["left", "tested", "is_bad"] (defScope s_left_by) := ⟨rfl, rfl, rfl, by decide +kernel, rfl, by decide +kernel, by decide +kernel⟩

abbrev s_left_behind : Stmt := top 3
abbrev N_left_behind : List Str := ["left", "answers", "tested", "is_bad"]
theorem sc_left_behind : FnScope N_left_behind ["left", "answers"] (defScope s_left_behind) := ⟨rfl, rfl, rfl, by decide +kernel, rfl, by decide +kernel, by decide +kernel⟩

abbrev s_Planner_new : Stmt := inClass (top 4) 0
abbrev N_Planner_new : List Str := ["self"]
theorem sc_Planner_new : FnScope N_Planner_new ["self"] (defScope s_Planner_new) := ⟨rfl, rfl, rfl, by decide +kernel, rfl, by decide +kernel, by decide +kernel⟩

abbrev s_Planner_fewest : Stmt := inClass (top 4) 1
abbrev N_Planner_fewest : List Str := ["self", "left", "name", "version", "bad", "good", "one"]
theorem sc_Planner_fewest : FnScope N_Planner_fewest ["self", "left"] (defScope s_Planner_fewest) := ⟨rfl, rfl, rfl, by decide +kernel, rfl, by decide +kernel, by decide +kernel⟩

abbrev s_Planner_worse : Stmt := inClass (top 4) 2
abbrev N_Planner_worse : List Str := ["self", "left", "tested", "first"]
theorem sc_Planner_worse : FnScope N_Planner_worse ["self", "left", "tested"] (defScope s_Planner_worse) := ⟨rfl, rfl, rfl, by decide +kernel, rfl, by decide +kernel, by decide +kernel⟩

abbrev s_Planner_best_test : Stmt := inClass (top 4) 3
abbrev N_Planner_best_test : List Str := ["self", "left", "most", "one"]
theorem sc_Planner_best_test : FnScope N_Planner_best_test ["self", "left"] (defScope s_Planner_best_test) := ⟨rfl, rfl, rfl, by decide +kernel, rfl, by decide +kernel, by decide +kernel⟩

abbrev s_Planner_best_plan : Stmt := inClass (top 4) 4
abbrev N_Planner_best_plan : List Str := ["self", "left", "tested", "first"]
theorem sc_Planner_best_plan : FnScope N_Planner_best_plan ["self", "left"] (defScope s_Planner_best_plan) := ⟨rfl, rfl, rfl, by decide +kernel, rfl, by decide +kernel, by decide +kernel⟩

abbrev s_counterexample : Stmt := top 5
abbrev N_counterexample : List Str := ["left", "plan", "answers", "others", "is_bad", "rest", "found", "one"]
theorem sc_counterexample : FnScope N_counterexample ["left", "plan", "answers"] (defScope s_counterexample) := ⟨rfl, rfl, rfl, by decide +kernel, rfl, by decide +kernel, by decide +kernel⟩

abbrev s_are_wrong : Stmt := top 6
abbrev N_are_wrong : List Str := ["version", "answers", "at", "tested", "is_bad"]
theorem sc_are_wrong : FnScope N_are_wrong ["version", "answers"] (defScope s_are_wrong) := ⟨rfl, rfl, rfl, by decide +kernel, rfl, by decide +kernel, by decide +kernel⟩

abbrev s_weight_of : Stmt := top 7
abbrev N_weight_of : List Str := ["tests", "bad", "good", "known", "name", "first", "second"]
theorem sc_weight_of : FnScope N_weight_of ["tests", "bad", "good", "known"] (defScope s_weight_of) := ⟨rfl, rfl, rfl, by decide +kernel, rfl, by decide +kernel, by decide +kernel⟩

abbrev s_least_by_weight : Stmt := top 8
abbrev N_least_by_weight : List Str := ["versions", "bad", "good", "tests", "known"]
theorem sc_least_by_weight : FnScope N_least_by_weight ["versions", "bad", "good"] (defScope s_least_by_weight) := ⟨rfl, rfl, rfl, by decide +kernel, rfl, by decide +kernel, by decide +kernel⟩

abbrev s_Refused_new : Stmt := inClass (top 14) 0
abbrev N_Refused_new : List Str := ["self", "kind", "message"]
theorem sc_Refused_new : FnScope N_Refused_new ["self", "kind", "message"] (defScope s_Refused_new) := ⟨rfl, rfl, rfl, by decide +kernel, rfl, by decide +kernel, by decide +kernel⟩

abbrev s_need_kind : Stmt := top 15
abbrev N_need_kind : List Str := ["test", "message"]
theorem sc_need_kind : FnScope N_need_kind ["test", "message"] (defScope s_need_kind) := ⟨rfl, rfl, rfl, by decide +kernel, rfl, by decide +kernel, by decide +kernel⟩

abbrev s_need_range : Stmt := top 16
abbrev N_need_range : List Str := ["test", "message"]
theorem sc_need_range : FnScope N_need_range ["test", "message"] (defScope s_need_range) := ⟨rfl, rfl, rfl, by decide +kernel, rfl, by decide +kernel, by decide +kernel⟩

abbrev s_octets_of : Stmt := top 17
abbrev N_octets_of : List Str := ["letters", "letter"]
theorem sc_octets_of : FnScope N_octets_of ["letters"] (defScope s_octets_of) := ⟨rfl, rfl, rfl, by decide +kernel, rfl, by decide +kernel, by decide +kernel⟩

abbrev s_text : Stmt := top 18
abbrev N_text : List Str := ["letters"]
theorem sc_text : FnScope N_text ["letters"] (defScope s_text) := ⟨rfl, rfl, rfl, by decide +kernel, rfl, by decide +kernel, by decide +kernel⟩

abbrev s_integer : Stmt := top 19
abbrev N_integer : List Str := ["number"]
theorem sc_integer : FnScope N_integer ["number"] (defScope s_integer) := ⟨rfl, rfl, rfl, by decide +kernel, rfl, by decide +kernel, by decide +kernel⟩

abbrev s_boolean : Stmt := top 20
abbrev N_boolean : List Str := ["truth"]
theorem sc_boolean : FnScope N_boolean ["truth"] (defScope s_boolean) := ⟨rfl, rfl, rfl, by decide +kernel, rfl, by decide +kernel, by decide +kernel⟩

abbrev s_row : Stmt := top 21
abbrev N_row : List Str := ["values"]
theorem sc_row : FnScope N_row ["values"] (defScope s_row) := ⟨rfl, rfl, rfl, by decide +kernel, rfl, by decide +kernel, by decide +kernel⟩

abbrev s_record : Stmt := top 22
abbrev N_record : List Str := ["pairs", "name", "value"]
theorem sc_record : FnScope N_record ["pairs"] (defScope s_record) := ⟨rfl, rfl, rfl, by decide +kernel, rfl, by decide +kernel, by decide +kernel⟩

abbrev s_Request_new : Stmt := inClass (top 23) 0
abbrev N_Request_new : List Str := ["self", "octets"]
theorem sc_Request_new : FnScope N_Request_new ["self", "octets"] (defScope s_Request_new) := ⟨rfl, rfl, rfl, by decide +kernel, rfl, by decide +kernel, by decide +kernel⟩

abbrev s_Request_take : Stmt := inClass (top 23) 1
abbrev N_Request_take : List Str := ["self", "many", "found"]
theorem sc_Request_take : FnScope N_Request_take ["self", "many"] (defScope s_Request_take) := ⟨rfl, rfl, rfl, by decide +kernel, rfl, by decide +kernel, by decide +kernel⟩

abbrev s_Request_give_number : Stmt := inClass (top 23) 2
abbrev N_Request_give_number : List Str := ["self", "many", "found", "octet"]
theorem sc_Request_give_number : FnScope N_Request_give_number ["self", "many"] (defScope s_Request_give_number) := ⟨rfl, rfl, rfl, by decide +kernel, rfl, by decide +kernel, by decide +kernel⟩

abbrev s_Request_value : Stmt := inClass (top 23) 3
abbrev N_Request_value : List Str := ["self", "kind", "number", "many", "turn", "pairs", "name"]
theorem sc_Request_value : FnScope N_Request_value ["self"] (defScope s_Request_value) := ⟨rfl, rfl, rfl, by decide +kernel, rfl, by decide +kernel, by decide +kernel⟩

abbrev s_Request_arguments : Stmt := inClass (top 23) 4
abbrev N_Request_arguments : List Str := ["self", "most", "many", "found", "turn"]
theorem sc_Request_arguments : FnScope N_Request_arguments ["self", "most"] (defScope s_Request_arguments) := ⟨rfl, rfl, rfl, by decide +kernel, rfl, by decide +kernel, by decide +kernel⟩

abbrev s_number_octets : Stmt := top 24
abbrev N_number_octets : List Str := ["number", "many", "found", "turn"]
theorem sc_number_octets : FnScope N_number_octets ["number", "many"] (defScope s_number_octets) := ⟨rfl, rfl, rfl, by decide +kernel, rfl, by decide +kernel, by decide +kernel⟩

abbrev s_value_octets : Stmt := top 25
abbrev N_value_octets : List Str := ["value", "kind", "found", "one", "name"]
theorem sc_value_octets : FnScope N_value_octets ["value"] (defScope s_value_octets) := ⟨rfl, rfl, rfl, by decide +kernel, rfl, by decide +kernel, by decide +kernel⟩

abbrev s_refusal_octets : Stmt := top 26
abbrev N_refusal_octets : List Str := ["kind", "message", "octets"]
theorem sc_refusal_octets : FnScope N_refusal_octets ["kind", "message"] (defScope s_refusal_octets) := ⟨rfl, rfl, rfl, by decide +kernel, rfl, by decide +kernel, by decide +kernel⟩

abbrev s_number_in : Stmt := top 27
abbrev N_number_in : List Str := ["value", "low", "high"]
theorem sc_number_in : FnScope N_number_in ["value", "low", "high"] (defScope s_number_in) := ⟨rfl, rfl, rfl, by decide +kernel, rfl, by decide +kernel, by decide +kernel⟩

abbrev s_setting_of : Stmt := top 32
abbrev N_setting_of : List Str := ["given"]
theorem sc_setting_of : FnScope N_setting_of ["given"] (defScope s_setting_of) := ⟨rfl, rfl, rfl, by decide +kernel, rfl, by decide +kernel, by decide +kernel⟩

abbrev s_is_answer : Stmt := top 33
abbrev N_is_answer : List Str := ["value", "versions"]
theorem sc_is_answer : FnScope N_is_answer ["value", "versions"] (defScope s_is_answer) := ⟨rfl, rfl, rfl, by decide +kernel, rfl, by decide +kernel, by decide +kernel⟩

abbrev s_answers_of : Stmt := top 34
abbrev N_answers_of : List Str := ["value", "versions", "good", "one"]
theorem sc_answers_of : FnScope N_answers_of ["value", "versions"] (defScope s_answers_of) := ⟨rfl, rfl, rfl, by decide +kernel, rfl, by decide +kernel, by decide +kernel⟩

abbrev s_is_plan : Stmt := top 35
abbrev N_is_plan : List Str := ["value", "versions", "depth"]
theorem sc_is_plan : FnScope N_is_plan ["value", "versions", "depth"] (defScope s_is_plan) := ⟨rfl, rfl, rfl, by decide +kernel, rfl, by decide +kernel, by decide +kernel⟩

abbrev s_plan_of : Stmt := top 36
abbrev N_plan_of : List Str := ["value"]
theorem sc_plan_of : FnScope N_plan_of ["value"] (defScope s_plan_of) := ⟨rfl, rfl, rfl, by decide +kernel, rfl, by decide +kernel, by decide +kernel⟩

abbrev s_plan_value : Stmt := top 37
abbrev N_plan_value : List Str := ["plan"]
theorem sc_plan_value : FnScope N_plan_value ["plan"] (defScope s_plan_value) := ⟨rfl, rfl, rfl, by decide +kernel, rfl, by decide +kernel, by decide +kernel⟩

abbrev s_number_value : Stmt := top 38
abbrev N_number_value : List Str := ["number"]
theorem sc_number_value : FnScope N_number_value ["number"] (defScope s_number_value) := ⟨rfl, rfl, rfl, by decide +kernel, rfl, by decide +kernel, by decide +kernel⟩

abbrev s_Search_new : Stmt := inClass (top 39) 0
abbrev N_Search_new : List Str := ["self", "planner", "setting", "outcome"]
theorem sc_Search_new : FnScope N_Search_new ["self", "planner", "setting", "outcome"] (defScope s_Search_new) := ⟨rfl, rfl, rfl, by decide +kernel, rfl, by decide +kernel, by decide +kernel⟩

abbrev s_Search_test : Stmt := inClass (top 39) 1
abbrev N_Search_test : List Str := ["self"]
theorem sc_Search_test : FnScope N_Search_test ["self"] (defScope s_Search_test) := ⟨rfl, rfl, rfl, by decide +kernel, rfl, by decide +kernel, by decide +kernel⟩

abbrev s_Search_take : Stmt := inClass (top 39) 2
abbrev N_Search_take : List Str := ["self", "reply", "tested", "message", "version", "wrong", "many", "found", "at"]
theorem sc_Search_take : FnScope N_Search_take ["self", "reply"] (defScope s_Search_take) := ⟨rfl, rfl, rfl, by decide +kernel, rfl, by decide +kernel, by decide +kernel⟩

abbrev s_Search_fail : Stmt := inClass (top 39) 3
abbrev N_Search_fail : List Str := ["self", "reason"]
theorem sc_Search_fail : FnScope N_Search_fail ["self", "reason"] (defScope s_Search_fail) := ⟨rfl, rfl, rfl, by decide +kernel, rfl, by decide +kernel, by decide +kernel⟩

abbrev s_rejected : Stmt := top 40
abbrev N_rejected : List Str := ["planner", "refused", "word"]
theorem sc_rejected : FnScope N_rejected ["planner", "refused"] (defScope s_rejected) := ⟨rfl, rfl, rfl, by decide +kernel, rfl, by decide +kernel, by decide +kernel⟩

abbrev s_Desk_new : Stmt := inClass (top 41) 0
abbrev N_Desk_new : List Str := ["self"]
theorem sc_Desk_new : FnScope N_Desk_new ["self"] (defScope s_Desk_new) := ⟨rfl, rfl, rfl, by decide +kernel, rfl, by decide +kernel, by decide +kernel⟩

abbrev s_Desk_begun : Stmt := inClass (top 41) 1
abbrev N_Desk_begun : List Str := ["self", "door", "own", "setting", "refused", "found", "reply"]
theorem sc_Desk_begun : FnScope N_Desk_begun ["self", "door", "own"] (defScope s_Desk_begun) := ⟨rfl, rfl, rfl, by decide +kernel, rfl, by decide +kernel, by decide +kernel⟩

abbrev s_Desk_search_door : Stmt := inClass (top 41) 2
abbrev N_Desk_search_door : List Str := ["self", "door", "own", "slot", "search", "tested"]
theorem sc_Desk_search_door : FnScope N_Desk_search_door ["self", "door", "own"] (defScope s_Desk_search_door) := ⟨rfl, rfl, rfl, by decide +kernel, rfl, by decide +kernel, by decide +kernel⟩

abbrev s_Desk_planning_door : Stmt := inClass (top 41) 3
abbrev N_Desk_planning_door : List Str := ["self", "door", "setting", "own", "left", "good", "message", "found", "one"]
theorem sc_Desk_planning_door : FnScope N_Desk_planning_door ["self", "door", "setting", "own"] (defScope s_Desk_planning_door) := ⟨rfl, rfl, rfl, by decide +kernel, rfl, by decide +kernel, by decide +kernel⟩

abbrev s_Desk_answers_door : Stmt := inClass (top 41) 4
abbrev N_Desk_answers_door : List Str := ["self", "door", "setting", "own", "versions", "bad", "good", "answers_there", "left", "rows", "version", "first", "one", "more", "other", "pairs", "at"]
theorem sc_Desk_answers_door : FnScope N_Desk_answers_door ["self", "door", "setting", "own"] (defScope s_Desk_answers_door) := ⟨rfl, rfl, rfl, by decide +kernel, rfl, by decide +kernel, by decide +kernel⟩

abbrev s_Desk_answer : Stmt := inClass (top 41) 5
abbrev N_Desk_answer : List Str := ["self", "door", "own", "setting"]
theorem sc_Desk_answer : FnScope N_Desk_answer ["self", "door", "own"] (defScope s_Desk_answer) := ⟨rfl, rfl, rfl, by decide +kernel, rfl, by decide +kernel, by decide +kernel⟩

abbrev s_reply_to : Stmt := top 42
abbrev N_reply_to : List Str := ["desk", "octets", "request", "door", "own", "refused"]
theorem sc_reply_to : FnScope N_reply_to ["desk", "octets"] (defScope s_reply_to) := ⟨rfl, rfl, rfl, by decide +kernel, rfl, by decide +kernel, by decide +kernel⟩

abbrev s_answers : Stmt := top 43
abbrev N_answers : List Str := ["calls", "desk", "found", "at", "many", "own"]
theorem sc_answers : FnScope N_answers ["calls"] (defScope s_answers) := ⟨rfl, rfl, rfl, by decide +kernel, rfl, by decide +kernel, by decide +kernel⟩
end Fs

/-! Comprehensions in general; the data of the text as they lie in the heap. -/
namespace Fs
open PySem PySem.Spec PyProof.Rows L2 L2H
open R7286g.Spec (Candidate startOf afterAnswer)
/-! ### pairs of lists -/
section
variable {α β γ : Type} {F G : α → β → Prop}
theorem pd_get : ∀ {xs : List α} {ys : List β}, Paired F xs ys → ∀ {i : Nat} {x : α}, xs[i]? = some x → ∃ y, ys[i]? = some y ∧ F x y
  | _, _, .nil, i, x, h => by simp at h
  | _, _, .cons (a := a) (b := b) f r, 0, x, h => by
    obtain rfl : a = x := Option.some.inj h
    exact ⟨b, rfl, f⟩
  | _, _, .cons f r, i + 1, x, h => pd_get r (by simpa using h)
theorem pd_getR : ∀ {xs : List α} {ys : List β}, Paired F xs ys → ∀ {i : Nat} {y : β}, ys[i]? = some y → ∃ x, xs[i]? = some x ∧ F x y
  | _, _, .nil, i, x, h => by simp at h
  | _, _, .cons (a := a) (b := b) f r, 0, x, h => by
    obtain rfl : b = x := Option.some.inj h
    exact ⟨a, rfl, f⟩
  | _, _, .cons f r, i + 1, x, h => pd_getR r (by simpa using h)
theorem pd_map {f : γ → β} : ∀ {xs : List α} {ys : List γ}, Paired (fun x y => F x (f y)) xs ys → Paired F xs (ys.map f)
  | _, _, .nil => .nil
  | _, _, .cons f r => .cons f (pd_map r)
theorem pd_eq {f : β → α} : ∀ {xs : List α} {ys : List β}, Paired (fun x y => x = f y) xs ys → xs = ys.map f
  | _, _, .nil => rfl
  | _, _, .cons e r => by rw [List.map_cons, e, pd_eq r]
theorem pd_of {f : β → α} (h : ∀ y, F (f y) y) : ∀ ys : List β, Paired F (ys.map f) ys
  | [] => .nil
  | y :: r => .cons (h y) (pd_of h r)
theorem pd_app : ∀ {xs : List α} {ys : List β} {xs' : List α} {ys' : List β}, Paired F xs ys → Paired F xs' ys' → Paired F (xs ++ xs') (ys ++ ys')
  | _, _, _, _, .nil, q => q
  | _, _, _, _, .cons f r, q => .cons f (pd_app r q)
theorem pd_split : ∀ {xs : List α} {ys1 ys2 : List β}, Paired F xs (ys1 ++ ys2) → ∃ xs1 xs2, xs = xs1 ++ xs2 ∧ Paired F xs1 ys1 ∧ Paired F xs2 ys2
  | xs, [], ys2, h => ⟨[], xs, rfl, .nil, h⟩
  | _, y :: ys1, ys2, .cons (a := a) f r => by
    obtain ⟨x1, x2, rfl, p, q⟩ := pd_split r
    exact ⟨a :: x1, x2, rfl, .cons f p, q⟩
theorem pd_take : ∀ {xs : List α} {ys : List β} (n : Nat), Paired F xs ys → Paired F (xs.take n) (ys.take n)
  | _, _, 0, _ => by
    rw [List.take_zero, List.take_zero]
    exact .nil
  | _, _, n + 1, .nil => .nil
  | _, _, n + 1, .cons f r => .cons f (pd_take n r)
theorem pd_drop : ∀ {xs : List α} {ys : List β} (n : Nat), Paired F xs ys → Paired F (xs.drop n) (ys.drop n)
  | _, _, 0, h => h
  | _, _, n + 1, .nil => .nil
  | _, _, n + 1, .cons f r => pd_drop n r
theorem take_snoc {xs : List α} {i : Nat} {x : α} (h : xs[i]? = some x) : xs.take (i + 1) = xs.take i ++ [x] := by
  rw [List.take_add_one, h]
  rfl
theorem mem_of_get {xs : List α} {i : Nat} {x : α} (h : xs[i]? = some x) : x ∈ xs := List.mem_of_getElem? h
end
theorem pd_mono {α β : Type} {F G : α → β → Prop} {xs : List α} {ys : List β} (h : Paired F xs ys) (i : ∀ a b, F a b → G a b) : Paired G xs ys := h.mono i
theorem Kp.tups {H H' : Hp} {F : Addr → Prop} (k : Keep F H H') {b : Addr} {xs : List V} (e : H b = some (.tup xs)) : H' b = some (.tup xs) := k.tup b xs e
theorem kat {H H' : Hp} {b : Addr} {o : HO} (k : Kp H H') (e : H b = some o) : H' b = some o := k.all b o e fun f => f
theorem nf_of {F : Addr → Prop} {H : Hp} {D : Addr} (h : ∀ b, F b → H b ≠ none) (n : H D = none) : ¬ F D := fun f => h D f n

/-! ### a walk over n things, whatever the heap does meanwhile but for F -/
structure Walk (J : It) (F : Addr → Prop) (H0 : Hp) (n : Nat) (Item : Nat → V → Hp → Prop) : Prop where
  go : ∀ i H, i < n → Keep F H0 H → J.go i H
  stop : ∀ H, Keep F H0 H → J.stop n H
  yld : ∀ i x H H', i < n → Keep F H0 H → J.yld i H x H' → Kp H H' ∧ Item i x H'
section
variable {K : PySem.W.Frag} {F : Addr → Prop} {H0 : Hp} {a : Addr} {xs : List V}
theorem walk_list (h : SqL K H0 a xs) (nf : ¬ F a) : Walk (Itl K a) F H0 xs.length fun i x _ => xs[i]? = some x :=
  ⟨fun i H hi k => ⟨xs, xs[i], k.sqL nf h, by simp [hi]⟩, fun H k => ⟨xs, k.sqL nf h, Nat.le_refl _⟩, fun i x H H' hi k ⟨e, y⟩ => by
    subst e
    exact ⟨.refl, y xs (k.sqL nf h)⟩⟩
theorem walk_tup (h : SqT K H0 a xs) : Walk (Itt K a) F H0 xs.length fun i x _ => xs[i]? = some x :=
  ⟨fun i H hi k => ⟨xs, xs[i], k.sqT h, by simp [hi]⟩, fun H k => ⟨xs, k.sqT h, Nat.le_refl _⟩, fun i x H H' hi k ⟨e, y⟩ => by
    subst e
    exact ⟨.refl, y xs (k.sqT h)⟩⟩
theorem walk_range (lo : Int) (n : Nat) : Walk (Itr lo n) F H0 n fun i x _ => x = .int (lo + i) :=
  ⟨fun i H hi k => hi, fun H k => Nat.le_refl _, fun i x H H' hi k ⟨e, y⟩ => by
    subst e
    exact ⟨.refl, y⟩⟩
theorem walk_enum (h : SqL K H0 a xs) (nf : ¬ F a) : Walk (Ite K a) F H0 xs.length fun i x H => ∃ T y, x = .ref T ∧ H T = some (.tup [.int (i : Nat), y]) ∧ xs[i]? = some y :=
  ⟨fun i H hi k => ⟨xs, xs[i], k.sqL nf h, by simp [hi]⟩, fun H k => ⟨xs, k.sqL nf h, Nat.le_refl _⟩, fun i x H H' hi k ⟨T, y, e1, e2, e3, e4⟩ => by
    subst e3
    exact ⟨Keep.new e2, T, y, e1, upd_same, e4 xs (k.sqL nf h)⟩⟩
theorem walk_str (x : Str) : Walk (Its x) F H0 x.cps.size fun i v _ => ∃ c, x.cps[i]? = some c ∧ v = .str ⟨#[c]⟩ :=
  ⟨fun i H hi k => hi, fun H k => Nat.le_refl _, fun i v H H' hi k ⟨e, y⟩ => by
    subst e
    exact ⟨.refl, y⟩⟩
end
theorem Keep.or {F G : Addr → Prop} {H H' : Hp} (k : Keep F H H') : Keep (fun b => F b ∨ G b) H H' := k.mono fun _ _ _ f => .inl f
theorem filterMap_take {γ β : Type} {fn : γ → Option β} {cs : List γ} {i : Nat} {c : γ} (h : cs[i]? = some c) : (cs.take (i + 1)).filterMap fn = (cs.take i).filterMap fn ++ (fn c).toList := by
  rw [take_snoc h, List.filterMap_append]
  congr 1
/-- a comprehension: what it makes of the things cs -/
theorem lcG {γ β : Type} {J : It} {g : TG} {tt : TT} {te : TE} {vs : List Nat} {σ : St} {H1 : Hp} {D : Addr} {Qd : Hp → Prop} {F : Addr → Prop} {Item : Nat → V → Hp → Prop} {cs : List γ} (wk : Walk J F H1 cs.length Item)
    (fn : γ → Option β) (Iv : Hp → Prop) (Rel : Hp → V → β → Prop) (nF : ¬ F D) (hD : H1 D = none) (hz : cs.length ≤ sizeLine) (iv0 : Iv H1) (ivm : ∀ H H', Keep (fun b => b = D) H H' → Iv H → Iv H')
    (mono : ∀ H H' y b, Keep (fun b => F b ∨ b = D) H H' → Rel H y b → Rel H' y b)
    (step : ∀ i c x H (Qn : Hp → Prop) (Qy : V → Hp → Prop), cs[i]? = some c → Item i x H → Keep F H1 H → Iv H → (fn c = none → ∀ H4, Keep F H H4 → Iv H4 → Qn H4) → (∀ b, fn c = some b → ∀ y H4, Keep F H H4 → Iv H4 → Rel H4 y b → Qy y H4) →
      g x (wipe σ vs) H fun σ2 H2 => wipe σ2 vs = wipe σ vs ∧ tt σ2 H2 fun t H3 => if t = true then te σ2 H3 Qy else Qn H3)
    (hd : ∀ H ys, Keep F H1 H → Iv H → H D = some (.lst ys) → Paired (Rel H) ys (cs.filterMap fn) → Qd H) :
    ∃ W : Nat → Nat → Hp → Prop, (∃ m, W 0 m (upd H1 D (.lst []))) ∧ ∀ i m H, W i m H →
      (J.stop i H ∧ Qd H) ∨ (J.go i H ∧ ∃ Nx : Hp → Prop, (∀ H', Nx H' → ∃ m', m' < m ∧ W (i + 1) m' H') ∧ ∀ x H', J.yld i H x H' → g x (wipe σ vs) H' fun σ2 H2 => wipe σ2 vs = wipe σ vs ∧ tt σ2 H2 fun b H3 =>
        if b = true then te σ2 H3 fun y H4 => ∃ acc, H4 D = some (.lst acc) ∧ acc.length < sizeLine ∧ Nx (upd H4 D (.lst (acc ++ [y]))) else Nx H3) := by
  refine ⟨fun i m H => m = cs.length - i ∧ i ≤ cs.length ∧ Keep F H1 H ∧ Iv H ∧ ∃ ys, H D = some (.lst ys) ∧ Paired (Rel H) ys ((cs.take i).filterMap fn), ⟨cs.length, by simp, Nat.zero_le _, Keep.new hD, ivm _ _ (Keep.new hD) iv0, [], upd_same, ?_⟩, ?_⟩
  · rw [List.take_zero]
    exact .nil
  rintro i m H ⟨rfl, hi, k, iv, ys, eD, pr⟩
  by_cases hlt : i < cs.length
  · refine .inr ⟨wk.go i H hlt k, fun H' => Keep F H1 H' ∧ Iv H' ∧ ∃ ys, H' D = some (.lst ys) ∧ Paired (Rel H') ys ((cs.take (i + 1)).filterMap fn), fun H' p => ⟨cs.length - (i + 1), by omega, rfl, hlt, p⟩, fun x H' y => ?_⟩
    obtain ⟨k1, it⟩ := wk.yld i x H H' hlt k y
    have hc : cs[i]? = some cs[i] := by simp [hlt]
    have kF : Keep F H1 H' := k.trans (k1.to)
    have eD' : H' D = some (.lst ys) := k1.at eD
    have iv' : Iv H' := ivm _ _ k1.to iv
    have pr' : Paired (Rel H') ys ((cs.take i).filterMap fn) := pd_mono pr fun a b r => mono _ _ _ _ k1.to r
    refine step i cs[i] x H' _ _ hc it kF iv' (fun e H4 k4 iv4 => ?_) fun b e y H4 k4 iv4 r4 => ?_
    · refine ⟨kF.trans k4, iv4, ys, k4.all _ _ eD' nF, ?_⟩
      rw [filterMap_take hc, e]
      simpa using pd_mono pr' fun a b r => mono _ _ _ _ k4.or r
    · have e4 : H4 D = some (.lst ys) := k4.all _ _ eD' nF
      have kD : ∀ o, Keep (fun b => F b ∨ b = D) H4 (upd H4 D o) := fun o => Keep.put (.inr rfl) e4 (by intro z; exact HO.noConfusion) (by intro z w; exact HO.noConfusion)
      have hlen : ys.length < sizeLine := by
        have h1 := pr'.length
        have h2 := List.length_filterMap_le fn (cs.take i)
        rw [List.length_take] at h2
        omega
      refine ⟨ys, e4, hlen, ?_, ivm _ _ (Keep.put rfl e4 (by intro z; exact HO.noConfusion) (by intro z w; exact HO.noConfusion)) iv4, ys ++ [y], upd_same, ?_⟩
      · exact (kF.trans k4).mut hD e4 (by intro z; exact HO.noConfusion) (by intro z w; exact HO.noConfusion)
      · rw [filterMap_take hc, e]
        exact Paired.snoc (pd_mono pr' fun a b r => mono _ _ _ _ (k4.or.trans (kD _)) r) (mono _ _ _ _ (kD _) r4)
  · have e : i = cs.length := by omega
    subst e
    rw [List.take_length] at pr
    exact .inl ⟨wk.stop H k, hd H ys k iv eD pr⟩
/-- one that keeps all its things -/
theorem lcA {γ β : Type} {J : It} {g : TG} {te : TE} {vs : List Nat} {σ : St} {H1 : Hp} {D : Addr} {Qd : Hp → Prop} {F : Addr → Prop} {Item : Nat → V → Hp → Prop} {cs : List γ} (wk : Walk J F H1 cs.length Item)
    (fn : γ → β) (Iv : Hp → Prop) (Rel : Hp → V → β → Prop) (nF : ¬ F D) (hD : H1 D = none) (hz : cs.length ≤ sizeLine) (iv0 : Iv H1) (ivm : ∀ H H', Keep (fun b => b = D) H H' → Iv H → Iv H')
    (mono : ∀ H H' y b, Keep (fun b => F b ∨ b = D) H H' → Rel H y b → Rel H' y b)
    (step : ∀ i c x H (Qy : V → Hp → Prop), cs[i]? = some c → Item i x H → Keep F H1 H → Iv H → (∀ y H4, Keep F H H4 → Iv H4 → Rel H4 y (fn c) → Qy y H4) → g x (wipe σ vs) H fun σ2 H2 => wipe σ2 vs = wipe σ vs ∧ te σ2 H2 Qy)
    (hd : ∀ H ys, Keep F H1 H → Iv H → H D = some (.lst ys) → Paired (Rel H) ys (cs.map fn) → Qd H) :
    ∃ W : Nat → Nat → Hp → Prop, (∃ m, W 0 m (upd H1 D (.lst []))) ∧ ∀ i m H, W i m H →
      (J.stop i H ∧ Qd H) ∨ (J.go i H ∧ ∃ Nx : Hp → Prop, (∀ H', Nx H' → ∃ m', m' < m ∧ W (i + 1) m' H') ∧ ∀ x H', J.yld i H x H' → g x (wipe σ vs) H' fun σ2 H2 => wipe σ2 vs = wipe σ vs ∧ tYes σ2 H2 fun b H3 =>
        if b = true then te σ2 H3 fun y H4 => ∃ acc, H4 D = some (.lst acc) ∧ acc.length < sizeLine ∧ Nx (upd H4 D (.lst (acc ++ [y]))) else Nx H3) := by
  refine lcG (tt := tYes) wk (fun c => some (fn c)) Iv Rel nF hD hz iv0 ivm mono (fun i c x H Qn Qy hc it k iv h1 h2 => ?_) fun H ys k iv e p => hd H ys k iv e ?_
  · have h := step i c x H Qy hc it k iv (fun y H4 k4 iv4 r4 => h2 _ rfl y H4 k4 iv4 r4)
    have e : (fun (σ2 : St) (H2 : Hp) => wipe σ2 vs = wipe σ vs ∧ tYes σ2 H2 fun t H3 => if t = true then te σ2 H3 Qy else Qn H3) = fun σ2 H2 => wipe σ2 vs = wipe σ vs ∧ te σ2 H2 Qy := by
      funext σ2 H2
      show (_ ∧ if true = true then te σ2 H2 Qy else Qn H2) = _
      rw [if_pos rfl]
    rw [e]
    exact h
  · have e : cs.filterMap (fun c => some (fn c)) = cs.map fn := by rw [← List.filterMap_eq_map]; rfl
    rw [e] at p
    exact p

/-! ### data -/
def tup3 (i j k : Int) : HO := .tup [.int i, .int j, .int k]
def CandAt (H : Hp) (v : V) (c : Candidate) : Prop := ∃ t, v = .ref t ∧ H t = some (.tup [.int c.version, .int c.bad, .int c.good])
theorem CandAt.mono {F : Addr → Prop} {H H' : Hp} {v : V} {c : Candidate} (h : CandAt H v c) (k : Keep F H H') : CandAt H' v c := by
  obtain ⟨t, e, h⟩ := h
  exact ⟨t, e, k.tup _ _ h⟩
def LeftAt (H : Hp) (a : Addr) (l : List Candidate) : Prop := ∃ vs, H a = some (.lst vs) ∧ Paired (CandAt H) vs l
theorem LeftAt.mono {F : Addr → Prop} {H H' : Hp} {a : Addr} {l : List Candidate} (h : LeftAt H a l) (k : Keep F H H') (n : ¬ F a) : LeftAt H' a l := by
  obtain ⟨vs, e, p⟩ := h
  exact ⟨vs, k.all _ _ e n, pd_mono p fun _ _ r => r.mono k⟩
def AnsOne (H : Hp) (v : V) (x : Nat × Bool) : Prop := ∃ t, v = .ref t ∧ H t = some (.tup [.int x.1, .bl x.2])
theorem AnsOne.mono {F : Addr → Prop} {H H' : Hp} {v : V} {x : Nat × Bool} (h : AnsOne H v x) (k : Keep F H H') : AnsOne H' v x := by
  obtain ⟨t, e, h⟩ := h
  exact ⟨t, e, k.tup _ _ h⟩
def AnsAt (H : Hp) (a : Addr) (l : List (Nat × Bool)) : Prop := ∃ vs, H a = some (.lst vs) ∧ Paired (AnsOne H) vs l
theorem AnsAt.mono {F : Addr → Prop} {H H' : Hp} {a : Addr} {l : List (Nat × Bool)} (h : AnsAt H a l) (k : Keep F H H') (n : ¬ F a) : AnsAt H' a l := by
  obtain ⟨vs, e, p⟩ := h
  exact ⟨vs, k.all _ _ e n, pd_mono p fun _ _ r => r.mono k⟩
theorem LeftAt.kp {H H' : Hp} {a : Addr} {l : List Candidate} (h : LeftAt H a l) (k : Kp H H') : LeftAt H' a l := h.mono k fun f => f
theorem AnsAt.kp {H H' : Hp} {a : Addr} {l : List (Nat × Bool)} (h : AnsAt H a l) (k : Kp H H') : AnsAt H' a l := h.mono k fun f => f
/-- the built-ins that the text calls; the top has no such names of its own -/
structure Bt (mg : Str → Option Value) : Prop where
  len : mg "len" = none
  range : mg "range" = none
  tuple : mg "tuple" = none
  list : mg "list" = none
  min : mg "min" = none
  max : mg "max" = none
  isinstance : mg "isinstance" = none
  enumerate : mg "enumerate" = none
  ord : mg "ord" = none
  str : mg "str" = none
  all : mg "all" = none
theorem two_le : 2 ≤ sizeLine := by decide
theorem three_le : 3 ≤ sizeLine := by decide
theorem lenL {n : Nat} (h : n ≤ 100000) : n ≤ sizeLine := Nat.le_trans h (by decide)
end Fs

/-! The defs of planning that keep nothing: first_left, left_by, left_behind, are_wrong. -/
namespace Fs
open PySem PySem.Spec PyProof.Rows L2 L2H
open R7286g.Spec (Candidate startOf afterAnswer afterAnswers wrongOnes)
theorem ifT {c : Bool} {A B : Prop} (hc : c = true) (h : A) : if c = true then A else B := by
  rw [if_pos hc]
  exact h
theorem ifF {c : Bool} {A B : Prop} (hc : c = false) (h : B) : if c = true then A else B := by
  rw [hc, if_neg Bool.false_ne_true]
  exact h
theorem ifB {c : Bool} {A B : Prop} (h1 : c = true → A) (h2 : c = false → B) : if c = true then A else B := by
  cases c with
  | true => exact ifT rfl (h1 rfl)
  | false => exact ifF rfl (h2 rfl)
section
variable {P : Program} {w : World} {K : PySem.W.Frag} {mg : Str → Option Value} {base : Heap}
/-! ### first_left -/
def spFirst : Sp := fun vs H Q _ => ∃ n p q : Nat, vs = [.int n, .int p, .int q] ∧ n ≤ 1000 ∧ ∀ H' a, Kp H H' → H a = none → LeftAt H' a (startOf n p q) → Q (.ref a) H'
theorem b_first_left (B : Bt mg) : Bd P w K mg base N_first_left "first_left" s_first_left 0 spFirst := by
  rintro f cdv A outer s H vs Q E hr ⟨n, p, q, rfl, hn, post⟩
  refine ⟨_, pss_one (ps_ret (pe_lc (own := [("version", 3)]) (g := (gName 3)) (te := (tTup (tCons (tVar 3) (tCons (tVar 1) (tCons (tVar 2) tNil))))) rfl sc_first_left.nd (pi_range1 rfl B.range (pa_cons (pv 0) pa_nil)) (blkOk_by (N := N_first_left) (sc := defScope s_first_left) (by decide +kernel)) (fun _ _ _ _ _ => by exact pg_name (i := 3) sc_first_left.nd rfl (Or.inl rfl)) (fun _ _ _ _ _ => pts_nil) (fun _ _ _ _ _ => by exact pe_tup (pa_cons (pv 3) (pa_cons (pv 1) (pa_cons (pv 2) pa_nil)))))), ?_⟩
  refine ⟨_, rfl, (n : Int), rfl, by omega, by omega, fun D hD => ?_⟩
  refine lcA (F := fun _ => False) (Item := fun i x _ => x = .int (0 + i)) (cs := List.range n) (by rw [List.length_range]; exact walk_range 0 n) (fun v => (⟨v, p, q⟩ : Candidate)) (fun _ => True) CandAt (fun f => f) hD (by rw [List.length_range]; exact lenL (by omega)) trivial (fun _ _ _ h => h)
    (fun H H' y b k r => r.mono k) (fun i c x H1 Qy hc it k _ go => ?_) fun H1 ys k _ e pr => post _ _ k hD ⟨ys, e, pr⟩
  subst it
  obtain rfl : i = c := by
    have h := List.getElem?_range (n := n) (i := i) (by have := (List.getElem?_eq_some_iff.mp hc).1; simpa using this)
    rw [hc] at h
    exact (Option.some.inj h).symm
  refine ⟨rfl, ?_⟩
  refine ⟨_, rfl, _, rfl, _, rfl, three_le, fun t ht => go _ _ (Keep.new ht) trivial ⟨t, rfl, ?_⟩⟩
  rw [upd_same]
  simp
/-! ### left_by -/
def spLeftBy : Sp := fun vs H Q _ => ∃ (a : Addr) (k : Nat) (b : Bool) (l : List Candidate), vs = [.ref a, .int k, .bl b] ∧ LeftAt H a l ∧ l.length ≤ 1000 ∧ ∀ H' r, Kp H H' → H r = none → LeftAt H' r (afterAnswer l k b) → Q (.ref r) H'
def nbOf (c : Candidate) (k : Nat) (b : Bool) : Int := if b = true ∧ k < c.version then (c.bad : Int) - 1 else c.bad
def ngOf (c : Candidate) (k : Nat) (b : Bool) : Int := if b = false ∧ c.version ≤ k then (c.good : Int) - 1 else c.good
theorem after_nb (c : Candidate) (k : Nat) (b : Bool) : (if 0 ≤ nbOf c k b ∧ 0 ≤ ngOf c k b then c.after k b = some ⟨c.version, (nbOf c k b).toNat, (ngOf c k b).toNat⟩ else c.after k b = none) := by
  rcases c with ⟨v, p, q⟩
  unfold nbOf ngOf
  cases b with
  | true =>
    by_cases h : v ≤ k
    · have h1 : ¬ k < v := by omega
      simp [h1, after_true_le (c := ⟨v, p, q⟩) h]
    · have h1 : k < v := by omega
      rw [after_true_gt (c := ⟨v, p, q⟩) h1]
      by_cases z : p = 0
      · simp [h1, z]
      · have : (0 : Int) ≤ (p : Int) - 1 := by omega
        have e : ((p : Int) - 1).toNat = p - 1 := by omega
        simp [h1, z, e]
        omega
  | false =>
    by_cases h : v ≤ k
    · rw [after_false_le (c := ⟨v, p, q⟩) h]
      by_cases z : q = 0
      · simp [h, z]
      · have : (0 : Int) ≤ (q : Int) - 1 := by omega
        have e : ((q : Int) - 1).toNat = q - 1 := by omega
        simp [h, z, e]
        omega
    · have h1 : k < v := by omega
      have h2 : ¬ v ≤ k := h
      simp [h2, after_false_gt (c := ⟨v, p, q⟩) h1]
theorem b_left_by (B : Bt mg) : Bd P w K mg base N_left_by "left_by" s_left_by 0 spLeftBy := by
  rintro f cdv A outer s H vs Q E hr ⟨a, k, b, l, rfl, ⟨ts, ea, pr⟩, hl, post⟩
  refine ⟨_, pss_cons (ps_set (i := 3) sc_left_by.nd rfl (Or.inl rfl) (pe_lst pa_nil))
    (pss_cons (ps_for PassesOwn.never rfl (pi_list (pv 0)) (pg_tup rfl (pgs_cons (pg_name (i := 4) sc_left_by.nd rfl (Or.inl rfl)) (pgs_cons (pg_name (i := 5) sc_left_by.nd rfl (Or.inl rfl)) (pgs_cons (pg_name (i := 6) sc_left_by.nd rfl (Or.inl rfl)) pgs_nil)))) (C8.pss_cut (ps_if ((pw_and (pt_truth (pv 2) (fun _ => rfl)) (pw_and1 (pt_cmpR op_gt (pv 4) (pv 1) (nomark _)))).pt) (pss_one (ps_aug (i := 5) sc_left_by.nd rfl (Or.inl rfl) (pe_int) ip_sub)) pss_nil)
    (C8.pss_cut (ps_if ((pw_and (pt_not (pt_truth (pv 2) (fun _ => rfl))) (pw_and1 (pt_cmpR op_le (pv 4) (pv 1) (nomark _)))).pt) (pss_one (ps_aug (i := 6) sc_left_by.nd rfl (Or.inl rfl) (pe_int) ip_sub)) pss_nil)
    (pss_one (ps_if ((pw_and (pt_cmpR op_ge (pv 5) (pe_int) (nomark _)) (pw_and1 (pt_cmpR op_ge (pv 6) (pe_int) (nomark _)))).pt) (pss_one (ps_expr (pe_bm PySem.F.plainAttrs_list PySem.F.slot_list_append PySem.F.type_list_append mt_append (pv 3) (pa_cons (pe_tup (pa_cons (pv 4) (pa_cons (pv 5) (pa_cons (pv 6) pa_nil)))) pa_nil)))) pss_nil)))))
    (pss_one (ps_ret (pv 3)))), ?_⟩
  refine ⟨Nat.zero_le _, fun r hr0 => ?_⟩
  have nra : a ≠ r := ne_of_none ea hr0
  refine ⟨_, rfl, a, rfl, ⟨ts, .of (by rw [upd_ne nra]; exact ea)⟩, for_list (K := K) (a := a) (xs := ts) (fun i σ H' => ∃ v1 v2 v3 : Option V, σ = [some (.ref a), some (.int k), some (.bl b), some (.ref r), v1, v2, v3] ∧ Kp H H' ∧ ∃ ys, H' r = some (.lst ys) ∧ Paired (CandAt H') ys (afterAnswer (l.take i) k b))
    ⟨none, none, none, rfl, Keep.new hr0, [], upd_same, .nil⟩ (fun i σ H' _ ⟨_, _, _, _, kp, _⟩ => .of (kp.at ea)) ?_ ?_⟩
  · rintro i x σ H1 hi ⟨v1, v2, v3, rfl, kp, ys, er, py⟩
    obtain ⟨c, hc, t, rfl, et⟩ := pd_get pr hi
    have et1 := kp.at et
    refine ⟨t, _, rfl, .of et1, rfl, ?_⟩
    refine ⟨_, _, rfl, _, _, rfl, _, _, rfl, rfl, ?_⟩
    refine ⟨fun σ' H' => H' = H1 ∧ σ' = [some (.ref a), some (.int k), some (.bl b), some (.ref r), some (.int c.version), some (.int (nbOf c k b)), some (.int c.good)], ?_, ?_⟩
    · refine ⟨_, rfl, b, rfl, ifB (fun hb => ?_) fun hb => ?_⟩
      · subst hb
        refine ⟨_, rfl, _, rfl, _, _, rfl, rfl, _, rfl, ifB (fun h => ?_) fun h => ?_⟩
        · have h : (k : Int) < c.version := of_decide_eq_true h
          refine ⟨_, rfl, _, _, rfl, rfl, rfl, ?_⟩
          rw [nbOf, if_pos ⟨rfl, by omega⟩]
          rfl
        · have h : ¬ (k : Int) < c.version := of_decide_eq_false h
          refine ⟨rfl, ?_⟩
          rw [nbOf, if_neg (fun z => h (by omega))]
          rfl
      · subst hb
        refine ifF rfl ⟨rfl, ?_⟩
        rw [nbOf, if_neg (fun z => Bool.noConfusion z.1)]
        rfl
    rintro σ' H' ⟨rfl, rfl⟩
    refine ⟨fun σ' H2 => H2 = H' ∧ σ' = [some (.ref a), some (.int k), some (.bl b), some (.ref r), some (.int c.version), some (.int (nbOf c k b)), some (.int (ngOf c k b))], ?_, ?_⟩
    · refine ⟨_, rfl, b, rfl, ifB (fun hb => ?_) fun hb => ?_⟩
      · have hb : b = false := by simpa using hb
        subst hb
        refine ⟨_, rfl, _, rfl, _, _, rfl, rfl, _, rfl, ifB (fun h => ?_) fun h => ?_⟩
        · have h : (c.version : Int) ≤ k := of_decide_eq_true h
          refine ⟨_, rfl, _, _, rfl, rfl, rfl, ?_⟩
          rw [ngOf, if_pos ⟨rfl, by omega⟩]
          rfl
        · have h : ¬ (c.version : Int) ≤ k := of_decide_eq_false h
          refine ⟨rfl, ?_⟩
          rw [ngOf, if_neg (fun z => h (by omega))]
      · have hb : b = true := by simpa using hb
        subst hb
        refine ifF rfl ⟨rfl, ?_⟩
        rw [ngOf, if_neg (fun z => Bool.noConfusion z.1)]
    rintro σ' H1 ⟨rfl, rfl⟩
    have af := after_nb c k b
    have e1 : afterAnswer (l.take (i + 1)) k b = afterAnswer (l.take i) k b ++ (c.after k b).toList := filterMap_take hc
    refine ⟨_, rfl, _, _, rfl, rfl, _, rfl, ifB (fun h1 => ?_) fun h1 => ?_⟩
    · have h1 : (0 : Int) ≤ nbOf c k b := of_decide_eq_true h1
      refine ⟨_, rfl, _, _, rfl, rfl, _, rfl, ifB (fun h2 => ?_) fun h2 => ?_⟩
      · have h2 : (0 : Int) ≤ ngOf c k b := of_decide_eq_true h2
        rw [if_pos ⟨h1, h2⟩] at af
        refine ⟨_, rfl, .inl ⟨rfl, _, .of er⟩, _, rfl, _, rfl, _, rfl, three_le, fun u hu => ?_⟩
        have nur : r ≠ u := ne_of_none er hu
        have yl : ys.length < sizeLine := by
          have z1 := py.length
          have z2 : (afterAnswer (l.take i) k b).length ≤ (l.take i).length := List.length_filterMap_le _ _
          rw [List.length_take] at z2
          exact Nat.lt_of_le_of_lt (by omega : ys.length ≤ 1000) (by decide)
        refine ⟨_, _, _, rfl, rfl, (by rw [upd_ne nur]; exact er), yl, _, _, _, rfl, ?_, ys ++ [.ref u], upd_same, ?_⟩
        · exact (kp.snoc hu).mut hr0 (by rw [upd_ne nur]; exact er) (by intro z; exact HO.noConfusion) (by intro z w; exact HO.noConfusion)
        · rw [e1, af]
          have kk : Keep (fun b => b = r) H1 (upd (upd H1 u (.tup [.int c.version, .int (nbOf c k b), .int (ngOf c k b)])) r (.lst (ys ++ [.ref u]))) := (Keep.new hu).trans (Keep.put rfl (u := .lst ys) (by rw [upd_ne nur]; exact er) (by intro z; exact HO.noConfusion) (by intro z w; exact HO.noConfusion))
          refine Paired.snoc (pd_mono py fun _ _ q => q.mono kk) ⟨u, rfl, ?_⟩
          rw [upd_ne nur.symm, upd_same]
          show some (HO.tup [.int c.version, .int (nbOf c k b), .int (ngOf c k b)]) = some (HO.tup [.int c.version, .int ((nbOf c k b).toNat : Nat), .int ((ngOf c k b).toNat : Nat)])
          rw [Int.toNat_of_nonneg h1, Int.toNat_of_nonneg h2]
      · have h2 : ¬ (0 : Int) ≤ ngOf c k b := of_decide_eq_false h2
        rw [if_neg (fun z => h2 z.2)] at af
        refine ⟨_, _, _, rfl, kp, ys, er, ?_⟩
        rw [e1, af]
        simpa using py
    · have h1 : ¬ (0 : Int) ≤ nbOf c k b := of_decide_eq_false h1
      rw [if_neg (fun z => h1 z.1)] at af
      refine ifF rfl ⟨_, _, _, rfl, kp, ys, er, ?_⟩
      rw [e1, af]
      simpa using py
  · rintro σ H1 ⟨v1, v2, v3, rfl, kp, ys, er, py⟩
    rw [pr.length, List.take_length] at py
    exact ⟨_, rfl, post _ _ kp hr0 ⟨ys, er, py⟩⟩
end
end Fs

/-! left_behind, are_wrong, weight_of, least_by_weight. -/
namespace Fs
open PySem PySem.Spec PyProof.Rows L2 L2H
open R7286g.Spec (Candidate startOf afterAnswer afterAnswers wrongOnes shareOf leastByWeight)
theorem Keep.off {F G : Addr → Prop} {H H1 H2 : Hp} (k : Keep F H H1) (k2 : Keep G H1 H2) (h : ∀ b, G b → H b ≠ none → F b) : Keep F H H2 :=
  ⟨fun b o e n => k2.all b o (k.all b o e n) fun g => n (h b g (by rw [e]; exact Option.some_ne_none _)), fun b xs e => k2.tup b xs (k.tup b xs e), fun b o u e => k2.frz b o u (k.frz b o u e)⟩
theorem Keep.away {d : Addr} {H H1 H2 : Hp} {F : Addr → Prop} (k : Keep F H H1) (n : H d = none) (k2 : Keep (fun b => b = d) H1 H2) : Keep F H H2 := k.off k2 fun b e z => absurd (by rw [e]; exact n) z
theorem sub_len {α : Type} [DecidableEq α] : ∀ (xs ys : List α), xs.Nodup → (∀ x ∈ xs, x ∈ ys) → xs.length ≤ ys.length
  | [], ys, _, _ => Nat.zero_le _
  | x :: r, ys, nd, h => by
    obtain ⟨h1, h2⟩ := List.nodup_cons.mp nd
    have hx := h x (List.mem_cons_self ..)
    have ih := sub_len r (ys.erase x) h2 fun y hy => (List.mem_erase_of_ne (fun e : y = x => h1 (by rw [← e]; exact hy))).mpr (h y (List.mem_cons_of_mem _ hy))
    rw [List.length_erase_of_mem hx] at ih
    have := List.length_pos_of_mem hx
    rw [List.length_cons]
    omega
section
variable {P : Program} {w : World} {K : PySem.W.Frag} {mg : Str → Option Value} {base : Heap}
/-! ### left_behind -/
theorem after_len (l : List Candidate) (k : Nat) (b : Bool) : (afterAnswer l k b).length ≤ l.length := List.length_filterMap_le _ _
theorem afters_len : ∀ (as : List (Nat × Bool)) (l : List Candidate), (afterAnswers l as).length ≤ l.length
  | [], l => Nat.le_refl _
  | a :: as, l => Nat.le_trans (afters_len as (afterAnswer l a.1 a.2)) (after_len l a.1 a.2)
theorem afters_snoc (l : List Candidate) (as : List (Nat × Bool)) (x : Nat × Bool) : afterAnswers l (as ++ [x]) = afterAnswer (afterAnswers l as) x.1 x.2 := by
  unfold afterAnswers
  rw [List.foldl_append]
  rfl
def spLeftBehind : Sp := fun vs H Q _ => ∃ (a b : Addr) (l : List Candidate) (as : List (Nat × Bool)), vs = [.ref a, .ref b] ∧ LeftAt H a l ∧ AnsAt H b as ∧ l.length ≤ 1000 ∧ ∀ H' r, Kp H H' → LeftAt H' r (afterAnswers l as) → Q (.ref r) H'
theorem b_left_behind (B : Bt mg) (c_left_by : Cal P w K mg base 1 "left_by" spLeftBy) : Bd P w K mg base N_left_behind "left_behind" s_left_behind 1 spLeftBehind := by
  rintro f cdv A outer s H vs Q E hr ⟨a, b, l, as, rfl, la, ⟨ts, eb, pr⟩, hl, post⟩
  refine ⟨_, pss_cons (ps_for PassesOwn.never rfl (pi_list (pv 1)) (pg_tup rfl (pgs_cons (pg_name (i := 2) sc_left_behind.nd rfl (Or.inl rfl)) (pgs_cons (pg_name (i := 3) sc_left_behind.nd rfl (Or.inl rfl)) pgs_nil))) (pss_one (ps_set (i := 0) sc_left_behind.nd rfl (Or.inl rfl) (pe_c c_left_by hr (by omega) rfl (pa_cons (pv 0) (pa_cons (pv 2) (pa_cons (pv 3) pa_nil)))))))
    (pss_one (ps_ret (pv 0))), ?_⟩
  refine ⟨_, rfl, b, rfl, ⟨ts, .of eb⟩, for_list (K := K) (a := b) (xs := ts) (fun i σ H' => ∃ (r : Addr) (v1 v2 : Option V), σ = [some (.ref r), some (.ref b), v1, v2] ∧ Kp H H' ∧ LeftAt H' r (afterAnswers l (as.take i)))
    ⟨a, none, none, rfl, .refl, la⟩ (fun i σ H' _ ⟨_, _, _, _, kp, _⟩ => .of (kp.at eb)) ?_ ?_⟩
  · rintro i x σ H1 hi ⟨r, v1, v2, rfl, kp, lr⟩
    obtain ⟨c, hc, t, rfl, et⟩ := pd_get pr hi
    refine ⟨t, _, rfl, .of (kp.at et), rfl, ?_⟩
    refine ⟨_, _, rfl, _, _, rfl, rfl, ?_⟩
    refine ⟨_, rfl, _, rfl, _, rfl, r, c.1, c.2, _, rfl, lr, Nat.le_trans (afters_len _ _) hl, fun H2 r2 k2 n2 l2 => ?_⟩
    refine ⟨r2, _, _, rfl, kp.trans k2, ?_⟩
    rw [take_snoc hc, afters_snoc]
    exact l2
  · rintro σ H1 ⟨r, v1, v2, rfl, kp, lr⟩
    rw [pr.length, List.take_length] at lr
    exact ⟨_, rfl, post _ _ kp lr⟩
/-! ### are_wrong -/
def wrongF (v : Nat) (x : (Nat × Bool) × Nat) : Option Nat := if x.1.2 == decide (v ≤ x.1.1) then none else some x.2
theorem wrong_zip (v : Nat) : ∀ (as : List (Nat × Bool)) (i : Nat), wrongOnes v i as = (as.zipIdx i).filterMap (wrongF v)
  | [], i => rfl
  | a :: as, i => by
    rw [List.zipIdx_cons, List.filterMap_cons, wrongOnes, wrongF, wrong_zip v as (i + 1)]
    by_cases h : (a.2 == decide (v ≤ a.1)) = true
    · rw [if_pos h, if_pos h]
    · rw [if_neg h, if_neg h]
def spAreWrong : Sp := fun vs H Q _ => ∃ (v : Nat) (a : Addr) (as : List (Nat × Bool)), vs = [.int v, .ref a] ∧ AnsAt H a as ∧ as.length ≤ 100000 ∧ ∀ H' r, Kp H H' → H r = none → H' r = some (.lst ((wrongOnes v 0 as).map fun n : Nat => V.int n)) → Q (.ref r) H'
theorem b_are_wrong (B : Bt mg) : Bd P w K mg base N_are_wrong "are_wrong" s_are_wrong 0 spAreWrong := by
  rintro f cdv A outer s H vs Q E hr ⟨v, a, as, rfl, ⟨ts, ea, pr⟩, hl, post⟩
  refine ⟨_, pss_one (ps_ret (pe_lc (own := [("at", 2), ("tested", 3), ("is_bad", 4)]) (g := (gTup K 2 (gCons (gName 2) (gCons (gTup K 2 (gCons (gName 3) (gCons (gName 4) gNil))) gNil)))) (te := (tVar 2)) (tt := tTest (tOp _ (tVar 4) (tOp _ (tVar 0) (tVar 3)))) rfl sc_are_wrong.nd (pi_enum rfl B.enumerate (pa_cons (pv 1) pa_nil)) (blkOk_by (N := N_are_wrong) (sc := defScope s_are_wrong) (by decide +kernel)) (fun _ _ _ _ _ => by exact pg_tup rfl (pgs_cons (pg_name (i := 2) sc_are_wrong.nd rfl (Or.inl rfl)) (pgs_cons (pg_tup rfl (pgs_cons (pg_name (i := 3) sc_are_wrong.nd rfl (Or.inl rfl)) (pgs_cons (pg_name (i := 4) sc_are_wrong.nd rfl (Or.inl rfl)) pgs_nil))) pgs_nil))) (fun _ _ _ _ _ => by exact pts_one (pt_cmpR op_ne (pv 4) (pe_cmpR op_le (pv 0) (pv 3) (nomark _)) (nomark _))) (fun _ _ _ _ _ => by exact pv 2))), ?_⟩
  refine ⟨_, rfl, a, ts, rfl, .of ea, fun D hD => ?_⟩
  have el : ts.length = as.zipIdx.length := by rw [pr.length, List.length_zipIdx]
  refine lcG (F := fun _ => False) (cs := as.zipIdx) (by rw [← el]; exact walk_enum (.of ea) fun f => f) (wrongF v) (fun _ => True) (fun _ y b => y = V.int (b : Nat)) (fun f => f) hD (by rw [List.length_zipIdx]; exact lenL hl) trivial (fun _ _ _ h => h) (fun _ _ _ _ _ r => r) (fun i c x H1 Qn Qy hc it k _ h1 h2 => ?_) fun H1 ys k _ e p => post _ _ k hD (by rw [e, wrong_zip, pd_eq p])
  obtain ⟨T, y, rfl, eT, ht⟩ := it
  obtain ⟨c', hc', u, rfl, eu⟩ := pd_get pr ht
  have ec : c = (c', i) := by
    rw [List.getElem?_zipIdx, hc'] at hc
    simpa using hc.symm
  subst ec
  refine ⟨T, _, rfl, .of eT, rfl, _, _, rfl, _, _, rfl, u, _, rfl, .of (k.tup _ _ eu), rfl, _, _, rfl, _, _, rfl, rfl, rfl, rfl, ?_⟩
  refine ⟨_, rfl, _, rfl, _, rfl, _, _, rfl, rfl, rfl, _, rfl, ifB (fun h => ?_) fun h => ?_⟩
  · have e1 : wrongF v (c', i) = some i := by
      have h : ¬ (V.bl c'.2 = V.bl (decide ((v : Int) ≤ c'.1))) := by simpa using h
      refine if_neg fun z => h ?_
      rw [beq_iff_eq.mp z]
      congr 1
      exact decide_eq_decide.mpr (by show (v ≤ c'.1) ↔ ((v : Int) ≤ c'.1); omega)
    exact ⟨_, rfl, h2 i e1 _ _ .refl trivial rfl⟩
  · have e1 : wrongF v (c', i) = none := by
      have h : (V.bl c'.2 = V.bl (decide ((v : Int) ≤ c'.1))) := by simpa using h
      injection h with h
      refine if_pos (beq_iff_eq.mpr (h.trans ?_))
      exact decide_eq_decide.mpr (by show ((v : Int) ≤ c'.1) ↔ (v ≤ c'.1); omega)
    exact h1 e1 _ .refl trivial
/-! ### weight_of -/
abbrev key3 (t b g : Nat) : List Key := [.inl (t : Int), .inl (b : Int), .inl (g : Int)]
def keys3 : List (List Key) := (List.range 100).flatMap fun t => (List.range 3).flatMap fun b => (List.range 3).map fun g => key3 t b g
theorem keys3_mem {t b g : Nat} (h1 : t < 100) (h2 : b < 3) (h3 : g < 3) : key3 t b g ∈ keys3 :=
  List.mem_flatMap.mpr ⟨t, List.mem_range.mpr h1, List.mem_flatMap.mpr ⟨b, List.mem_range.mpr h2, List.mem_map.mpr ⟨g, List.mem_range.mpr h3, rfl⟩⟩⟩
def KwOk (kvs : List (List Key × V)) : Prop := (kvs.map (·.1)).Nodup ∧ ∀ kv ∈ kvs, ∃ t b g : Nat, kv.1 = key3 t b g ∧ kv.2 = .int (shareOf t b g) ∧ t < 100 ∧ b < 3 ∧ g < 3
theorem KwOk.len {kvs : List (List Key × V)} (h : KwOk kvs) : kvs.length < sizeLine := by
  have h1 := sub_len (kvs.map (·.1)) keys3 h.1 fun x hx => by
    obtain ⟨kv, hk, rfl⟩ := List.mem_map.mp hx
    obtain ⟨t, b, g, e, _, h1, h2, h3⟩ := h.2 kv hk
    rw [e]
    exact keys3_mem h1 h2 h3
  rw [List.length_map] at h1
  exact Nat.lt_of_le_of_lt h1 (by decide +kernel)
theorem val_out {kvs : List (List Key × V)} {k : List Key} (h : valV kvs k = none) : ¬ k ∈ kvs.map (·.1) := fun hm => by
  have e := valV_any k kvs
  rw [h] at e
  obtain ⟨kv, h1, h2⟩ := List.mem_map.mp hm
  have : (kvs.any fun kv => decide (kv.1 = k)) = true := List.any_eq_true.mpr ⟨kv, h1, decide_eq_true h2⟩
  rw [this] at e
  cases e
theorem key3_inj {t b g t' b' g' : Nat} (h : key3 t b g = key3 t' b' g') : t = t' ∧ b = b' ∧ g = g' := by
  injection h with h1 h
  injection h with h2 h
  injection h with h3 _
  injection h1 with h1
  injection h2 with h2
  injection h3 with h3
  exact ⟨Int.ofNat.inj h1, Int.ofNat.inj h2, Int.ofNat.inj h3⟩
theorem KwOk.val {kvs : List (List Key × V)} (h : KwOk kvs) {t b g : Nat} {v : V} (e : valV kvs (key3 t b g) = some v) : v = .int (shareOf t b g) := by
  unfold valV at e
  cases q : kvs.find? fun kv => decide (kv.1 = key3 t b g) with
  | none =>
    rw [q] at e
    cases e
  | some kv =>
    rw [q] at e
    obtain rfl : kv.2 = v := Option.some.inj e
    have h1 : kv.1 = key3 t b g := by simpa using List.find?_some q
    obtain ⟨t', b', g', e1, e2, _⟩ := h.2 kv (List.mem_of_find?_eq_some q)
    rw [e1] at h1
    obtain ⟨rfl, rfl, rfl⟩ := key3_inj h1
    exact e2
theorem KwOk.put {kvs : List (List Key × V)} (h : KwOk kvs) {t b g : Nat} (ht : t < 100) (hb : b < 3) (hg : g < 3) : KwOk (putK kvs (key3 t b g) (.int (shareOf t b g))) ∧ valV (putK kvs (key3 t b g) (.int (shareOf t b g))) (key3 t b g) = some (.int (shareOf t b g)) := by
  refine ⟨?_, by rw [valV_put, if_pos rfl]⟩
  cases q : valV kvs (key3 t b g) with
  | none =>
    rw [putK_new _ q]
    refine ⟨?_, fun kv hk => ?_⟩
    · rw [List.map_append, List.nodup_append]
      refine ⟨h.1, by simp, fun a ha z hz e => ?_⟩
      obtain rfl : z = _ := List.mem_singleton.mp hz
      have e : a = key3 t b g := e
      subst e
      exact val_out q ha
    · rcases List.mem_append.mp hk with hk | hk
      · exact h.2 kv hk
      · obtain rfl := List.mem_singleton.mp hk
        exact ⟨t, b, g, rfl, rfl, ht, hb, hg⟩
  | some v =>
    have e := h.val q
    subst e
    have e2 : putK kvs (key3 t b g) (.int (shareOf t b g)) = kvs := by
      unfold putK
      rw [valV_any, q]
      simp only [Option.isSome_some, if_true]
      conv => rhs; rw [← List.map_id kvs]
      refine List.map_congr_left fun kv hk => ?_
      by_cases e : kv.1 = key3 t b g
      · rw [if_pos e]
        obtain ⟨t', b', g', e1, e3, _⟩ := h.2 kv hk
        rw [e1] at e
        obtain ⟨rfl, rfl, rfl⟩ := key3_inj e
        rw [← e3]
        rfl
      · rw [if_neg e]
        rfl
    rw [e2]
    exact h
def KnW (H : Hp) (d : Addr) : Prop := ∃ kvs, H d = some (.dT kvs) ∧ KwOk kvs
def spWeight (n : Nat) : Sp := fun vs H Q _ => ∃ (t b g : Nat) (d : Addr), vs = [.int t, .int b, .int g, .ref d] ∧ t < n ∧ t < 100 ∧ b < 3 ∧ g < 3 ∧ KnW H d ∧ ∀ H', Keep (fun x => x = d) H H' → KnW H' d → Q (.int (shareOf t b g)) H'
def shB (t b g : Nat) : Nat := if b = 0 then 0 else shareOf t (b - 1) g
def shG (t b g : Nat) : Nat := if g = 0 then 0 else shareOf t b (g - 1)
theorem share_succ (t b g : Nat) : shareOf (t + 1) b g = shareOf t b g + min (shB t b g) (shG t b g) := rfl
theorem b_weight_of (B : Bt mg) (n : Nat) (c_weight_of : Cal P w K mg base (n + 1) "weight_of" (spWeight n)) : Bd P w K mg base N_weight_of "weight_of" s_weight_of (n + 1) (spWeight (n + 1)) := by
  rintro f cdv A outer s H vs Q E hr ⟨t, b, g, d, rfl, ht, ht2, hb, hg, ⟨kvs, ed, ok⟩, post⟩
  refine ⟨_, pss_cons (ps_if (pt_cmpR op_eq (pv 0) (pe_int) (nomark _)) (pss_one (ps_ret (pe_int))) pss_nil)
    (pss_cons (ps_set (i := 4) sc_weight_of.nd rfl (Or.inl rfl) (pe_tup (pa_cons (pv 0) (pa_cons (pv 1) (pa_cons (pv 2) pa_nil)))))
    (C8.pss_cut (ps_if (pt_cmp (pc_dnotin (hu_of hr) (pv 4) (pv 3))) (C8.pss_cut (ps_set (i := 5) sc_weight_of.nd rfl (Or.inl rfl) (pe_ifExp (pt_cmpR op_gt (pv 1) (pe_int) (nomark _)) (pe_c c_weight_of hr (by omega) rfl (pa_cons (pe_op op_sub (pv 0) (pe_int)) (pa_cons (pe_op op_sub (pv 1) (pe_int)) (pa_cons (pv 2) (pa_cons (pv 3) pa_nil))))) (pe_int)))
    (C8.pss_cut (ps_set (i := 6) sc_weight_of.nd rfl (Or.inl rfl) (pe_ifExp (pt_cmpR op_gt (pv 2) (pe_int) (nomark _)) (pe_c c_weight_of hr (by omega) rfl (pa_cons (pe_op op_sub (pv 0) (pe_int)) (pa_cons (pv 1) (pa_cons (pe_op op_sub (pv 2) (pe_int)) (pa_cons (pv 3) pa_nil))))) (pe_int)))
    (pss_one (ps_dput (hu_of hr) (pv 3) (pv 4) (pe_op op_add (pe_c c_weight_of hr (by omega) rfl (pa_cons (pe_op op_sub (pv 0) (pe_int)) (pa_cons (pv 1) (pa_cons (pv 2) (pa_cons (pv 3) pa_nil))))) (pe_callB (call_min2 rfl) rfl B.min PyProof.Rows.boot_min (pa_cons (pv 5) (pa_cons (pv 6) pa_nil)))) rfl)))) pss_nil)
    (pss_one (ps_ret (pe_dget (hu_of hr) (pv 3) (pv 4) (fun _ _ => rfl)))))), ?_⟩
  refine ⟨_, rfl, rfl, _, rfl, ifB (fun h => ?_) fun h => ?_⟩
  · have h : V.int (t : Int) = V.int 0 := of_decide_eq_true h
    injection h with h
    obtain rfl : t = 0 := by omega
    exact post H .refl ⟨kvs, ed, ok⟩
  have h : ¬ V.int (t : Int) = V.int 0 := of_decide_eq_false h
  obtain ⟨t, rfl⟩ : ∃ u, t = u + 1 := ⟨t - 1, by have : t ≠ 0 := fun z => h (by rw [z]; rfl); omega⟩
  refine ⟨_, rfl, _, rfl, _, rfl, three_le, fun p hp => ?_⟩
  have npd : d ≠ p := ne_of_none ed hp
  have kp : Kp H (upd H p (.tup [.int ((t + 1 : Nat) : Int), .int b, .int g])) := Keep.new hp
  have ep : upd H p (.tup [.int ((t + 1 : Nat) : Int), .int b, .int g]) p = some (.tup ((key3 (t + 1) b g).map kV)) := upd_same
  have ed1 := kp.at ed
  generalize upd H p (.tup [.int ((t + 1 : Nat) : Int), .int b, .int g]) = H1 at kp ep ed1
  refine ⟨fun σ' H' => (∃ v1 v2 : Option V, σ' = [some (.int (t + 1 : Nat)), some (.int b), some (.int g), some (.ref d), some (.ref p), v1, v2]) ∧ Keep (fun x => x = d) H1 H' ∧ ∃ kvs', H' d = some (.dT kvs') ∧ KwOk kvs' ∧ valV kvs' (key3 (t + 1) b g) = some (.int (shareOf (t + 1) b g)), ?_, ?_⟩
  · refine ⟨_, rfl, _, rfl, d, _, rfl, DGet.t ed1 ep, _, rfl, ifB (fun q => ?_) fun q => ?_⟩
    · have sub : ∀ (t : Nat), ((t + 1 : Nat) : Int) - 1 = t := fun t => by omega
      refine ⟨fun σ' H' => σ' = [some (.int (t + 1 : Nat)), some (.int b), some (.int g), some (.ref d), some (.ref p), some (.int (shB t b g)), none] ∧ Keep (fun x => x = d) H1 H' ∧ KnW H' d, ?_, ?_⟩
      · refine ⟨_, rfl, _, _, rfl, rfl, _, rfl, ifB (fun h => ?_) fun h => ?_⟩
        · have h : (0 : Int) < b := of_decide_eq_true h
          refine ⟨_, rfl, _, _, rfl, rfl, _, rfl, _, _, rfl, rfl, _, rfl, _, rfl, t, b - 1, g, d, ?_, by omega, by omega, by omega, hg, ⟨kvs, ed1, ok⟩, fun H' k' kn => ⟨?_, k', kn⟩⟩
          · have e : ((b - 1 : Nat) : Int) = (b : Int) - 1 := by omega
            show [V.int (((t + 1 : Nat) : Int) - 1), V.int ((b : Int) - 1), V.int g, V.ref d] = _
            rw [sub t, e]
          · rw [shB, if_neg (by omega)]
            rfl
        · have h : ¬ (0 : Int) < b := of_decide_eq_false h
          refine ⟨?_, .refl, kvs, ed1, ok⟩
          rw [shB, if_pos (by omega)]
          rfl
      rintro σ' H2 ⟨rfl, k2, kvs2, ed2, ok2⟩
      refine ⟨fun σ' H' => σ' = [some (.int (t + 1 : Nat)), some (.int b), some (.int g), some (.ref d), some (.ref p), some (.int (shB t b g)), some (.int (shG t b g))] ∧ Keep (fun x => x = d) H1 H' ∧ KnW H' d, ?_, ?_⟩
      · refine ⟨_, rfl, _, _, rfl, rfl, _, rfl, ifB (fun h => ?_) fun h => ?_⟩
        · have h : (0 : Int) < g := of_decide_eq_true h
          refine ⟨_, rfl, _, _, rfl, rfl, _, rfl, _, rfl, _, _, rfl, rfl, _, rfl, t, b, g - 1, d, ?_, by omega, by omega, hb, by omega, ⟨kvs2, ed2, ok2⟩, fun H' k' kn => ⟨?_, k2.trans k', kn⟩⟩
          · have e : ((g - 1 : Nat) : Int) = (g : Int) - 1 := by omega
            show [V.int (((t + 1 : Nat) : Int) - 1), V.int b, V.int ((g : Int) - 1), V.ref d] = _
            rw [sub t, e]
          · rw [shG, if_neg (by omega)]
            rfl
        · have h : ¬ (0 : Int) < g := of_decide_eq_false h
          refine ⟨?_, k2, kvs2, ed2, ok2⟩
          rw [shG, if_pos (by omega)]
          rfl
      rintro σ' H3 ⟨rfl, k3, kvs3, ed3, ok3⟩
      refine ⟨_, rfl, _, _, rfl, rfl, _, rfl, _, rfl, _, rfl, t, b, g, d, (by show [V.int (((t + 1 : Nat) : Int) - 1), V.int b, V.int g, V.ref d] = _; rw [sub t]), by omega, by omega, hb, hg, ⟨kvs3, ed3, ok3⟩, fun H4 k4 ⟨kvs4, ed4, ok4⟩ => ?_⟩
      refine ⟨_, rfl, _, rfl, _, _, rfl, _, _, rfl, rfl, ?_⟩
      have e : (shareOf t b g : Int) + (if (shG t b g : Int) < shB t b g then (shG t b g : Int) else shB t b g) = (shareOf (t + 1) b g : Nat) := by
        rw [share_succ]
        by_cases z : shG t b g < shB t b g
        · rw [if_pos (by omega), Nat.min_eq_right (by omega)]
          omega
        · rw [if_neg (by omega), Nat.min_eq_left (by omega)]
          omega
      have pt := ok4.put (t := t + 1) (b := b) (g := g) (by omega) hb hg
      refine ⟨_, rfl, _, rfl, d, _, rfl, (by
        have z := DPut.t (v := .int (shareOf (t + 1) b g : Nat)) ed4 ((k3.trans k4).tup _ _ ep) ok4.len
        rw [← e] at z
        exact z), ?_⟩
      rw [e]
      exact ⟨⟨_, _, rfl⟩, (k3.trans k4).trans (Keep.put rfl ed4 (by intro z; exact HO.noConfusion) (by intro z w; exact HO.noConfusion)), _, upd_same, pt.1, pt.2⟩
    · refine ⟨⟨_, _, rfl⟩, .refl, kvs, ed1, ok, ?_⟩
      cases z : valV kvs (key3 (t + 1) b g) with
      | none =>
        have z' : valV kvs [Sum.inl ((t + 1 : Nat) : Int), Sum.inl (b : Int), Sum.inl (g : Int)] = none := z
        rw [z'] at q
        exact absurd q (by decide)
      | some v => rw [ok.val z]
  rintro σ' H4 ⟨⟨v1, v2, rfl⟩, k4, kvs4, ed4, ok4, va⟩
  exact ⟨_, rfl, _, rfl, d, _, rfl, (by have z := DGet.t ed4 (k4.tup _ _ ep); rw [va] at z; exact z), post H4 ((Kp.to kp).trans k4) ⟨kvs4, ed4, ok4⟩⟩
theorem ok_weight_of (B : Bt mg) (D : Df K mg "weight_of" s_weight_of ["tests", "bad", "good", "known"]) : ∀ n, Cal P w K mg base (n + 1) "weight_of" (spWeight n)
  | 0 => D.cal sc_weight_of (fun vs H Q E h => by obtain ⟨t, b, g, d, rfl, _⟩ := h; rfl) (by
      rintro f cdv A outer s H vs Q E hr ⟨t, b, g, d, rfl, ht, _⟩
      exact absurd ht (by omega))
  | n + 1 => D.cal sc_weight_of (fun vs H Q E h => by obtain ⟨t, b, g, d, rfl, _⟩ := h; rfl) (b_weight_of B n (ok_weight_of B D n))
/-! ### least_by_weight -/
def spLeast : Sp := fun vs H Q _ => ∃ n p q : Nat, vs = [.int n, .int p, .int q] ∧ n ≤ 10 ∧ p ≤ 2 ∧ q ≤ 2 ∧ ∀ H', Kp H H' → Q (.int (leastByWeight (startOf n p q))) H'
theorem least_le (n p q : Nat) : leastByWeight (startOf n p q) ≤ n * (p + q + 1) := by
  unfold leastByWeight
  rw [sumOf_start]
  cases e : List.find? (fun d => decide (R7286g.Spec.weight d (startOf n p q) ≤ 2 ^ d)) (List.range (n * (p + q + 1) + 1)) with
  | none => exact Nat.zero_le _
  | some d =>
    have := List.mem_range.mp (List.mem_of_find?_eq_some e)
    show d ≤ _
    omega
theorem b_least_by_weight (B : Bt mg) (c_weight_of : Cal P w K mg base 61 "weight_of" (spWeight 60)) : Bd P w K mg base N_least_by_weight "least_by_weight" s_least_by_weight 61 spLeast := by
  rintro f cdv A outer s H vs Q E hr ⟨n, p, q, rfl, hn, hp, hq, post⟩
  refine ⟨_, pss_cons (ps_par (i := 3) (j := 4) rfl sc_least_by_weight.nd rfl rfl (by decide) rfl rfl (pa_cons (pe_int) (pa_cons (pe_dnewT) pa_nil)) rfl)
    (pss_cons (ps_while PassesOwn.never (pt_cmpR op_gt (pe_op op_mul (pv 0) (pe_c c_weight_of hr (by omega) rfl (pa_cons (pv 3) (pa_cons (pv 1) (pa_cons (pv 2) (pa_cons (pv 4) pa_nil)))))) (pe_op op_shl (pe_int) (pv 3)) (nomark _)) (pss_one (ps_aug (i := 3) sc_least_by_weight.nd rfl (Or.inl rfl) (pe_int) ip_add)))
    (pss_one (ps_ret (pv 3)))), ?_⟩
  have L1 := light_least (n := n) (p := p) (q := q) hn hp hq
  have L2 : leastByWeight (startOf n p q) ≤ 50 := Nat.le_trans (least_le n p q) (Nat.le_trans (Nat.mul_le_mul hn (by omega : p + q + 1 ≤ 5)) (by decide))
  generalize leastByWeight (startOf n p q) = L at L1 L2 post
  intro d hd
  refine ⟨_, _, rfl, while_by (fun σ H' => ∃ t : Nat, σ = [some (.int n), some (.int p), some (.int q), some (.int t), some (.ref d)] ∧ t ≤ L ∧ Kp H H' ∧ KnW H' d) (fun (σ : List (Option V)) _ => match σ[3]? with
    | some (some (V.int t)) => L - t.toNat
    | _ => 0) ⟨0, rfl, Nat.zero_le _, Keep.new hd, [], upd_same, List.nodup_nil, fun _ h => absurd h (List.not_mem_nil)⟩ ?_ ?_⟩
  · rintro σ H1 ⟨t, rfl, ht, k1, kn⟩
    refine ⟨_, rfl, _, rfl, _, rfl, _, rfl, _, rfl, t, p, q, d, rfl, by omega, by omega, by omega, by omega, kn, fun H2 k2 kn2 => ?_⟩
    have k3 : Kp H H2 := k1.away hd k2
    refine ⟨_, _, rfl, rfl, .inl ⟨by omega, by omega⟩, _, rfl, _, _, rfl, rfl, ⟨by omega, by omega, by decide⟩, _, _, rfl, rfl, _, rfl, ?_⟩
    have e2 : ((1 : Int) * 2 ^ (t : Int).toNat) = ((2 ^ t : Nat) : Int) := by simp
    have e1 : ((n : Int) * (shareOf t p q : Nat)) = ((n * shareOf t p q : Nat) : Int) := by simp
    rw [e1, e2]
    refine ifB (fun h => ?_) fun h => ?_
    · have h : ((2 ^ t : Nat) : Int) < ((n * shareOf t p q : Nat) : Int) := of_decide_eq_true h
      have h : 2 ^ t < n * shareOf t p q := by exact_mod_cast h
      have hlt : t < L := by
        refine Nat.lt_of_le_of_ne ht fun e => ?_
        rw [e] at h
        omega
      refine ⟨_, rfl, _, _, rfl, rfl, ⟨t + 1, rfl, hlt, k3, kn2⟩, ?_⟩
      show L - ((t : Int) + 1).toNat < L - (t : Int).toNat
      omega
    · have h : ¬ ((2 ^ t : Nat) : Int) < ((n * shareOf t p q : Nat) : Int) := of_decide_eq_false h
      have h : ¬ 2 ^ t < n * shareOf t p q := fun z => h (by exact_mod_cast z)
      have e : t = L := by
        rcases Nat.lt_or_ge t L with z | z
        · exact absurd (L1.2 t z) h
        · omega
      subst e
      exact ⟨_, rfl, post _ k3⟩
  · rintro σ H Q Q' i ⟨v0, e0, v1, e1, v2, e2, v3, e3, v4, e4, t, p, q, d, e, h1, h2, h3, h4, kn, post⟩
    refine ⟨v0, e0, v1, e1, v2, e2, v3, e3, v4, e4, t, p, q, d, e, h1, h2, h3, h4, kn, fun H2 k2 kn2 => ?_⟩
    obtain ⟨i1, j1, a1, a2, a3, v5, e5, i2, j2, a4, a5, a6, i3, j3, a7, a8, k, a9, qq⟩ := post H2 k2 kn2
    exact ⟨i1, j1, a1, a2, a3, v5, e5, i2, j2, a4, a5, a6, i3, j3, a7, a8, k, a9, i _ _ qq⟩
end
end Fs

/-! counterexample. -/
namespace Fs
open PySem PySem.Spec PyProof.Rows L2 L2H
open R7286g.Spec (Candidate startOf afterAnswer Plan planError)
/-- a plan as it lies in the heap: a whole number, or a tuple of three -/
def PlanAt (H : Hp) : V → Plan → Prop
  | v, .tell n => v = .int n
  | v, .test k x y => ∃ t vx vy, v = .ref t ∧ H t = some (.tup [.int k, vx, vy]) ∧ PlanAt H vx x ∧ PlanAt H vy y
theorem PlanAt.mono {F : Addr → Prop} {H H' : Hp} (k : Keep F H H') : ∀ {p : Plan} {v : V}, PlanAt H v p → PlanAt H' v p
  | .tell n, v, h => h
  | .test j x y, v, ⟨t, vx, vy, e, h, hx, hy⟩ => ⟨t, vx, vy, e, k.tup _ _ h, PlanAt.mono k hx, PlanAt.mono k hy⟩
section
variable {P : Program} {w : World} {K : PySem.W.Frag} {mg : Str → Option Value} {base : Heap}
def otherF (n : Nat) (c : Candidate) : Option Nat := if c.version != n then some c.version else none
theorem others_find (n : Nat) : ∀ l : List Candidate, (l.filterMap (otherF n)).head? = (l.find? fun c => c.version != n).map (·.version)
  | [] => rfl
  | c :: l => by
    rw [List.filterMap_cons, List.find?_cons, otherF]
    cases h : (c.version != n) with
    | true => rfl
    | false => exact others_find n l
def outOf (as : List Bool) (o : Option (Nat × List Bool)) (v : V) (H : Hp) : Prop := match o with
  | none => v = .non
  | some e => ∃ t a, v = .ref t ∧ H t = some (.tup [.int e.1, .ref a]) ∧ H a = some (.lst ((as ++ e.2).map V.bl))
def spCounter (n : Nat) : Sp := fun vs H Q _ => ∃ (a c : Addr) (v : V) (l : List Candidate) (p : Plan) (as : List Bool), vs = [.ref a, v, .ref c] ∧ p.depth < n ∧ as.length + p.depth ≤ 1000 ∧ LeftAt H a l ∧ l.length ≤ 1000 ∧ PlanAt H v p ∧ H c = some (.lst (as.map V.bl)) ∧
  ∀ H' u, Kp H H' → outOf as (planError p l) u H' → Q u H'
theorem b_counterexample (B : Bt mg) (n : Nat) (c_left_by : Cal P w K mg base 1 "left_by" spLeftBy) (c_counterexample : Cal P w K mg base (n + 2) "counterexample" (spCounter n)) : Bd P w K mg base N_counterexample "counterexample" s_counterexample (n + 2) (spCounter (n + 1)) := by
  rintro f cdv A outer s H vs Q E hr ⟨a, c, v, l, p, as, rfl, hd, hn, la, hl, hp, hc, post⟩
  refine ⟨_, pss_cons (ps_if (pt_not (pt_truth (pe_callB call_isi rfl B.isinstance PyProof.Rows.boot_isinstance (pa_cons (pv 1) (pa_cons (pe_bltn (v := .ty "tuple") rfl B.tuple PyProof.Rows.boot_tuple rfl) pa_nil))) (fun _ => rfl))) (pss_cons (ps_setLc (i := 3) (own := [("one", 7)]) (g := (gName 7)) (te := (tOp (rIx K) (tVar 7) (tC (.int 0)))) (tt := tTest (tOp _ (tOp (rIx K) (tVar 7) (tC (.int 0))) (tVar 1))) rfl sc_counterexample.nd rfl rfl (sw_true rfl rfl rfl (by decide +kernel)) (pi_list (pv 0)) (blkOk_by (N := N_counterexample) (sc := defScope s_counterexample) (by decide +kernel)) (fun _ _ _ _ _ => by exact pg_name (i := 7) sc_counterexample.nd rfl (Or.inl rfl)) (fun _ _ _ _ _ => by exact pts_one (pt_cmpR op_ne (pe_ix ix_seq (pv 7) (pe_int) (fun _ _ => rfl)) (pv 1) (nomark _))) (fun _ _ _ _ _ => by exact pe_ix ix_seq (pv 7) (pe_int) (fun _ _ => rfl)))
    (pss_one (ps_ret (pe_ifExp (pt_truth (pv 3) (fun _ => rfl)) (pe_tup (pa_cons (pe_ix ix_seq (pv 3) (pe_int) (fun _ _ => rfl)) (pa_cons (pv 2) pa_nil))) (pe_non))))) pss_nil)
    (pss_cons (ps_for PassesOwn.never rfl (pi_tup (pe_tup (pa_cons (pe_tup (pa_cons (pe_bl) (pa_cons (pe_ix ix_seq (pv 1) (pe_int) (fun _ _ => rfl)) pa_nil))) (pa_cons (pe_tup (pa_cons (pe_bl) (pa_cons (pe_ix ix_seq (pv 1) (pe_int) (fun _ _ => rfl)) pa_nil))) pa_nil)))) (pg_tup rfl (pgs_cons (pg_name (i := 4) sc_counterexample.nd rfl (Or.inl rfl)) (pgs_cons (pg_name (i := 5) sc_counterexample.nd rfl (Or.inl rfl)) pgs_nil))) (pss_cons (ps_set (i := 6) sc_counterexample.nd rfl (Or.inl rfl) (pe_c c_counterexample hr (by omega) rfl (pa_cons (pe_c c_left_by hr (by omega) rfl (pa_cons (pv 0) (pa_cons (pe_ix ix_seq (pv 1) (pe_int) (fun _ _ => rfl)) (pa_cons (pv 4) pa_nil)))) (pa_cons (pv 5) (pa_cons (pe_op op_cat (pv 2) (pe_lst (pa_cons (pv 4) pa_nil))) pa_nil)))))
    (pss_one (ps_if (pt_cmpR op_notN (pv 6) (pe_non) (nomark _)) (pss_one (ps_ret (pv 6))) pss_nil))))
    (pss_one (ps_ret (pe_non)))), ?_⟩
  cases p with
  | tell m =>
    obtain rfl : v = .int m := hp
    obtain ⟨ts, ea, pr⟩ := la
    refine ⟨_, rfl, _, _, _, _, _, rfl, .ty _, .base (.int _), kit_ty (a := "int") (b := "tuple") (r := false) (by decide +kernel), _, rfl, ?_⟩
    refine ifT rfl ?_
    refine ⟨_, rfl, a, rfl, ⟨ts, .of ea⟩, fun D hD => ?_⟩
    refine lcG (F := fun _ => False) (cs := l) (by rw [← pr.length]; exact walk_list (.of ea) fun f => f) (otherF m) (fun _ => True) (fun _ y b => y = V.int (b : Nat)) (fun f => f) hD (lenL (by omega)) trivial (fun _ _ _ h => h) (fun _ _ _ _ _ r => r) (fun i c' x H1 Qn Qy hc' it k _ h1 h2 => ?_) fun H1 ys k _ e p => ?_
    · obtain ⟨c2, hc2, u, rfl, eu⟩ := pd_get pr it
      obtain rfl : c' = c2 := by
        rw [hc'] at hc2
        exact Option.some.inj hc2
      have eu1 := k.tup _ _ eu
      refine ⟨rfl, ?_⟩
      refine ⟨_, rfl, .inr (.inl ⟨u, _, 0, _, rfl, rfl, .of eu1, atI_nat (j := 0) rfl, _, rfl, rfl, _, rfl, ifB (fun h => ?_) fun h => ?_⟩)⟩
      · have h : ¬ V.int (c'.version : Int) = V.int (m : Int) := by simpa using h
        have e1 : otherF m c' = some c'.version := if_pos (by simp; exact fun z => h (by rw [z]))
        exact ⟨_, rfl, .inr (.inl ⟨u, _, 0, _, rfl, rfl, .of eu1, atI_nat (j := 0) rfl, h2 _ e1 _ _ .refl trivial rfl⟩)⟩
      · have h : V.int (c'.version : Int) = V.int (m : Int) := by simpa using h
        injection h with h
        have e1 : otherF m c' = none := if_neg (by simp; omega)
        exact h1 e1 _ .refl trivial
    · have e2 := pd_eq p
      have hf := others_find m l
      have epl : planError (.tell m) l = (l.find? fun c => c.version != m).map fun c => (c.version, []) := rfl
      refine ⟨_, rfl, _, .inl ⟨ys, .of e, rfl⟩, ifB (fun h => ?_) fun h => ?_⟩
      · cases eo : l.filterMap (otherF m) with
        | nil =>
          rw [e2, eo] at h
          cases h
        | cons b r =>
          rw [eo] at e2 hf
          subst e2
          refine ⟨_, rfl, .inl ⟨D, _, 0, _, rfl, rfl, .of e, atI_nat (j := 0) rfl, _, rfl, two_le, fun t ht => post _ _ (k.snoc ht) ?_⟩⟩
          cases ef : l.find? (fun c => c.version != m) with
          | none =>
            rw [ef] at hf
            cases hf
          | some c3 =>
            rw [ef] at hf
            have e5 : b = c3.version := Option.some.inj hf
            rw [epl, ef, e5]
            exact ⟨t, c, rfl, upd_same, by rw [upd_ne (ne_of_none (kat k hc) ht), kat k hc, List.append_nil]⟩
      · cases eo : l.filterMap (otherF m) with
        | nil =>
          rw [eo] at hf
          refine post _ _ k ?_
          cases ef : l.find? (fun c => c.version != m) with
          | none =>
            rw [epl, ef]
            rfl
          | some c3 =>
            rw [ef] at hf
            cases hf
        | cons b r =>
          rw [e2, eo] at h
          cases h
  | test j x y =>
    obtain ⟨u, vx, vy, rfl, eu, hx, hy⟩ := hp
    have hdx : x.depth < n := by have : max x.depth y.depth + 1 < n + 1 := hd; omega
    have hdy : y.depth < n := by have : max x.depth y.depth + 1 < n + 1 := hd; omega
    have hnx : as.length + 1 + x.depth ≤ 1000 := by have : as.length + (max x.depth y.depth + 1) ≤ 1000 := hn; omega
    have hny : as.length + 1 + y.depth ≤ 1000 := by have : as.length + (max x.depth y.depth + 1) ≤ 1000 := hn; omega
    refine ⟨_, rfl, _, _, _, _, _, rfl, .ty _, .base (.tup eu), kit_ty (a := "tuple") (b := "tuple") (r := true) (by decide +kernel), _, rfl, ?_⟩
    refine ifF rfl ?_
    -- the tuple of two
    refine ⟨_, rfl, .inr (.inl ⟨u, _, 1, _, rfl, rfl, .of eu, atI_nat (j := 1) rfl, two_le, fun t1 n1 => ?_⟩)⟩
    have k1 : Kp H (upd H t1 (.tup [.bl true, vx])) := Keep.new n1
    have e1 : upd H t1 (.tup [.bl true, vx]) t1 = some (.tup [.bl true, vx]) := upd_same
    generalize upd H t1 (.tup [.bl true, vx]) = H1 at k1 e1
    refine ⟨_, rfl, .inr (.inl ⟨u, _, 2, _, rfl, rfl, .of (k1.at eu), atI_nat (j := 2) rfl, two_le, fun t2 n2 => ⟨two_le, fun t3 n3 => ?_⟩⟩)⟩
    have k2 : Kp H1 (upd H1 t2 (.tup [.bl false, vy])) := Keep.new n2
    have e2 : upd H1 t2 (.tup [.bl false, vy]) t2 = some (.tup [.bl false, vy]) := upd_same
    generalize upd H1 t2 (.tup [.bl false, vy]) = H2 at k2 e2 n3
    have k3 : Kp H2 (upd H2 t3 (.tup [.ref t1, .ref t2])) := Keep.new n3
    have e3 : upd H2 t3 (.tup [.ref t1, .ref t2]) t3 = some (.tup [.ref t1, .ref t2]) := upd_same
    generalize upd H2 t3 (.tup [.ref t1, .ref t2]) = H3 at k3 e3
    have kk : Kp H H3 := (k1.trans k2).trans k3
    have epl : planError (.test j x y) l = (match planError x (afterAnswer l j true) with
      | some e => some (e.1, true :: e.2)
      | none => (planError y (afterAnswer l j false)).map fun e => (e.1, false :: e.2)) := rfl
    refine ⟨t3, rfl, ⟨_, .of e3⟩, for_tup (K := K) (a := t3) (xs := [.ref t1, .ref t2]) (fun i σ H' => ∃ v3 v4 v5 v6 v7 : Option V, σ = [some (.ref a), some (.ref u), some (.ref c), v3, v4, v5, v6, v7] ∧ Kp H3 H' ∧ (1 ≤ i → planError x (afterAnswer l j true) = none) ∧ (2 ≤ i → planError y (afterAnswer l j false) = none))
      ⟨none, none, none, none, none, rfl, .refl, fun z => absurd z (by omega), fun z => absurd z (by omega)⟩ (fun i σ H' _ ⟨_, _, _, _, _, _, kp, _⟩ => .of (kp.at e3)) ?_ ?_⟩
    · rintro i xx σ H4 hi ⟨v3, v4, v5, v6, v7, rfl, k4, p1, p2⟩
      obtain ⟨ib, z, vz, t, rfl, et, hz, hzd, hzn, next, got⟩ : ∃ (ib : Bool) (z : Plan) (vz : V) (t : Addr), xx = .ref t ∧ H3 t = some (.tup [.bl ib, vz]) ∧ PlanAt H3 vz z ∧ z.depth < n ∧ as.length + 1 + z.depth ≤ 1000 ∧
          (planError z (afterAnswer l j ib) = none → (1 ≤ i + 1 → planError x (afterAnswer l j true) = none) ∧ (2 ≤ i + 1 → planError y (afterAnswer l j false) = none)) ∧ (∀ e, planError z (afterAnswer l j ib) = some e → planError (.test j x y) l = some (e.1, ib :: e.2)) := by
        match i, hi with
        | 0, hi =>
          obtain rfl : V.ref t1 = xx := Option.some.inj hi
          exact ⟨true, x, vx, t1, rfl, kat (k2.trans k3) e1, hx.mono kk, hdx, hnx, fun e => ⟨fun _ => e, fun z => absurd z (by omega)⟩, fun e h => by rw [epl, h]⟩
        | 1, hi =>
          obtain rfl : V.ref t2 = xx := Option.some.inj hi
          exact ⟨false, y, vy, t2, rfl, k3.at e2, hy.mono kk, hdy, hny, fun e => ⟨fun _ => p1 (Nat.le_refl _), fun _ => e⟩, fun e h => by rw [epl, p1 (Nat.le_refl _), h]; rfl⟩
      have k5 : Kp H H4 := kk.trans k4
      refine ⟨t, _, rfl, .of (k4.at et), rfl, _, _, rfl, _, _, rfl, rfl, ?_⟩
      refine ⟨_, rfl, _, rfl, .inr (.inl ⟨u, _, 0, _, rfl, rfl, .of (k5.at eu), atI_nat (j := 0) rfl, _, rfl, a, j, ib, l, rfl, la.kp k5, hl, fun H5 r k6 n6 l6 => ?_⟩)⟩
      refine ⟨_, rfl, _, rfl, _, rfl, (by show 1 ≤ sizeLine; decide), fun q nq => ?_⟩
      have k7 : Kp H H5 := k5.trans k6
      have kq : Kp H5 (upd H5 q (.lst [.bl ib])) := Keep.new nq
      have eq : upd H5 q (.lst [.bl ib]) q = some (.lst [.bl ib]) := upd_same
      generalize upd H5 q (.lst [.bl ib]) = H6 at kq eq
      refine ⟨c, q, _, _, rfl, rfl, kat (k7.trans kq) hc, eq, (by show (as.map V.bl).length + 1 ≤ sizeLine; rw [List.length_map]; exact lenL (by omega)), fun q2 nq2 => ?_⟩
      have kq2 : Kp H6 (upd H6 q2 (.lst (as.map V.bl ++ [.bl ib]))) := Keep.new nq2
      have eq2 : upd H6 q2 (.lst (as.map V.bl ++ [.bl ib])) q2 = some (.lst ((as ++ [ib]).map V.bl)) := by rw [upd_same, List.map_append]; rfl
      generalize upd H6 q2 (.lst (as.map V.bl ++ [.bl ib])) = H7 at kq2 eq2
      have k8 : Kp H5 H7 := kq.trans kq2
      have k9 : Kp H3 H7 := (k4.trans k6).trans k8
      refine ⟨r, q2, vz, afterAnswer l j ib, z, as ++ [ib], rfl, hzd, by rw [List.length_append]; exact hzn, l6.kp k8, Nat.le_trans (after_len _ _ _) hl, hz.mono k9, eq2, fun H8 v8 k10 o => ?_⟩
      have k11 : Kp H3 H8 := k9.trans k10
      refine ⟨_, rfl, rfl, _, rfl, ifB (fun h => ?_) fun h => ?_⟩
      · cases eo : planError z (afterAnswer l j ib) with
        | none =>
          rw [eo] at o
          obtain rfl : v8 = .non := o
          cases h
        | some e =>
          rw [eo] at o
          refine ⟨_, rfl, post _ _ (kk.trans k11) ?_⟩
          rw [got e eo]
          obtain ⟨t', a', rfl, h1, h2⟩ := o
          exact ⟨t', a', rfl, h1, by rw [h2, List.append_assoc]; rfl⟩
      · cases eo : planError z (afterAnswer l j ib) with
        | none =>
          exact ⟨_, _, _, _, _, rfl, k11, next eo⟩
        | some e =>
          rw [eo] at o
          obtain ⟨t', a', rfl, _⟩ := o
          have : (!decide (V.ref t' = V.non)) = false := h
          simp at this
    · rintro σ H4 ⟨v3, v4, v5, v6, v7, rfl, k4, p1, p2⟩
      refine post _ _ (kk.trans k4) ?_
      rw [epl, p1 (Nat.le_succ 1), p2 (Nat.le_refl 2)]
      rfl
theorem ok_counterexample (B : Bt mg) (c_left_by : Cal P w K mg base 1 "left_by" spLeftBy) (D : Df K mg "counterexample" s_counterexample ["left", "plan", "answers"]) : ∀ n, Cal P w K mg base (n + 2) "counterexample" (spCounter n)
  | 0 => D.cal sc_counterexample (fun vs H Q E h => by obtain ⟨a, c, v, l, p, as, rfl, _⟩ := h; rfl) (by
      rintro f cdv A outer s H vs Q E hr ⟨a, c, v, l, p, as, rfl, ht, _⟩
      exact absurd ht (by omega))
  | n + 1 => D.cal sc_counterexample (fun vs H Q E h => by obtain ⟨a, c, v, l, p, as, rfl, _⟩ := h; rfl) (b_counterexample B n c_left_by (ok_counterexample B c_left_by D n))
end
end Fs

/-! The planner's memo: how it lies, that it stays small. -/
namespace Fs
open PySem PySem.Spec PyProof.Rows L2 L2H
open R7286g.Spec (Candidate startOf afterAnswer testsOf fewest sumOf bestTest bestPlan Plan)
/-! ### candidates as they come from a start -/
def LR (a b : Candidate) : Prop := a.version < b.version ∧ b.bad ≤ a.bad ∧ a.good ≤ b.good
structure Lf (l : List Candidate) : Prop where
  len : l.length ≤ 10
  lo : ∀ c ∈ l, c.bad ≤ 2 ∧ c.good ≤ 2 ∧ c.version < 10
  pw : l.Pairwise LR
theorem Lf.asc {l : List Candidate} (h : Lf l) : Asc l := h.pw.imp fun r => r.1
theorem Lf.sum {l : List Candidate} (h : Lf l) : sumOf l ≤ 50 := by
  have : ∀ l : List Candidate, (∀ c ∈ l, c.bad ≤ 2 ∧ c.good ≤ 2 ∧ c.version < 10) → sumOf l ≤ 5 * l.length := by
    intro l
    induction l with
    | nil => intro _; exact Nat.zero_le _
    | cons c r ih =>
      intro h
      rw [sumOf_cons, List.length_cons]
      have h1 := h c (List.mem_cons_self ..)
      have h2 := ih fun x hx => h x (List.mem_cons_of_mem _ hx)
      unfold wgt
      omega
  have := this l h.lo
  have := h.len
  omega
theorem Lf.after {l : List Candidate} (h : Lf l) (k : Nat) (b : Bool) : Lf (afterAnswer l k b) := by
  refine ⟨Nat.le_trans (after_len l k b) h.len, fun c hc => ?_, ?_⟩
  · obtain ⟨c0, h0, e⟩ := List.mem_filterMap.mp hc
    have h1 := h.lo c0 h0
    have h2 := after_version e
    unfold Candidate.after at e
    split at e
    · cases e
      exact h1
    · split at e
      · split at e
        · cases e
        · cases e
          exact ⟨by show c0.bad - 1 ≤ 2; omega, h1.2⟩
      · split at e
        · cases e
        · cases e
          exact ⟨h1.1, by show c0.good - 1 ≤ 2; omega, h1.2.2⟩
  · refine List.Pairwise.filterMap _ (fun a a' r x hx y hy => ?_) h.pw
    have hx : a.after k b = some x := hx
    have hy : a'.after k b = some y := hy
    have vx := after_version hx
    have vy := after_version hy
    obtain ⟨r1, r2, r3⟩ := r
    refine ⟨by omega, ?_⟩
    cases b with
    | true =>
      by_cases p : a'.version ≤ k
      · rw [after_true_le p] at hy
        rw [after_true_le (by omega : a.version ≤ k)] at hx
        cases hx
        cases hy
        exact ⟨r2, r3⟩
      · rw [after_true_gt (by omega : k < a'.version)] at hy
        split at hy
        · cases hy
        · cases hy
          by_cases p2 : a.version ≤ k
          · rw [after_true_le p2] at hx
            cases hx
            exact ⟨by show a'.bad - 1 ≤ a.bad; omega, r3⟩
          · rw [after_true_gt (by omega : k < a.version)] at hx
            split at hx
            · cases hx
            · cases hx
              exact ⟨by show a'.bad - 1 ≤ a.bad - 1; omega, r3⟩
    | false =>
      by_cases p : k < a.version
      · rw [after_false_gt p] at hx
        rw [after_false_gt (by omega : k < a'.version)] at hy
        cases hx
        cases hy
        exact ⟨r2, r3⟩
      · rw [after_false_le (by omega : a.version ≤ k)] at hx
        split at hx
        · cases hx
        · cases hx
          by_cases p2 : k < a'.version
          · rw [after_false_gt p2] at hy
            cases hy
            exact ⟨r2, by show a.good - 1 ≤ a'.good; omega⟩
          · rw [after_false_le (by omega : a'.version ≤ k)] at hy
            split at hy
            · cases hy
            · cases hy
              exact ⟨r2, by show a.good - 1 ≤ a'.good - 1; omega⟩
theorem Lf.start {n p q : Nat} (hn : n ≤ 10) (hp : p ≤ 2) (hq : q ≤ 2) : Lf (startOf n p q) := by
  refine ⟨by simp [startOf]; exact hn, fun c hc => ?_, ?_⟩
  · obtain ⟨v, hv, rfl⟩ := List.mem_map.mp hc
    have := List.mem_range.mp hv
    exact ⟨hp, hq, by show v < 10; omega⟩
  · refine List.pairwise_map.mpr (List.pairwise_lt_range.imp fun h => ⟨h, Nat.le_refl _, Nat.le_refl _⟩)
/-! ### profiles are few -/
def PR (a b : Nat × Nat) : Prop := b.1 ≤ a.1 ∧ a.2 ≤ b.2
structure GoodP (p : Prof) : Prop where
  len : p.length ≤ 10
  lo : ∀ x ∈ p, x.1 ≤ 2 ∧ x.2 ≤ 2
  pw : p.Pairwise PR
theorem Lf.prof {l : List Candidate} (h : Lf l) : GoodP (prof l) :=
  ⟨by rw [prof_length]; exact h.len, fun x hx => by
    obtain ⟨c, hc, rfl⟩ := List.mem_map.mp hx
    exact ⟨(h.lo c hc).1, (h.lo c hc).2.1⟩, List.pairwise_map.mpr (h.pw.imp fun r => r.2)⟩
abbrev cb (j : Nat) (p : Prof) : Nat := p.countP fun x => decide (j ≤ x.1)
abbrev cg (j : Nat) (p : Prof) : Nat := p.countP fun x => decide (j ≤ x.2)
theorem cnt_le (j : Nat) (p : Prof) : cb j p ≤ p.length ∧ cg j p ≤ p.length := ⟨List.countP_le_length, List.countP_le_length⟩
theorem cb_cons (j : Nat) (x : Nat × Nat) (p : Prof) : cb j (x :: p) = cb j p + if j ≤ x.1 then 1 else 0 := by
  show List.countP _ _ = _
  rw [List.countP_cons]
  simp
theorem cg_cons (j : Nat) (x : Nat × Nat) (p : Prof) : cg j (x :: p) = cg j p + if j ≤ x.2 then 1 else 0 := by
  show List.countP _ _ = _
  rw [List.countP_cons]
  simp
theorem cb_zero {j : Nat} {p : Prof} (h : ∀ x ∈ p, x.1 < j) : cb j p = 0 := by
  refine List.countP_eq_zero.mpr fun x hx => ?_
  have := h x hx
  simp
  omega
theorem cg_all {j : Nat} {p : Prof} (h : ∀ x ∈ p, j ≤ x.2) : cg j p = p.length := List.countP_eq_length.mpr fun x hx => by simpa using h x hx
theorem prof_same : ∀ {p p' : Prof}, GoodP p → GoodP p' → p.length = p'.length → cb 1 p = cb 1 p' → cb 2 p = cb 2 p' → cg 1 p = cg 1 p' → cg 2 p = cg 2 p' → p = p'
  | [], [], _, _, _, _, _, _, _ => rfl
  | [], _ :: _, _, _, h, _, _, _, _ => by simp at h
  | _ :: _, [], _, _, h, _, _, _, _ => by simp at h
  | x :: r, y :: s, g, g', h, h1, h2, h3, h4 => by
    have lx := g.lo x (List.mem_cons_self ..)
    have ly := g'.lo y (List.mem_cons_self ..)
    obtain ⟨px, pr⟩ := List.pairwise_cons.mp g.pw
    obtain ⟨py, ps⟩ := List.pairwise_cons.mp g'.pw
    have gr : GoodP r := ⟨by have := g.len; rw [List.length_cons] at this; omega, fun z hz => g.lo z (List.mem_cons_of_mem _ hz), pr⟩
    have gs : GoodP s := ⟨by have := g'.len; rw [List.length_cons] at this; omega, fun z hz => g'.lo z (List.mem_cons_of_mem _ hz), ps⟩
    have hl : r.length = s.length := by simpa using h
    rw [cb_cons, cb_cons] at h1 h2
    rw [cg_cons, cg_cons] at h3 h4
    -- bad: what is small at the head is small behind it
    have zx : ∀ j, x.1 < j → cb j r = 0 := fun j hj => cb_zero fun z hz => Nat.lt_of_le_of_lt (px z hz).1 hj
    have zy : ∀ j, y.1 < j → cb j s = 0 := fun j hj => cb_zero fun z hz => Nat.lt_of_le_of_lt (py z hz).1 hj
    have ax : ∀ j, j ≤ x.2 → cg j r = r.length := fun j hj => cg_all fun z hz => Nat.le_trans hj (px z hz).2
    have ay : ∀ j, j ≤ y.2 → cg j s = s.length := fun j hj => cg_all fun z hz => Nat.le_trans hj (py z hz).2
    have b1 : (1 ≤ x.1 ↔ 1 ≤ y.1) := by
      constructor
      · intro q
        refine Classical.byContradiction fun n => ?_
        rw [if_pos q, if_neg n, zy 1 (by omega)] at h1
        omega
      · intro q
        refine Classical.byContradiction fun n => ?_
        rw [if_pos q, if_neg n, zx 1 (by omega)] at h1
        omega
    have b2 : (2 ≤ x.1 ↔ 2 ≤ y.1) := by
      constructor
      · intro q
        refine Classical.byContradiction fun n => ?_
        rw [if_pos q, if_neg n, zy 2 (by omega)] at h2
        omega
      · intro q
        refine Classical.byContradiction fun n => ?_
        rw [if_pos q, if_neg n, zx 2 (by omega)] at h2
        omega
    have g1 : (1 ≤ x.2 ↔ 1 ≤ y.2) := by
      constructor
      · intro q
        refine Classical.byContradiction fun n => ?_
        rw [if_pos q, if_neg n, ax 1 q] at h3
        have := (cnt_le 1 s).2
        omega
      · intro q
        refine Classical.byContradiction fun n => ?_
        rw [if_pos q, if_neg n, ay 1 q] at h3
        have := (cnt_le 1 r).2
        omega
    have g2 : (2 ≤ x.2 ↔ 2 ≤ y.2) := by
      constructor
      · intro q
        refine Classical.byContradiction fun n => ?_
        rw [if_pos q, if_neg n, ax 2 q] at h4
        have := (cnt_le 2 s).2
        omega
      · intro q
        refine Classical.byContradiction fun n => ?_
        rw [if_pos q, if_neg n, ay 2 q] at h4
        have := (cnt_le 2 r).2
        omega
    have e : x = y := Prod.ext (by omega) (by omega)
    subst e
    rw [prof_same gr gs hl (by omega) (by omega) (by omega) (by omega)]
def encP (p : Prof) : Nat := (((p.length * 11 + cb 1 p) * 11 + cb 2 p) * 11 + cg 1 p) * 11 + cg 2 p
theorem dig {a b c d : Nat} (e : a * 11 + b = c * 11 + d) (h1 : b < 11) (h2 : d < 11) : a = c ∧ b = d := by omega
theorem enc_inj {p p' : Prof} (g : GoodP p) (g' : GoodP p') (e : encP p = encP p') : p = p' := by
  have a1 := cnt_le 1 p
  have a2 := cnt_le 2 p
  have a3 := cnt_le 1 p'
  have a4 := cnt_le 2 p'
  have l1 := g.len
  have l2 := g'.len
  obtain ⟨e, e5⟩ := dig e (by omega) (by omega)
  obtain ⟨e, e4⟩ := dig e (by omega) (by omega)
  obtain ⟨e, e3⟩ := dig e (by omega) (by omega)
  obtain ⟨e1, e2⟩ := dig e (by omega) (by omega)
  exact prof_same g g' e1 e2 e3 e4 e5
theorem enc_lt {p : Prof} (g : GoodP p) : encP p < 161051 := by
  have a1 := cnt_le 1 p
  have a2 := cnt_le 2 p
  have l1 := g.len
  unfold encP
  omega
theorem prof_few {ps : List Prof} (nd : ps.Nodup) (h : ∀ p ∈ ps, GoodP p) : ps.length ≤ 161051 := by
  have h1 := sub_len (ps.map encP) (List.range 161051) (List.pairwise_map.mpr (List.Pairwise.imp_of_mem (fun ha hb n e => n (enc_inj (h _ ha) (h _ hb) e)) nd)) fun x hx => by
    obtain ⟨p, hp, rfl⟩ := List.mem_map.mp hx
    exact List.mem_range.mpr (enc_lt (h p hp))
  rwa [List.length_map, List.length_range] at h1
/-! ### the memo -/
def MemoAt (P : Program) (w : World) (KN : Addr) (H : Hp) : Prop := ∃ xs, H KN = some (dN P w KN xs) ∧ (∀ x ∈ xs, KeyAt H x.2.1 x.1) ∧ (∀ x ∈ xs, x.2.2 = (fewP x.1 : Nat) ∧ GoodP x.1) ∧ (xs.map (·.1)).Nodup
theorem MemoAt.keep {P : Program} {w : World} {KN D : Addr} {H H' : Hp} (h : MemoAt P w KN H) (n : KN ≠ D) (k : Keep (fun b => b = D) H H') : MemoAt P w KN H' := by
  obtain ⟨xs, e, h1, h2, h3⟩ := h
  exact ⟨xs, k.all _ _ e n, fun x hx => (h1 x hx).mono k.tup, h2, h3⟩
theorem MemoAt.kp {P : Program} {w : World} {KN : Addr} {H H' : Hp} (h : MemoAt P w KN H) (k : Kp H H') : MemoAt P w KN H' := by
  obtain ⟨xs, e, h1, h2, h3⟩ := h
  exact ⟨xs, kat k e, fun x hx => (h1 x hx).mono k.tup, h2, h3⟩
def PlAt (CP : Addr) (H : Hp) (Pl KN : Addr) : Prop := ∃ dx, H Pl = some (.ins CP dx [("known", .ref KN)])
theorem PlAt.keep {F : Addr → Prop} {CP : Addr} {H H' : Hp} {Pl KN : Addr} (h : PlAt CP H Pl KN) (k : Keep F H H') (n : ¬ F Pl) : PlAt CP H' Pl KN := by
  obtain ⟨dx, e⟩ := h
  exact ⟨dx, k.all _ _ e n⟩
theorem known_pl {P : Program} {w : World} {CP Pl KN : Addr} {H : Hp} (h : PlAt CP H Pl KN) (m : MemoAt P w KN H) : Pl ≠ KN := by
  obtain ⟨dx, e⟩ := h
  obtain ⟨xs, e2, _⟩ := m
  exact ne_of e e2 fun z => by cases z
theorem known_lst {P : Program} {w : World} {a KN : Addr} {H : Hp} {xs : List V} (e : H a = some (.lst xs)) (m : MemoAt P w KN H) : a ≠ KN := by
  obtain ⟨ys, e2, _⟩ := m
  exact ne_of e e2 fun z => by cases z
theorem known_new {P : Program} {w : World} {D KN : Addr} {H : Hp} (e : H D = none) (m : MemoAt P w KN H) : KN ≠ D := by
  obtain ⟨ys, e2, _⟩ := m
  exact ne_of_none e2 e
theorem cut_last (xs : List V) : cutV xs none (some (-1)) = xs.dropLast := by
  unfold cutV
  show (xs.drop 0).take ((if (-1 : Int) < 0 then ((-1 : Int) + (xs.length : Int)).toNat else min (-1 : Int).toNat xs.length) - 0) = _
  rw [if_pos (by decide), List.drop_zero, List.dropLast_eq_take]
  congr 1
  omega
theorem pd_dropLast {α β : Type} {F : α → β → Prop} {xs : List α} {ys : List β} (p : Paired F xs ys) : Paired F xs.dropLast ys.dropLast := by
  rw [List.dropLast_eq_take, List.dropLast_eq_take, ← p.length]
  exact pd_take _ p
/-- refs to tuples of two whole numbers -/
def PairAt (H : Hp) (v : V) (x : Nat × Nat) : Prop := ∃ b, v = .ref b ∧ H b = some (.tup [.int x.1, .int x.2])
theorem pairs_key {H : Hp} : ∀ {ys : List V} {p : Prof}, Paired (PairAt H) ys p → ∃ as : List Addr, ys = as.map V.ref ∧ Paired (fun b x => H b = some (.tup [.int (x : Nat × Nat).1, .int x.2])) as p
  | _, _, .nil => ⟨[], rfl, .nil⟩
  | _, _, .cons ⟨b, e, h⟩ r => by
    obtain ⟨as, e2, h2⟩ := pairs_key r
    exact ⟨b :: as, by rw [e, e2]; rfl, .cons h h2⟩
end Fs

/-! The planner's defs. -/
namespace Fs
open PySem PySem.Spec PyProof.Rows L2 L2H
open R7286g.Spec (Candidate startOf afterAnswer testsOf fewest sumOf bestTest bestPlan Plan)
theorem lkA {k : Str} {v : V} {r : List (Str × V)} : List.lookup k ((k, v) :: r) = some v := by
  have e : (k == k) = true := beq_self_eq_true k
  simp only [List.lookup, e]
theorem lkB {k g : Str} {v : V} {r : List (Str × V)} (h : (k == g) = false) : List.lookup k ((g, v) :: r) = List.lookup k r := by
  simp only [List.lookup, h]
section
variable {P : Program} {w : World} {K : PySem.W.Frag} {mg : Str → Option Value} {base : Heap}
/-- the class Planner -/
structure PlC (K : PySem.W.Frag) (CP : Addr) : Prop where
  cl : Cls K CP
  nK : NoAttr K CP "known"
/-! ### __init__ -/
def spPlNew (P : Program) (w : World) (CP : Addr) : Sp := fun vs H Q _ => ∃ (p dx : Addr), vs = [.ref p] ∧ H p = some (.ins CP dx []) ∧ ∀ H' KN, Keep (fun b => b = p) H H' → H KN = none → PlAt CP H' p KN → MemoAt P w KN H' → Q .non H'
theorem b_Planner_new {CP : Addr} (C : PlC K CP) : Bd P w K mg base N_Planner_new "Planner.__init__" s_Planner_new 0 (spPlNew P w CP) := by
  rintro f cdv A outer s H vs Q E hr ⟨p, dx, rfl, hp, post⟩
  refine ⟨_, pss_one (ps_fld (pv 0) (pe_dnewN) rfl), ?_⟩
  intro d hd
  have npd : p ≠ d := ne_of_none hp hd
  refine ⟨_, rfl, p, CP, dx, [], rfl, (by rw [upd_ne npd]; exact hp), C.cl, C.nK, (by show 0 < 1000; decide), ?_⟩
  refine post _ d ((Keep.new hd).trans (Keep.put rfl (u := .ins CP dx []) (by rw [upd_ne npd]; exact hp) (by intro z; exact HO.noConfusion) (by intro z w; exact HO.noConfusion))) hd ⟨dx, upd_same⟩ ⟨[], by rw [upd_ne npd.symm, upd_same]; rfl, fun _ h => absurd h List.not_mem_nil, fun _ h => absurd h List.not_mem_nil, List.nodup_nil⟩
/-! ### fewest, worse -/
def spFew (P : Program) (w : World) (CP : Addr) (n : Nat) : Sp := fun vs H Q _ => ∃ (Pl KN a : Addr) (l : List Candidate), vs = [.ref Pl, .ref a] ∧ PlAt CP H Pl KN ∧ MemoAt P w KN H ∧ LeftAt H a l ∧ Lf l ∧ sumOf l < n ∧
  ∀ H', Keep (fun b => b = KN) H H' → MemoAt P w KN H' → Q (.int (fewest l)) H'
def spWorse (P : Program) (w : World) (CP : Addr) (n : Nat) : Sp := fun vs H Q _ => ∃ (Pl KN a : Addr) (l : List Candidate) (k : Nat), vs = [.ref Pl, .ref a, .int k] ∧ PlAt CP H Pl KN ∧ MemoAt P w KN H ∧ LeftAt H a l ∧ Lf l ∧ k ∈ testsOf l ∧ sumOf l < n + 1 ∧
  ∀ H', Keep (fun b => b = KN) H H' → MemoAt P w KN H' → Q (.int (worse l k)) H'
theorem b_Planner_worse (B : Bt mg) {CP : Addr} (C : PlC K CP) (n : Nat) (c_left_by : Cal P w K mg base 1 "left_by" spLeftBy) (c_Planner_fewest : Met P w K mg base (2 * n + 2) CP "fewest" (spFew P w CP n)) :
    Bd P w K mg base N_Planner_worse "Planner.worse" s_Planner_worse (2 * n + 2) (spWorse P w CP n) := by
  rintro f cdv A outer s H vs Q E hr ⟨Pl, KN, a, l, k, rfl, pl, mm, la, lf, hk, hs, post⟩
  refine ⟨_, pss_cons (ps_set (i := 3) sc_Planner_worse.nd rfl (Or.inl rfl) (pe_m c_Planner_fewest hr (by omega) (pv 0) (by exact (pa_cons (pe_c c_left_by hr (by omega) rfl (pa_cons (pv 1) (pa_cons (pv 2) (pa_cons (pe_bl) pa_nil)))) pa_nil))))
    (pss_one (ps_ret (pe_callB (call_max2 rfl) rfl B.max PyProof.Rows.boot_max (pa_cons (pv 3) (pa_cons (pe_m c_Planner_fewest hr (by omega) (pv 0) (by exact (pa_cons (pe_c c_left_by hr (by omega) rfl (pa_cons (pv 1) (pa_cons (pv 2) (pa_cons (pe_bl) pa_nil)))) pa_nil))) pa_nil))))), ?_⟩
  have npl := known_pl pl mm
  obtain ⟨dx, ePl⟩ := id pl
  have nal : a ≠ KN := known_lst la.choose_spec.1 mm
  have lk : ([("known", .ref KN)] : List (Str × V)).lookup ("fewest" : Str) = none := (lkB (by decide +kernel)).trans rfl
  refine ⟨_, rfl, Pl, dx, _, rfl, ePl, lk, _, rfl, _, rfl, a, k, true, l, rfl, la, Nat.le_trans lf.len (by decide), fun H1 r k1 n1 l1 => ?_⟩
  have st := test_sum_lt lf.asc hk
  refine ⟨Pl, KN, r, _, rfl, pl.keep k1 (fun f => f), mm.kp k1, l1, lf.after k true, by have := st true; omega, fun H2 k2 m2 => ?_⟩
  have e2 : H2 Pl = some (.ins CP dx [("known", .ref KN)]) := k2.all _ _ (kat k1 ePl) npl
  refine ⟨_, rfl, _, rfl, Pl, dx, _, rfl, e2, lk, _, rfl, _, rfl, a, k, false, l, rfl, (la.kp k1).mono k2 nal, Nat.le_trans lf.len (by decide), fun H3 r3 k3 n3 l3 => ?_⟩
  refine ⟨Pl, KN, r3, _, rfl, ⟨dx, kat k3 e2⟩, m2.kp k3, l3, lf.after k false, by have := st false; omega, fun H4 k4 m4 => ?_⟩
  refine ⟨_, _, rfl, ?_⟩
  have e : (if (fewest (afterAnswer l k false) : Int) > (fewest (afterAnswer l k true) : Int) then (fewest (afterAnswer l k false) : Int) else (fewest (afterAnswer l k true) : Int)) = (worse l k : Nat) := by
    unfold worse
    by_cases z : fewest (afterAnswer l k false) > fewest (afterAnswer l k true)
    · rw [if_pos (by omega), Nat.max_eq_right (by omega)]
    · rw [if_neg (by omega), Nat.max_eq_left (by omega)]
  rw [e]
  exact post H4 (((k1.to.trans k2).trans k3.to).trans k4) m4
theorem few_least {l : List Candidate} (a : Asc l) (h : 2 ≤ l.length) {m : Int} (h1 : m ∈ ((testsOf l).map fun k => ((worse l k : Nat) : Int))) (h2 : ∀ y ∈ ((testsOf l).map fun k => ((worse l k : Nat) : Int)), m ≤ y) : m + 1 = (fewest l : Nat) := by
  obtain ⟨k, hk, rfl⟩ := List.mem_map.mp h1
  have := fewest_min a h (m := worse l k) (List.mem_map.mpr ⟨k, hk, rfl⟩) fun y hy => by
    obtain ⟨j, hj, rfl⟩ := List.mem_map.mp hy
    have := h2 _ (List.mem_map.mpr ⟨j, hj, rfl⟩)
    omega
  omega
theorem b_Planner_fewest (B : Bt mg) {CP : Addr} (C : PlC K CP) (n : Nat) (c_Planner_worse : Met P w K mg base (2 * n + 3) CP "worse" (spWorse P w CP n)) :
    Bd P w K mg base N_Planner_fewest "Planner.fewest" s_Planner_fewest (2 * n + 3) (spFew P w CP (n + 1)) := by
  rintro f cdv A outer s H vs Q E hr ⟨Pl, KN, a, l, rfl, pl, mm, la, lf, hs, post⟩
  refine ⟨_, pss_cons (ps_if (pt_cmpR op_le (pe_callB call_len_seq rfl B.len PySem.boot_len (pa_cons (pv 1) pa_nil)) (pe_int) (nomark _)) (pss_one (ps_ret (pe_int))) pss_nil)
    (pss_cons (ps_set (i := 2) sc_Planner_fewest.nd rfl (Or.inl rfl) (pe_callTy call_tuple_of rfl B.tuple PyProof.Rows.boot_tuple (pa_cons (pe_lc (own := [("version", 3), ("bad", 4), ("good", 5)]) (g := (gTup K 3 (gCons (gName 3) (gCons (gName 4) (gCons (gName 5) gNil))))) (te := (tTup (tCons (tVar 4) (tCons (tVar 5) tNil)))) rfl sc_Planner_fewest.nd (pi_list (pv 1)) (blkOk_by (N := N_Planner_fewest) (sc := defScope s_Planner_fewest) (by decide +kernel)) (fun _ _ _ _ _ => by exact pg_tup rfl (pgs_cons (pg_name (i := 3) sc_Planner_fewest.nd rfl (Or.inl rfl)) (pgs_cons (pg_name (i := 4) sc_Planner_fewest.nd rfl (Or.inl rfl)) (pgs_cons (pg_name (i := 5) sc_Planner_fewest.nd rfl (Or.inl rfl)) pgs_nil)))) (fun _ _ _ _ _ => pts_nil) (fun _ _ _ _ _ => by exact pe_tup (pa_cons (pv 4) (pa_cons (pv 5) pa_nil)))) pa_nil)))
    (C8.pss_cut (ps_if (pt_cmpR (op_notInN hr) (pv 2) (pe_fld (pv 0) rfl) (by with_unfolding_all rfl)) (pss_one (ps_asg (pe_op op_add (pe_callB (cr_min rfl) rfl B.min PyProof.Rows.boot_min (pa_cons (pe_lc (own := [("one", 6)]) (g := (gName 6)) (te := (tMt _ "worse" _ E0 (tVar 0) (tCons (tVar 1) (tCons (tOp (rIx K) (tVar 6) (tC (.int 0))) tNil)))) rfl sc_Planner_fewest.nd (pi_list (pe_slice sl_list (pv 1) po_none (po_some (pe_un un_neg (pe_int))))) (blkOk_by (N := N_Planner_fewest) (sc := defScope s_Planner_fewest) (by decide +kernel)) (fun _ _ _ _ _ => by exact pg_name (i := 6) sc_Planner_fewest.nd rfl (Or.inl rfl)) (fun _ _ _ _ _ => pts_nil) (fun _ _ _ _ _ => by exact pe_m c_Planner_worse hr (by omega) (pv 0) (by exact (pa_cons (pv 1) (pa_cons (pe_ix ix_seq (pv 6) (pe_int) (fun _ _ => rfl)) pa_nil))))) pa_nil)) (pe_int)) (pg_sub (pe_fld (pv 0) rfl) (pv 2) (set_N hr)))) pss_nil)
    (pss_one (ps_ret (pe_ix (ix_N hr) (pe_fld (pv 0) rfl) (pv 2) (fun _ _ => rfl)))))), ?_⟩
  have npl := known_pl pl mm
  obtain ⟨dx, ePl⟩ := id pl
  obtain ⟨ts, ea, pr⟩ := id la
  have nal : a ≠ KN := known_lst ea mm
  have ll : ts.length = l.length := pr.length
  refine ⟨_, rfl, a, ts, rfl, .inl (.of ea), _, _, rfl, rfl, _, rfl, ifB (fun h => ?_) fun h => ?_⟩
  · have h : (ts.length : Int) ≤ 1 := of_decide_eq_true h
    have z : V.int 0 = V.int ((fewest l : Nat) : Int) := by rw [fewest_short (by omega)]; rfl
    show Q (V.int 0) H
    rw [z]
    exact post H .refl mm
  have h : ¬ (ts.length : Int) ≤ 1 := of_decide_eq_false h
  have h2 : 2 ≤ l.length := by omega
  -- the key
  refine ⟨_, rfl, a, rfl, ⟨ts, .of ea⟩, fun D hD => ?_⟩
  refine lcA (F := fun _ => False) (cs := l) (by rw [← ll]; exact walk_list (.of ea) fun f => f) (fun c => (c.bad, c.good)) (fun _ => True) PairAt (fun f => f) hD (lenL (Nat.le_trans lf.len (by decide))) trivial (fun _ _ _ h => h)
    (fun H H' y b k ⟨b', e1, e2⟩ => ⟨b', e1, k.tup _ _ e2⟩) (fun i c x H1 Qy hc it k _ go => ?_) fun H1 ys k1 _ eD py => ?_
  · obtain ⟨c2, hc2, u, rfl, eu⟩ := pd_get pr it
    obtain rfl : c = c2 := by
      rw [hc] at hc2
      exact Option.some.inj hc2
    refine ⟨u, _, rfl, .of (k.tup _ _ eu), rfl, _, _, rfl, _, _, rfl, _, _, rfl, rfl, rfl, ?_⟩
    exact ⟨_, rfl, _, rfl, two_le, fun t ht => go _ _ (Keep.new ht) trivial ⟨t, rfl, upd_same⟩⟩
  obtain ⟨as, rfl, pk⟩ := pairs_key py
  refine ⟨D, _, rfl, .inl ⟨.of eD, fun q hq => ?_⟩⟩
  have kq : Kp H1 (upd H1 q (.tup (as.map V.ref))) := Keep.new hq
  have key : KeyAt (upd H1 q (.tup (as.map V.ref))) q (prof l) := ⟨as, upd_same, pd_mono pk fun _ _ h => kq.tup _ _ h⟩
  generalize upd H1 q (.tup (as.map V.ref)) = H2 at kq key
  have k2 : Kp H H2 := k1.trans kq
  have e2 := kat k2 ePl
  have m2 := mm.kp k2
  -- behind the if the memo has the key
  refine ⟨fun σ' H' => (∃ v3 v4 v5 v6 : Option V, σ' = [some (.ref Pl), some (.ref a), some (.ref q), v3, v4, v5, v6]) ∧ Keep (fun b => b = KN) H2 H' ∧ MemoAt P w KN H' ∧ ∃ xs b, H' KN = some (dN P w KN xs) ∧ (∀ x ∈ xs, KeyAt H' x.2.1 x.1) ∧ lookN xs (prof l) = some (b, ((fewest l : Nat) : Int)), ?_, ?_⟩
  · obtain ⟨xs, eK, xk, xv, xn⟩ := id m2
    refine ⟨_, rfl, _, rfl, Pl, CP, dx, _, _, rfl, e2, C.cl, C.nK, lkA, q, KN, prof l, xs, rfl, rfl, eK, key, xk, _, rfl, ifB (fun hn => ?_) fun hn => ?_⟩
    · -- min([..]) + 1
      have ea2 := kat k2 ea
      refine ⟨_, rfl, _, rfl, _, rfl, a, ts, rfl, .of ea2, fun q2 hq2 => ?_⟩
      have k3 : Kp H2 (upd H2 q2 (.lst (cutV ts none (some (-1))))) := Keep.new hq2
      have eq2 : upd H2 q2 (.lst (cutV ts none (some (-1)))) q2 = some (.lst ts.dropLast) := by rw [upd_same, cut_last]
      generalize upd H2 q2 (.lst (cutV ts none (some (-1)))) = H3 at k3 eq2
      have m3 := m2.kp k3
      refine ⟨q2, rfl, ⟨_, .of eq2⟩, fun D2 hD2 => ?_⟩
      have kd : KN ≠ D2 := known_new hD2 m3
      have pdr := pd_dropLast pr
      have c0 : Kp H H3 := k2.trans k3
      refine lcA (F := fun b => b = KN) (cs := l.dropLast) (by rw [← pdr.length]; exact walk_list (.of eq2) (known_lst eq2 m3)) (fun c => worse l c.version) (MemoAt P w KN) (fun _ y b => y = V.int (b : Nat)) (fun f => kd f.symm) hD2 (lenL (by rw [List.length_dropLast]; have := lf.len; omega)) m3 (fun H H' k m => m.keep kd k)
        (fun _ _ _ _ _ r => r) (fun i c x H4 Qy hc it k4 m4 go => ?_) fun H4 ys4 k4 m4 e4 p4 => ?_
      · obtain ⟨c2, hc2, u, rfl, eu⟩ := pd_get pdr it
        obtain rfl : c = c2 := by
          rw [hc] at hc2
          exact Option.some.inj hc2
        have e4 : H4 Pl = some (.ins CP dx [("known", .ref KN)]) := k4.all _ _ (kat k3 e2) npl
        refine ⟨rfl, ?_⟩
        refine ⟨_, rfl, Pl, dx, _, rfl, e4, (lkB (by decide +kernel)).trans rfl, _, rfl, _, rfl, .inr (.inl ⟨u, _, 0, _, rfl, rfl, .of (k4.tup _ _ (k3.tup _ _ (k2.tup _ _ eu))), atI_nat (j := 0) rfl, ?_⟩)⟩
        refine ⟨Pl, KN, a, l, c.version, rfl, ⟨dx, e4⟩, m4, (la.kp c0).mono k4 nal, lf, List.mem_map.mpr ⟨c, mem_of_get hc, rfl⟩, hs, fun H5 k5 m5 => go _ _ k5 m5 rfl⟩
      · have ey := pd_eq p4
        rw [List.map_map] at ey
        have e5 : ys4 = ((testsOf l).map fun k => ((worse l k : Nat) : Int)).map V.int := by
          rw [ey, testsOf, List.map_map, List.map_map]
          rfl
        rw [e5] at e4
        refine ⟨D2, _, rfl, .of e4, ?_, fun m hm hle => ?_⟩
        · rw [List.length_map, testsOf_length]
          omega
        have em := few_least lf.asc h2 hm hle
        refine ⟨_, _, rfl, rfl, ?_⟩
        have e6 : H4 Pl = some (.ins CP dx [("known", .ref KN)]) := k4.all _ _ (kat k3 e2) npl
        obtain ⟨xs4, eK4, xk4, xv4, xn4⟩ := id m4
        have kF : Keep (fun b => b = KN) H2 H4 := k3.to.trans k4
        have key4 : KeyAt H4 q (prof l) := key.mono kF.tup
        have few : xs4.length ≤ 161051 := by
          have := prof_few xn4 fun p hp => by
            obtain ⟨x, hx, rfl⟩ := List.mem_map.mp hp
            exact (xv4 x hx).2
          rwa [List.length_map] at this
        refine ⟨_, rfl, Pl, CP, dx, _, _, rfl, e6, C.cl, C.nK, lkA, _, rfl, q, KN, prof l, xs4, m + 1, rfl, rfl, rfl, eK4, key4, xk4, Nat.le_trans few (by decide), ?_⟩
        rw [em]
        have kP : Keep (fun b => b = KN) H4 (upd H4 KN (dN P w KN (putN xs4 (prof l) q (fewest l : Nat)))) := Keep.put rfl eK4 (by intro z; exact HO.noConfusion) (by intro z w; exact HO.noConfusion)
        have allk : ∀ x ∈ putN xs4 (prof l) q (fewest l : Nat), KeyAt (upd H4 KN (dN P w KN (putN xs4 (prof l) q (fewest l : Nat)))) x.2.1 x.1 := fun x hx => by
          refine KeyAt.mono ?_ kP.tup
          rcases putN_mem hx with hx | ⟨e1, e2, e3 | ⟨y, hy, e3, e4⟩⟩
          · exact xk4 x hx
          · rw [e1, e3]
            exact key4
          · have := xk4 y hy
            rw [e1, e4, ← e3]
            exact this
        obtain ⟨b, hb⟩ := putN_look (xs := xs4) (K := prof l) (a := q) (v := (fewest l : Nat))
        refine ⟨⟨_, _, _, _, rfl⟩, kF.trans kP, ⟨_, upd_same, allk, fun x hx => ?_, putN_keys xn4⟩, _, b, upd_same, allk, hb⟩
        rcases putN_mem hx with hx | ⟨e1, e2, _⟩
        · exact xv4 x hx
        · rw [e1, e2]
          exact ⟨by rw [fewest_fewP lf.asc], lf.prof⟩
    · -- it is there
      cases el : lookN xs (prof l) with
      | none =>
        rw [el] at hn
        cases hn
      | some p =>
        obtain ⟨b, v⟩ := p
        have hv := (xv _ (lookN_mem el)).1
        refine ⟨⟨_, _, _, _, rfl⟩, .refl, m2, xs, b, eK, xk, ?_⟩
        rw [el]
        have hv : v = (fewP (prof l) : Nat) := hv
        rw [hv, ← fewest_fewP lf.asc]
  rintro σ' H3 ⟨⟨v3, v4, v5, v6, rfl⟩, k3, m3, xs, b, eK, xk, hl⟩
  have e3 : H3 Pl = some (.ins CP dx [("known", .ref KN)]) := k3.all _ _ e2 npl
  exact ⟨_, rfl, Pl, CP, dx, _, _, rfl, e3, C.cl, C.nK, lkA, _, rfl, q, KN, prof l, xs, _, rfl, rfl, eK, key.mono k3.tup, xk, hl, post H3 (k2.to.trans k3) m3⟩
end
end Fs

/-! best_test, best_plan; the planner's defs together. -/
namespace Fs
open PySem PySem.Spec PyProof.Rows L2 L2H
open R7286g.Spec (Candidate startOf afterAnswer testsOf fewest sumOf bestTest bestPlan Plan)
section
variable {P : Program} {w : World} {K : PySem.W.Frag} {mg : Str → Option Value} {base : Heap}
def optV (o : Option Nat) : V := match o with
  | none => .non
  | some k => .int k
def spBest (P : Program) (w : World) (CP : Addr) : Sp := fun vs H Q _ => ∃ (Pl KN a : Addr) (l : List Candidate), vs = [.ref Pl, .ref a] ∧ PlAt CP H Pl KN ∧ MemoAt P w KN H ∧ LeftAt H a l ∧ Lf l ∧
  ∀ H', Keep (fun b => b = KN) H H' → MemoAt P w KN H' → Q (optV (bestTest l)) H'
def bestF (l : List Candidate) (c : Candidate) : Option Nat := if worse l c.version ≤ fewest l - 1 then some c.version else none
theorem best_filter (l : List Candidate) : l.dropLast.filterMap (bestF l) = (testsOf l).filter fun k => decide (worse l k ≤ fewest l - 1) := by
  unfold testsOf
  generalize l.dropLast = m
  induction m with
  | nil => rfl
  | cons c r ih =>
    rw [List.filterMap_cons, List.map_cons, List.filter_cons, bestF]
    by_cases h : worse l c.version ≤ fewest l - 1
    · rw [if_pos h, if_pos (decide_eq_true h), ih]
    · rw [if_neg h, if_neg (by simpa using h), ih]
theorem b_Planner_best_test (B : Bt mg) {CP : Addr} (C : PlC K CP) (c_Planner_fewest : Met P w K mg base 104 CP "fewest" (spFew P w CP 51)) (c_Planner_worse : Met P w K mg base 103 CP "worse" (spWorse P w CP 50)) :
    Bd P w K mg base N_Planner_best_test "Planner.best_test" s_Planner_best_test 104 (spBest P w CP) := by
  rintro f cdv A outer s H vs Q E hr ⟨Pl, KN, a, l, rfl, pl, mm, la, lf, post⟩
  refine ⟨_, pss_cons (ps_if (pt_cmpR op_le (pe_callB call_len_seq rfl B.len PySem.boot_len (pa_cons (pv 1) pa_nil)) (pe_int) (nomark _)) (pss_one (ps_ret (pe_non))) pss_nil)
    (pss_cons (ps_set (i := 2) sc_Planner_best_test.nd rfl (Or.inr rfl) (pe_op op_sub (pe_m c_Planner_fewest hr (by omega) (pv 0) (by exact (pa_cons (pv 1) pa_nil))) (pe_int)))
    (pss_one (ps_ret (pe_ix ix_seq (pe_lc (own := [("one", 3)]) (g := (gName 3)) (te := (tOp (rIx K) (tVar 3) (tC (.int 0)))) (tt := tTest (tOp _ (tMt _ "worse" _ E0 (tVar 0) (tCons (tVar 1) (tCons (tOp (rIx K) (tVar 3) (tC (.int 0))) tNil))) (tVar 2))) rfl sc_Planner_best_test.nd (pi_list (pe_slice sl_list (pv 1) po_none (po_some (pe_un un_neg (pe_int))))) (blkOk_by (N := N_Planner_best_test) (sc := defScope s_Planner_best_test) (by decide +kernel)) (fun _ _ _ _ _ => by exact pg_name (i := 3) sc_Planner_best_test.nd rfl (Or.inl rfl)) (fun _ _ _ _ _ => by exact pts_one (pt_cmpR op_le (pe_m c_Planner_worse hr (by omega) (pv 0) (by exact (pa_cons (pv 1) (pa_cons (pe_ix ix_seq (pv 3) (pe_int) (fun _ _ => rfl)) pa_nil)))) (pv 2) (nomark _))) (fun _ _ _ _ _ => by exact pe_ix ix_seq (pv 3) (pe_int) (fun _ _ => rfl))) (pe_int) (fun _ _ => rfl))))), ?_⟩
  have npl := known_pl pl mm
  obtain ⟨dx, ePl⟩ := id pl
  obtain ⟨ts, ea, pr⟩ := id la
  have nal : a ≠ KN := known_lst ea mm
  have ll : ts.length = l.length := pr.length
  refine ⟨_, rfl, a, ts, rfl, .inl (.of ea), _, _, rfl, rfl, _, rfl, ifB (fun h => ?_) fun h => ?_⟩
  · have h : (ts.length : Int) ≤ 1 := of_decide_eq_true h
    have e := post H .refl mm
    rw [bestTest_short (by omega)] at e
    exact e
  have h : ¬ (ts.length : Int) ≤ 1 := of_decide_eq_false h
  have h2 : 2 ≤ l.length := by omega
  have fp := fewest_pos lf.asc h2
  have lkf : ([("known", .ref KN)] : List (Str × V)).lookup ("fewest" : Str) = none := (lkB (by decide +kernel)).trans rfl
  have lkw : ([("known", .ref KN)] : List (Str × V)).lookup ("worse" : Str) = none := (lkB (by decide +kernel)).trans rfl
  refine ⟨_, rfl, Pl, dx, _, rfl, ePl, lkf, _, rfl, Pl, KN, a, l, rfl, pl, mm, la, lf, by have := lf.sum; omega, fun H1 k1 m1 => ?_⟩
  refine ⟨_, _, rfl, rfl, ?_⟩
  have em : ((fewest l : Nat) : Int) - 1 = ((fewest l - 1 : Nat) : Int) := by omega
  have ea1 : H1 a = some (.lst ts) := k1.all _ _ ea nal
  have eP1 : H1 Pl = some (.ins CP dx [("known", .ref KN)]) := k1.all _ _ ePl npl
  refine ⟨_, rfl, _, rfl, _, rfl, a, ts, rfl, .of ea1, fun q2 hq2 => ?_⟩
  have k3 : Kp H1 (upd H1 q2 (.lst (cutV ts none (some (-1))))) := Keep.new hq2
  have eq2 : upd H1 q2 (.lst (cutV ts none (some (-1)))) q2 = some (.lst ts.dropLast) := by rw [upd_same, cut_last]
  generalize upd H1 q2 (.lst (cutV ts none (some (-1)))) = H3 at k3 eq2
  have m3 := m1.kp k3
  refine ⟨q2, rfl, ⟨_, .of eq2⟩, fun D2 hD2 => ?_⟩
  have kd : KN ≠ D2 := known_new hD2 m3
  have pdr := pd_dropLast pr
  have c0 : Keep (fun b => b = KN) H H3 := k1.trans k3.to
  refine lcG (F := fun b => b = KN) (cs := l.dropLast) (by rw [← pdr.length]; exact walk_list (.of eq2) (known_lst eq2 m3)) (bestF l) (MemoAt P w KN) (fun _ y b => y = V.int (b : Nat)) (fun f => kd f.symm) hD2 (lenL (by rw [List.length_dropLast]; have := lf.len; omega)) m3 (fun H H' k m => m.keep kd k)
    (fun _ _ _ _ _ r => r) (fun i c x H4 Qn Qy hc it k4 m4 g1 g2 => ?_) fun H4 ys4 k4 m4 e4 p4 => ?_
  · obtain ⟨c2, hc2, u, rfl, eu⟩ := pd_get pdr it
    obtain rfl : c = c2 := by
      rw [hc] at hc2
      exact Option.some.inj hc2
    have e4 : H4 Pl = some (.ins CP dx [("known", .ref KN)]) := k4.all _ _ (kat k3 eP1) npl
    have eu4 := k4.tup _ _ (c0.tup _ _ eu)
    refine ⟨rfl, ?_⟩
    refine ⟨_, rfl, Pl, dx, _, rfl, e4, lkw, _, rfl, _, rfl, .inr (.inl ⟨u, _, 0, _, rfl, rfl, .of eu4, atI_nat (j := 0) rfl, ?_⟩)⟩
    refine ⟨Pl, KN, a, l, c.version, rfl, ⟨dx, e4⟩, m4, ((la.mono k1 nal).kp k3).mono k4 nal, lf, List.mem_map.mpr ⟨c, mem_of_get hc, rfl⟩, by have := lf.sum; omega, fun H5 k5 m5 => ?_⟩
    refine ⟨_, rfl, _, _, rfl, rfl, _, rfl, ifB (fun hw => ?_) fun hw => ?_⟩
    · have hw : ((worse l c.version : Nat) : Int) ≤ ((fewest l : Nat) : Int) - 1 := of_decide_eq_true hw
      have e1 : bestF l c = some c.version := if_pos (by omega)
      exact ⟨_, rfl, .inr (.inl ⟨u, _, 0, _, rfl, rfl, .of (k5.tup _ _ eu4), atI_nat (j := 0) rfl, g2 _ e1 _ _ k5 m5 rfl⟩)⟩
    · have hw : ¬ ((worse l c.version : Nat) : Int) ≤ ((fewest l : Nat) : Int) - 1 := of_decide_eq_false hw
      have e1 : bestF l c = none := if_neg (by omega)
      exact g1 e1 _ k5 m5
  · have ey := pd_eq p4
    rw [best_filter] at ey
    obtain ⟨k, r, e1, e2, _⟩ := bestTest_some lf.asc h2
    rw [e1] at ey
    subst ey
    have z := post H4 (c0.trans k4) m4
    rw [e2] at z
    exact .inl ⟨D2, _, 0, _, rfl, rfl, .of e4, atI_nat (j := 0) rfl, z⟩
/-! ### best_plan -/
def spPlan (P : Program) (w : World) (CP : Addr) (n : Nat) : Sp := fun vs H Q _ => ∃ (Pl KN a : Addr) (l : List Candidate) (d : Nat), vs = [.ref Pl, .ref a] ∧ PlAt CP H Pl KN ∧ MemoAt P w KN H ∧ LeftAt H a l ∧ Lf l ∧ l ≠ [] ∧ fewest l ≤ d ∧ d < n ∧
  ∀ H' v, Keep (fun b => b = KN) H H' → MemoAt P w KN H' → PlanAt H' v (bestPlan d l) → Q v H'
theorem plan_none (d : Nat) {l : List Candidate} (h : bestTest l = none) : bestPlan d l = .tell ((l.map fun c => c.version).headD 0) := by
  cases d with
  | zero => rfl
  | succ d => rw [bestPlan, h]
theorem b_Planner_best_plan (B : Bt mg) {CP : Addr} (C : PlC K CP) (n : Nat) (c_left_by : Cal P w K mg base 1 "left_by" spLeftBy) (c_Planner_best_test : Met P w K mg base 105 CP "best_test" (spBest P w CP)) (c_Planner_best_plan : Met P w K mg base (n + 106) CP "best_plan" (spPlan P w CP n)) :
    Bd P w K mg base N_Planner_best_plan "Planner.best_plan" s_Planner_best_plan (n + 106) (spPlan P w CP (n + 1)) := by
  rintro f cdv A outer s H vs Q E hr ⟨Pl, KN, a, l, d, rfl, pl, mm, la, lf, hne, hd, hn, post⟩
  refine ⟨_, pss_cons (ps_set (i := 2) sc_Planner_best_plan.nd rfl (Or.inl rfl) (pe_m c_Planner_best_test hr (by omega) (pv 0) (by exact (pa_cons (pv 1) pa_nil))))
    (pss_cons (ps_if (pt_cmpR op_isN (pv 2) (pe_non) (nomark _)) (pss_one (ps_ret (pe_ix ix_seq (pe_ix ix_seq (pv 1) (pe_int) (fun _ _ => rfl)) (pe_int) (fun _ _ => rfl)))) pss_nil)
    (pss_cons (ps_set (i := 3) sc_Planner_best_plan.nd rfl (Or.inl rfl) (pe_m c_Planner_best_plan hr (by omega) (pv 0) (by exact (pa_cons (pe_c c_left_by hr (by omega) rfl (pa_cons (pv 1) (pa_cons (pv 2) (pa_cons (pe_bl) pa_nil)))) pa_nil))))
    (pss_one (ps_ret (pe_tup (pa_cons (pv 2) (pa_cons (pv 3) (pa_cons (pe_m c_Planner_best_plan hr (by omega) (pv 0) (by exact (pa_cons (pe_c c_left_by hr (by omega) rfl (pa_cons (pv 1) (pa_cons (pv 2) (pa_cons (pe_bl) pa_nil)))) pa_nil))) pa_nil)))))))), ?_⟩
  have npl := known_pl pl mm
  obtain ⟨dx, ePl⟩ := id pl
  obtain ⟨ts, ea, pr⟩ := id la
  have nal : a ≠ KN := known_lst ea mm
  have lkt : ([("known", .ref KN)] : List (Str × V)).lookup ("best_test" : Str) = none := (lkB (by decide +kernel)).trans rfl
  have lkp : ([("known", .ref KN)] : List (Str × V)).lookup ("best_plan" : Str) = none := (lkB (by decide +kernel)).trans rfl
  refine ⟨_, rfl, Pl, dx, _, rfl, ePl, lkt, _, rfl, Pl, KN, a, l, rfl, pl, mm, la, lf, fun H1 k1 m1 => ?_⟩
  have ea1 : H1 a = some (.lst ts) := k1.all _ _ ea nal
  have eP1 : H1 Pl = some (.ins CP dx [("known", .ref KN)]) := k1.all _ _ ePl npl
  cases hb : bestTest l with
  | none =>
    refine ⟨_, rfl, rfl, _, rfl, ifT rfl ?_⟩
    cases l with
    | nil => exact absurd rfl hne
    | cons c r =>
      cases pr with
      | cons fc rest =>
        obtain ⟨u, rfl, eu⟩ := fc
        refine ⟨_, rfl, .inl ⟨a, _, 0, _, rfl, rfl, .of ea1, atI_nat (j := 0) rfl, .inr (.inl ⟨u, _, 0, _, rfl, rfl, .of (k1.tup _ _ eu), atI_nat (j := 0) rfl, ?_⟩)⟩⟩
        refine post H1 _ k1 m1 ?_
        rw [plan_none d hb]
        rfl
  | some k =>
    obtain ⟨hk, h2, _⟩ := bestTest_mem lf.asc hb
    obtain ⟨d, rfl⟩ : ∃ e, d = e + 1 := ⟨d - 1, by have := fewest_pos lf.asc h2; omega⟩
    have ep : bestPlan (d + 1) l = .test k (bestPlan d (afterAnswer l k true)) (bestPlan d (afterAnswer l k false)) := by rw [bestPlan, hb]
    refine ⟨_, rfl, rfl, _, rfl, ifF (decide_eq_false (by intro z; cases z)) ?_⟩
    have bf := bestTest_fewest lf.asc hb
    refine ⟨_, rfl, Pl, dx, _, rfl, eP1, lkp, _, rfl, _, rfl, a, k, true, l, rfl, la.mono k1 nal, Nat.le_trans lf.len (by decide), fun H2 r2 k2 n2 l2 => ?_⟩
    refine ⟨Pl, KN, r2, _, d, rfl, ⟨dx, kat k2 eP1⟩, m1.kp k2, l2, lf.after k true, test_ne_nil lf.asc hk true, by have := bf true; omega, by omega, fun H3 v3 k3 m3 p3 => ?_⟩
    have c3 : Keep (fun b => b = KN) H1 H3 := k2.to.trans k3
    refine ⟨_, rfl, _, rfl, _, rfl, Pl, dx, _, rfl, c3.all _ _ eP1 npl, lkp, _, rfl, _, rfl, a, k, false, l, rfl, (la.mono k1 nal).mono c3 nal, Nat.le_trans lf.len (by decide), fun H4 r4 k4 n4 l4 => ?_⟩
    have c4 : Keep (fun b => b = KN) H1 H4 := c3.trans k4.to
    refine ⟨Pl, KN, r4, _, d, rfl, ⟨dx, c4.all _ _ eP1 npl⟩, m3.kp k4, l4, lf.after k false, test_ne_nil lf.asc hk false, by have := bf false; omega, by omega, fun H5 v5 k5 m5 p5 => ⟨three_le, fun t ht => ?_⟩⟩
    have c5 : Keep (fun b => b = KN) H3 H5 := k4.to.trans k5
    refine post _ _ ((k1.trans (c3.trans c5)).trans (Kp.to (Keep.new ht))) (m5.kp (Keep.new ht)) ?_
    rw [ep]
    exact ⟨t, v3, v5, rfl, upd_same, p3.mono (c5.trans (Kp.to (Keep.new ht))), p5.mono (Keep.new ht : Kp _ _)⟩
/-! ### together -/
structure PlD (K : PySem.W.Frag) (mg : Str → Option Value) (CP : Addr) : Prop where
  c : PlC K CP
  new : Di K mg "Planner" CP "Planner.__init__" s_Planner_new ["self"]
  fewest : Dm K CP "fewest" "Planner.fewest" s_Planner_fewest ["self", "left"]
  worse : Dm K CP "worse" "Planner.worse" s_Planner_worse ["self", "left", "tested"]
  best_test : Dm K CP "best_test" "Planner.best_test" s_Planner_best_test ["self", "left"]
  best_plan : Dm K CP "best_plan" "Planner.best_plan" s_Planner_best_plan ["self", "left"]
theorem ok_worse_of (B : Bt mg) {CP : Addr} (D : PlD K mg CP) (c_left_by : Cal P w K mg base 1 "left_by" spLeftBy) (n : Nat) (h : Met P w K mg base (2 * n + 2) CP "fewest" (spFew P w CP n)) : Met P w K mg base (2 * n + 3) CP "worse" (spWorse P w CP n) :=
  D.worse.met sc_Planner_worse (fun vs H Q E h => by obtain ⟨Pl, KN, a, l, k, rfl, _⟩ := h; rfl) (b_Planner_worse B D.c n c_left_by h)
theorem ok_fewest (B : Bt mg) {CP : Addr} (D : PlD K mg CP) (c_left_by : Cal P w K mg base 1 "left_by" spLeftBy) : ∀ n, Met P w K mg base (2 * n + 2) CP "fewest" (spFew P w CP n)
  | 0 => D.fewest.met sc_Planner_fewest (fun vs H Q E h => by obtain ⟨Pl, KN, a, l, rfl, _⟩ := h; rfl) (by
      rintro f cdv A outer s H vs Q E hr ⟨Pl, KN, a, l, rfl, _, _, _, _, hs, _⟩
      exact absurd hs (by omega))
  | n + 1 => D.fewest.met sc_Planner_fewest (fun vs H Q E h => by obtain ⟨Pl, KN, a, l, rfl, _⟩ := h; rfl) (b_Planner_fewest B D.c n (ok_worse_of B D c_left_by n (ok_fewest B D c_left_by n)))
theorem ok_best_test (B : Bt mg) {CP : Addr} (D : PlD K mg CP) (c_left_by : Cal P w K mg base 1 "left_by" spLeftBy) : Met P w K mg base 105 CP "best_test" (spBest P w CP) :=
  D.best_test.met sc_Planner_best_test (fun vs H Q E h => by obtain ⟨Pl, KN, a, l, rfl, _⟩ := h; rfl) (b_Planner_best_test B D.c (ok_fewest B D c_left_by 51) (ok_worse_of B D c_left_by 50 (ok_fewest B D c_left_by 50)))
theorem ok_best_plan (B : Bt mg) {CP : Addr} (D : PlD K mg CP) (c_left_by : Cal P w K mg base 1 "left_by" spLeftBy) : ∀ n, Met P w K mg base (n + 106) CP "best_plan" (spPlan P w CP n)
  | 0 => D.best_plan.met sc_Planner_best_plan (fun vs H Q E h => by obtain ⟨Pl, KN, a, l, d, rfl, _⟩ := h; rfl) (by
      rintro f cdv A outer s H vs Q E hr ⟨Pl, KN, a, l, d, rfl, _, _, _, _, _, _, hs, _⟩
      exact absurd hs (by omega))
  | n + 1 => D.best_plan.met sc_Planner_best_plan (fun vs H Q E h => by obtain ⟨Pl, KN, a, l, d, rfl, _⟩ := h; rfl) (b_Planner_best_plan B D.c n c_left_by (ok_best_test B D c_left_by) (ok_best_plan B D c_left_by n))
theorem ok_Planner_new {CP : Addr} (D : PlD K mg CP) : Mak P w K mg base 1 "Planner" CP (spPlNew P w CP) :=
  D.new.mak sc_Planner_new (fun vs H Q E h => by obtain ⟨p, dx, rfl, _⟩ := h; rfl) (b_Planner_new D.c)
end
end Fs

/-! Values as they lie in the heap; texts, rows, records; the refusal. -/
namespace Fs
open PySem PySem.Spec PyProof.Rows L2 L2H
open R7286g.Spec (Plain Units)
theorem tyes_if {σ : L2.St} {H : Hp} {k n : Hp → Prop} : (tYes σ H fun b H3 => if b = true then k H3 else n H3) = k H := by
  show (if true = true then k H else n H) = k H
  exact if_pos rfl
/-- a comprehension whose surroundings change from turn to turn -/
theorem lcI {γ β : Type} {J : It} {g : TG} {te : TE} {vs : List Nat} {σ : St} {H1 : Hp} {D : Addr} {Qd : Hp → Prop} {F : Addr → Prop} {Item : Nat → V → Hp → Prop} {cs : List γ} (wk : Walk J F H1 cs.length Item)
    (fn : γ → β) (Iv : Nat → Hp → Prop) (Rel : Hp → V → β → Prop) (nF : ¬ F D) (hD : H1 D = none) (hz : cs.length ≤ sizeLine) (iv0 : Iv 0 H1) (ivm : ∀ i H H', Keep (fun b => b = D) H H' → Iv i H → Iv i H')
    (mono : ∀ H H' y b, Keep (fun b => F b ∨ b = D) H H' → Rel H y b → Rel H' y b)
    (step : ∀ i c x H (Qy : V → Hp → Prop), cs[i]? = some c → Item i x H → Keep F H1 H → Iv i H → (∃ acc, H D = some (.lst acc)) → (∀ y H4, Keep F H H4 → Iv (i + 1) H4 → Rel H4 y (fn c) → Qy y H4) → g x (wipe σ vs) H fun σ2 H2 => wipe σ2 vs = wipe σ vs ∧ te σ2 H2 Qy)
    (hd : ∀ H ys, Keep F H1 H → Iv cs.length H → H D = some (.lst ys) → Paired (Rel H) ys (cs.map fn) → Qd H) :
    ∃ W : Nat → Nat → Hp → Prop, (∃ m, W 0 m (upd H1 D (.lst []))) ∧ ∀ i m H, W i m H →
      (J.stop i H ∧ Qd H) ∨ (J.go i H ∧ ∃ Nx : Hp → Prop, (∀ H', Nx H' → ∃ m', m' < m ∧ W (i + 1) m' H') ∧ ∀ x H', J.yld i H x H' → g x (wipe σ vs) H' fun σ2 H2 => wipe σ2 vs = wipe σ vs ∧ tYes σ2 H2 fun b H3 =>
        if b = true then te σ2 H3 fun y H4 => ∃ acc, H4 D = some (.lst acc) ∧ acc.length < sizeLine ∧ Nx (upd H4 D (.lst (acc ++ [y]))) else Nx H3) := by
  have lne : ∀ (o : HO) (ys : List V), o = .lst ys → (∀ zs, o ≠ .tup zs) ∧ ∀ ob v, o ≠ .frz ob v := by
    rintro o ys rfl
    exact ⟨fun z => HO.noConfusion, fun z w => HO.noConfusion⟩
  refine ⟨fun i m H => m = cs.length - i ∧ i ≤ cs.length ∧ Keep F H1 H ∧ Iv i H ∧ ∃ ys, H D = some (.lst ys) ∧ Paired (Rel H) ys ((cs.take i).map fn), ⟨cs.length, by simp, Nat.zero_le _, Keep.new hD, ivm 0 _ _ (Keep.new hD) iv0, [], upd_same, ?_⟩, ?_⟩
  · rw [List.take_zero]
    exact .nil
  rintro i m H ⟨rfl, hi, k, iv, ys, eD, pr⟩
  by_cases hlt : i < cs.length
  · refine .inr ⟨wk.go i H hlt k, fun H' => Keep F H1 H' ∧ Iv (i + 1) H' ∧ ∃ ys, H' D = some (.lst ys) ∧ Paired (Rel H') ys ((cs.take (i + 1)).map fn), fun H' p => ⟨cs.length - (i + 1), by omega, rfl, hlt, p⟩, fun x H' y => ?_⟩
    obtain ⟨k1, it⟩ := wk.yld i x H H' hlt k y
    have hc : cs[i]? = some cs[i] := by simp [hlt]
    have kF : Keep F H1 H' := k.trans (Kp.to k1)
    have eD' : H' D = some (.lst ys) := kat k1 eD
    have iv' : Iv i H' := ivm i _ _ (Kp.to k1) iv
    have pr' : Paired (Rel H') ys ((cs.take i).map fn) := pd_mono pr fun a b r => mono _ _ _ _ (Kp.to k1) r
    have e : (fun (σ2 : St) (H2 : Hp) => wipe σ2 vs = wipe σ vs ∧ tYes σ2 H2 fun b H3 => if b = true then te σ2 H3 fun y H4 => ∃ acc, H4 D = some (.lst acc) ∧ acc.length < sizeLine ∧ (fun H' => Keep F H1 H' ∧ Iv (i + 1) H' ∧ ∃ ys, H' D = some (.lst ys) ∧ Paired (Rel H') ys ((cs.take (i + 1)).map fn)) (upd H4 D (.lst (acc ++ [y])))
        else (fun H' => Keep F H1 H' ∧ Iv (i + 1) H' ∧ ∃ ys, H' D = some (.lst ys) ∧ Paired (Rel H') ys ((cs.take (i + 1)).map fn)) H3) = fun σ2 H2 => wipe σ2 vs = wipe σ vs ∧ te σ2 H2 fun y H4 => ∃ acc, H4 D = some (.lst acc) ∧ acc.length < sizeLine ∧ (fun H' => Keep F H1 H' ∧ Iv (i + 1) H' ∧ ∃ ys, H' D = some (.lst ys) ∧ Paired (Rel H') ys ((cs.take (i + 1)).map fn)) (upd H4 D (.lst (acc ++ [y]))) := by
      funext σ2 H2
      exact congrArg (And _) tyes_if
    rw [e]
    refine step i cs[i] x H' _ hc it kF iv' ⟨_, eD'⟩ fun y H4 k4 iv4 r4 => ?_
    have e4 : H4 D = some (.lst ys) := k4.all _ _ eD' nF
    have kD : ∀ zs, Keep (fun b => b = D) H4 (upd H4 D (.lst zs)) := fun zs => Keep.put rfl e4 (lne _ _ rfl).1 (lne _ _ rfl).2
    have hlen : ys.length < sizeLine := by
      have h1 := pr'.length
      rw [List.length_map, List.length_take] at h1
      omega
    refine ⟨ys, e4, hlen, (kF.trans k4).mut hD e4 (lne _ _ rfl).1 (lne _ _ rfl).2, ivm _ _ _ (kD _) iv4, ys ++ [y], upd_same, ?_⟩
    have kD' : ∀ zs, Keep (fun b => F b ∨ b = D) H4 (upd H4 D (.lst zs)) := fun zs => (kD zs).mono fun _ _ _ f => .inr f
    rw [take_snoc hc, List.map_append]
    exact Paired.snoc (pd_mono pr' fun a b r => mono _ _ _ _ (k4.or.trans (kD' _)) r) (mono _ _ _ _ (kD' _) r4)
  · have e : i = cs.length := by omega
    subst e
    rw [List.take_length] at pr
    exact .inl ⟨wk.stop H k, hd H ys k iv eD pr⟩
/-! ### values -/
def unitsV (u : Units) : List V := u.map fun c => V.int (c.toNat : Nat)
mutual
def IsP (K : PySem.W.Frag) (H : Hp) : V → Plain → Prop
  | v, .undef => ∃ t, v = .ref t ∧ SqT K H t [.str "nothing"]
  | v, .null => ∃ t, v = .ref t ∧ SqT K H t [.str "null"]
  | v, .bool b => ∃ t, v = .ref t ∧ SqT K H t [.str "boolean", .bl b]
  | v, .num x => ∃ t i, x = some i ∧ v = .ref t ∧ SqT K H t [.str "integer", .int i]
  | v, .str u => ∃ t a, v = .ref t ∧ SqT K H t [.str "text", .ref a] ∧ SqT K H a (unitsV u)
  | v, .arr xs => ∃ t a vs, v = .ref t ∧ SqT K H t [.str "list", .ref a] ∧ SqT K H a vs ∧ IsPs K H vs xs
  | v, .obj fs => ∃ t a vs, v = .ref t ∧ SqT K H t [.str "record", .ref a] ∧ SqT K H a vs ∧ IsFs K H vs fs
  | _, .big _ => False
def IsPs (K : PySem.W.Frag) (H : Hp) : List V → List Plain → Prop
  | [], [] => True
  | v :: vs, x :: xs => IsP K H v x ∧ IsPs K H vs xs
  | _, _ => False
def IsFs (K : PySem.W.Frag) (H : Hp) : List V → List (Units × Plain) → Prop
  | [], [] => True
  | v :: vs, (n, x) :: fs => (∃ t a w, v = .ref t ∧ SqT K H t [.ref a, w] ∧ SqT K H a (unitsV n) ∧ IsP K H w x) ∧ IsFs K H vs fs
  | _, _ => False
end
section
variable {K : PySem.W.Frag} {F : Addr → Prop} {H H' : Hp}
mutual
theorem IsP.mono (k : Keep F H H') : ∀ (p : Plain) (v : V), IsP K H v p → IsP K H' v p
  | .undef, v, ⟨t, e, h⟩ => ⟨t, e, k.sqT h⟩
  | .null, v, ⟨t, e, h⟩ => ⟨t, e, k.sqT h⟩
  | .bool b, v, ⟨t, e, h⟩ => ⟨t, e, k.sqT h⟩
  | .num x, v, ⟨t, i, ex, e, h⟩ => ⟨t, i, ex, e, k.sqT h⟩
  | .str u, v, ⟨t, a, e, h, h2⟩ => ⟨t, a, e, k.sqT h, k.sqT h2⟩
  | .arr xs, v, ⟨t, a, vs, e, h, h2, h3⟩ => ⟨t, a, vs, e, k.sqT h, k.sqT h2, IsPs.mono k xs vs h3⟩
  | .obj fs, v, ⟨t, a, vs, e, h, h2, h3⟩ => ⟨t, a, vs, e, k.sqT h, k.sqT h2, IsFs.mono k fs vs h3⟩
  | .big _, v, h => h
theorem IsPs.mono (k : Keep F H H') : ∀ (ps : List Plain) (vs : List V), IsPs K H vs ps → IsPs K H' vs ps
  | [], [], _ => trivial
  | x :: xs, v :: vs, ⟨h1, h2⟩ => ⟨IsP.mono k x v h1, IsPs.mono k xs vs h2⟩
  | [], _ :: _, h => h
  | _ :: _, [], h => h
theorem IsFs.mono (k : Keep F H H') : ∀ (fs : List (Units × Plain)) (vs : List V), IsFs K H vs fs → IsFs K H' vs fs
  | [], [], _ => trivial
  | (n, x) :: fs, v :: vs, ⟨⟨t, a, w, e, h1, h2, h3⟩, h4⟩ => ⟨⟨t, a, w, e, k.sqT h1, k.sqT h2, IsP.mono k x w h3⟩, IsFs.mono k fs vs h4⟩
  | [], _ :: _, h => h
  | _ :: _, [], h => h
end
end
theorem isPs_len {K : PySem.W.Frag} {H : Hp} : ∀ {vs : List V} {ps : List Plain}, IsPs K H vs ps → vs.length = ps.length
  | [], [], _ => rfl
  | _ :: _, _ :: _, ⟨_, h⟩ => congrArg (· + 1) (isPs_len h)
  | [], _ :: _, h => h.elim
  | _ :: _, [], h => h.elim
theorem isFs_len {K : PySem.W.Frag} {H : Hp} : ∀ {vs : List V} {ps : List (Units × Plain)}, IsFs K H vs ps → vs.length = ps.length
  | [], [], _ => rfl
  | _ :: _, (_, _) :: _, ⟨_, h⟩ => congrArg (· + 1) (isFs_len h)
  | [], _ :: _, h => h.elim
  | _ :: _, [], h => h.elim
theorem isPs_get {K : PySem.W.Frag} {H : Hp} : ∀ {vs : List V} {ps : List Plain}, IsPs K H vs ps → ∀ {i : Nat} {v : V}, vs[i]? = some v → ∃ p, ps[i]? = some p ∧ IsP K H v p
  | [], [], _, i, v, e => by simp at e
  | a :: _, x :: _, ⟨h, _⟩, 0, v, e => by
    obtain rfl : a = v := Option.some.inj e
    exact ⟨x, rfl, h⟩
  | _ :: _, _ :: _, ⟨_, h⟩, i + 1, v, e => isPs_get h (by simpa using e)
  | [], _ :: _, h, _, _, _ => h.elim
  | _ :: _, [], h, _, _, _ => h.elim
theorem isPs_getR {K : PySem.W.Frag} {H : Hp} : ∀ {vs : List V} {ps : List Plain}, IsPs K H vs ps → ∀ {i : Nat} {p : Plain}, ps[i]? = some p → ∃ v, vs[i]? = some v ∧ IsP K H v p
  | [], [], _, i, v, e => by simp at e
  | a :: _, x :: _, ⟨h, _⟩, 0, v, e => by
    obtain rfl : x = v := Option.some.inj e
    exact ⟨a, rfl, h⟩
  | _ :: _, _ :: _, ⟨_, h⟩, i + 1, v, e => isPs_getR h (by simpa using e)
  | [], _ :: _, h, _, _, _ => h.elim
  | _ :: _, [], h, _, _, _ => h.elim
theorem isPs_of {K : PySem.W.Frag} {H : Hp} : ∀ {vs : List V} {ps : List Plain}, Paired (IsP K H) vs ps → IsPs K H vs ps
  | _, _, .nil => trivial
  | _, _, .cons h r => ⟨h, isPs_of r⟩
theorem isPs_app {K : PySem.W.Frag} {H : Hp} : ∀ {vs : List V} {ps : List Plain} {vs' : List V} {ps' : List Plain}, IsPs K H vs ps → IsPs K H vs' ps' → IsPs K H (vs ++ vs') (ps ++ ps')
  | [], [], _, _, _, h => h
  | _ :: _, _ :: _, _, _, ⟨h1, h2⟩, h => ⟨h1, isPs_app h2 h⟩
  | [], _ :: _, _, _, h, _ => h.elim
  | _ :: _, [], _, _, h, _ => h.elim
def FldAt (K : PySem.W.Frag) (H : Hp) (v : V) (x : Units × Plain) : Prop := ∃ t a w, v = .ref t ∧ SqT K H t [.ref a, w] ∧ SqT K H a (unitsV x.1) ∧ IsP K H w x.2
theorem isFs_of {K : PySem.W.Frag} {H : Hp} : ∀ {vs : List V} {ps : List (Units × Plain)}, Paired (FldAt K H) vs ps → IsFs K H vs ps
  | _, _, .nil => trivial
  | _, _, .cons (b := (_, _)) h r => ⟨h, isFs_of r⟩
theorem FldAt.mono {K : PySem.W.Frag} {F : Addr → Prop} {H H' : Hp} (k : Keep F H H') {v : V} {x : Units × Plain} (h : FldAt K H v x) : FldAt K H' v x := by
  obtain ⟨t, a, w, e, h1, h2, h3⟩ := h
  exact ⟨t, a, w, e, k.sqT h1, k.sqT h2, IsP.mono k _ _ h3⟩
/-- the constants of the text -/
structure Ct (K : PySem.W.Frag) (mg : Str → Option Value) (aN aU aA : Addr) : Prop where
  k_NOTHING : ∃ u, mg "NOTHING" = some u ∧ RelV (.ref aN) u
  k_NULL : ∃ u, mg "NULL" = some u ∧ RelV (.ref aU) u
  k_ARGUMENTS : ∃ u, mg "ARGUMENTS" = some u ∧ RelV (.ref aA) u
  k_WRONG_KIND_things : ∃ u, mg "WRONG_KIND_things" = some u ∧ RelV (.int 1) u
  k_OUT_OF_RANGE : ∃ u, mg "OUT_OF_RANGE" = some u ∧ RelV (.int 2) u
  k_DEEPEST : ∃ u, mg "DEEPEST" = some u ∧ RelV (.int 6) u
  k_WRONG_KIND_desk : ∃ u, mg "WRONG_KIND_desk" = some u ∧ RelV (.int 1) u
  t_NOTHING : ∀ H, SqT K H aN [.str "nothing"]
  t_NULL : ∀ H, SqT K H aU [.str "null"]
  t_ARGUMENTS : ∀ H, SqT K H aA (([3, 4, 4, 4, 5, 5, 3, 3, 4, 4, 5, 5, 1, 2, 2, 1] : List Int).map V.int)
section
variable {P : Program} {w : World} {K : PySem.W.Frag} {mg : Str → Option Value} {base : Heap}
/-! ### octets_of, text -/
def strV (x : Str) : List V := x.cps.toList.map fun c => V.int (c : Nat)
def spOctets : Sp := fun vs H Q _ => ∃ x : Str, vs = [.str x] ∧ x.cps.all (· < 128) = true ∧ x.cps.size ≤ 1000 ∧ ∀ H' r, Kp H H' → SqT K H' r (strV x) → Q (.ref r) H'
theorem b_octets_of (B : Bt mg) : Bd P w K mg base N_octets_of "octets_of" s_octets_of 0 (spOctets (K := K)) := by
  rintro f cdv A outer s H vs Q E hr ⟨x, rfl, ha, hl, post⟩
  refine ⟨_, pss_one (ps_ret (pe_callTy call_tuple_of (by rfl) B.tuple PyProof.Rows.boot_tuple (pa_cons (pe_lc (own := [("letter", 1)]) (g := (gName 1)) rfl sc_octets_of.nd (pi_str (pv 0)) (blkOk_by (N := N_octets_of) (sc := defScope s_octets_of) (by decide +kernel)) (fun _ _ _ _ _ => by exact pg_name (i := 1) sc_octets_of.nd rfl (Or.inl rfl)) (fun _ _ _ _ _ => pts_nil) (fun _ _ _ _ _ => by exact pe_callB call_ord (by rfl) B.ord PyProof.Rows.boot_ord (pa_cons (pv 1) pa_nil))) pa_nil))), ?_⟩
  refine ⟨_, rfl, x, rfl, fun D hD => ?_⟩
  refine lcA (F := fun _ => False) (cs := x.cps.toList) (by rw [Array.length_toList]; exact walk_str x) (fun c => (c : Nat)) (fun _ => True) (fun _ y b => y = V.int (b : Nat)) (fun f => f) hD (by rw [Array.length_toList]; exact lenL (by omega)) trivial (fun _ _ _ h => h) (fun _ _ _ _ _ r => r) (fun i c y H1 Qy hc it k _ go => ?_) fun H1 ys k _ e p => ?_
  · obtain ⟨c2, hc2, rfl⟩ := it
    obtain rfl : c = c2 := by
      rw [Array.getElem?_toList, hc2] at hc
      exact (Option.some.inj hc).symm
    exact ⟨rfl, _, rfl, _, rfl, rfl, go _ _ .refl trivial rfl⟩
  · refine ⟨D, _, rfl, .inl ⟨.of e, fun q hq => post _ _ (k.snoc hq) (.of ?_)⟩⟩
    rw [upd_same, pd_eq p, List.map_map]
    rfl
theorem b_octets_ofH (B : Bt mg) : BdH P w K mg base N_octets_of "octets_of" s_octets_of 0 (spOctets (K := K)) := by
  rintro f cdv A outer s H vs Q E p hot hr ⟨x, rfl, ha, hl, post⟩
  have hc : HotC (cxH L2.CX0 P w K mg base N_octets_of "octets_of" (defScope s_octets_of) f cdv A outer s H E p).nox := ⟨p, hot, List.mem_singleton.mpr rfl⟩
  refine ⟨_, pss_one (ps_ret (pe_callTy call_tuple_of (by rfl) B.tuple PyProof.Rows.boot_tuple (pa_cons (pe_lcH (own := [("letter", 1)]) (g := (gName 1)) hc sc_octets_of.nd (pi_ascH (pv 0)) (blkOk_by (N := N_octets_of) (sc := defScope s_octets_of) (by decide +kernel)) (fun _ _ _ _ _ => by exact pg_name (i := 1) sc_octets_of.nd rfl (Or.inl rfl)) (fun _ _ _ _ _ => by exact pe_callB call_ord (by rfl) B.ord PyProof.Rows.boot_ord (pa_cons (pv 1) pa_nil))) pa_nil))), ?_⟩
  refine ⟨_, rfl, x, rfl, ha, fun D hD => ?_⟩
  refine lcA (F := fun _ => False) (cs := x.cps.toList) (by rw [Array.length_toList]; exact walk_str x) (fun c => (c : Nat)) (fun _ => True) (fun _ y b => y = V.int (b : Nat)) (fun f => f) hD (by rw [Array.length_toList]; exact lenL (by omega)) trivial (fun _ _ _ h => h) (fun _ _ _ _ _ r => r) (fun i c y H1 Qy hc it k _ go => ?_) fun H1 ys k _ e p => ?_
  · obtain ⟨c2, hc2, rfl⟩ := it
    obtain rfl : c = c2 := by
      rw [Array.getElem?_toList, hc2] at hc
      exact (Option.some.inj hc).symm
    exact ⟨rfl, _, rfl, _, rfl, rfl, go _ _ .refl trivial rfl⟩
  · refine ⟨D, _, rfl, .inl ⟨.of e, fun q hq => post _ _ (k.snoc hq) (.of ?_)⟩⟩
    rw [upd_same, pd_eq p, List.map_map]
    rfl
end
end Fs

/-! text, integer, boolean, row, record, number_in, number_octets, refusal_octets, need_kind, need_range, the refusal's __init__. -/
namespace Fs
open PySem PySem.Spec PyProof.Rows L2 L2H
open R7286g.Spec (Plain Units)
def octV (l : List UInt8) : List V := l.map fun b => V.int (b.toNat : Nat)
section
variable {P : Program} {w : World} {K : PySem.W.Frag} {mg : Str → Option Value} {base : Heap}
def spText (K : PySem.W.Frag) : Sp := fun vs H Q _ => ∃ (x : Str) (u : Units), vs = [.str x] ∧ x.cps.all (· < 128) = true ∧ x.cps.size ≤ 1000 ∧ strV x = unitsV u ∧ ∀ H' v, Kp H H' → IsP K H' v (.str u) → Q v H'
theorem text_post {Q : VK} {u : Units} {x : Str} {H H1 : Hp} {r p : Addr} (e : strV x = unitsV u) (k1 : Kp H H1) (hr : SqT K H1 r (strV x)) (hp : H1 p = none) (post : ∀ H' v, Kp H H' → IsP K H' v (.str u) → Q v H') : Q (.ref p) (upd H1 p (.tup [.str "text", .ref r])) :=
  post _ _ (k1.snoc hp) ⟨p, r, rfl, .of upd_same, by rw [← e]; exact (Keep.new hp : Kp _ _).sqT hr⟩
theorem b_text (B : Bt mg) (c_octets_of : Cal P w K mg base 1 "octets_of" (spOctets (K := K))) : Bd P w K mg base N_text "text" s_text 1 (spText K) := by
  rintro f cdv A outer s H vs Q E hr ⟨x, u, rfl, ha, hl, e, post⟩
  refine ⟨_, pss_one (ps_ret (pe_tup (pa_cons (pe_str) (pa_cons (pe_c c_octets_of hr (by omega) (by rfl) (pa_cons (pv 0) pa_nil)) pa_nil)))), ?_⟩
  exact ⟨_, rfl, x, rfl, ha, hl, fun H1 r k1 h1 => ⟨two_le, fun p hp => text_post e k1 h1 hp post⟩⟩
theorem b_textH (B : Bt mg) (c_octets_ofH : CalH P w K mg base 1 "octets_of" (spOctets (K := K))) : BdH P w K mg base N_text "text" s_text 1 (spText K) := by
  rintro f cdv A outer s H vs Q E p hot hr ⟨x, u, rfl, ha, hl, e, post⟩
  have hc : HotC (cxH L2.CX0 P w K mg base N_text "text" (defScope s_text) f cdv A outer s H E p).nox := ⟨p, hot, List.mem_singleton.mpr rfl⟩
  refine ⟨_, pss_one (ps_ret (pe_tup (pa_cons (pe_str) (pa_cons (pe_cH c_octets_ofH hr (by omega) hc (by rfl) (pa_cons (pv 0) pa_nil)) pa_nil)))), ?_⟩
  exact ⟨_, rfl, x, rfl, ha, hl, fun H1 r k1 h1 => ⟨two_le, fun p hp => text_post e k1 h1 hp post⟩⟩
def spInteger (K : PySem.W.Frag) : Sp := fun vs H Q _ => ∃ i : Int, vs = [.int i] ∧ ∀ H' v, Kp H H' → IsP K H' v (.num (some i)) → Q v H'
theorem b_integer : Bd P w K mg base N_integer "integer" s_integer 0 (spInteger K) := by
  rintro f cdv A outer s H vs Q E hr ⟨i, rfl, post⟩
  refine ⟨_, pss_one (ps_ret (pe_tup (pa_cons (pe_str) (pa_cons (pv 0) pa_nil)))), ?_⟩
  exact ⟨_, rfl, two_le, fun p hp => post _ _ (Keep.new hp) ⟨p, i, rfl, rfl, .of upd_same⟩⟩
def spBoolean (K : PySem.W.Frag) : Sp := fun vs H Q _ => ∃ b : Bool, vs = [.bl b] ∧ ∀ H' v, Kp H H' → IsP K H' v (.bool b) → Q v H'
theorem b_boolean : Bd P w K mg base N_boolean "boolean" s_boolean 0 (spBoolean K) := by
  rintro f cdv A outer s H vs Q E hr ⟨i, rfl, post⟩
  refine ⟨_, pss_one (ps_ret (pe_tup (pa_cons (pe_str) (pa_cons (pv 0) pa_nil)))), ?_⟩
  exact ⟨_, rfl, two_le, fun p hp => post _ _ (Keep.new hp) ⟨p, rfl, .of upd_same⟩⟩
def spRow (K : PySem.W.Frag) : Sp := fun vs H Q _ => ∃ (a : Addr) (ys : List V) (ps : List Plain), vs = [.ref a] ∧ H a = some (.lst ys) ∧ IsPs K H ys ps ∧ ∀ H' v, Kp H H' → IsP K H' v (.arr ps) → Q v H'
theorem row_post {Q : VK} {ps : List Plain} {ys : List V} {H : Hp} {q p : Addr} (h : IsPs K H ys ps) (hq : H q = none) (hp : upd H q (.tup ys) p = none) (post : ∀ H' v, Kp H H' → IsP K H' v (.arr ps) → Q v H') : Q (.ref p) (upd (upd H q (.tup ys)) p (.tup [.str "list", .ref q])) := by
  have k1 : Kp H (upd H q (.tup ys)) := Keep.new hq
  have k2 : Kp (upd H q (.tup ys)) (upd (upd H q (.tup ys)) p (.tup [.str "list", .ref q])) := Keep.new hp
  exact post _ _ (k1.trans k2) ⟨p, q, ys, rfl, .of upd_same, .of (k2.tup _ _ upd_same), IsPs.mono (k1.trans k2) _ _ h⟩
theorem b_row (B : Bt mg) : Bd P w K mg base N_row "row" s_row 0 (spRow K) := by
  rintro f cdv A outer s H vs Q E hr ⟨a, ys, ps, rfl, ea, h, post⟩
  refine ⟨_, pss_one (ps_ret (pe_tup (pa_cons (pe_str) (pa_cons (pe_callTy call_tuple_of (by rfl) B.tuple PyProof.Rows.boot_tuple (pa_cons (pv 0) pa_nil)) pa_nil)))), ?_⟩
  exact ⟨_, rfl, a, ys, rfl, .inl ⟨.of ea, fun q hq => ⟨two_le, fun p hp => row_post h hq hp post⟩⟩⟩
theorem b_rowH (B : Bt mg) : BdH P w K mg base N_row "row" s_row 0 (spRow K) := by
  rintro f cdv A outer s H vs Q E p hot hr ⟨a, ys, ps, rfl, ea, h, post⟩
  refine ⟨_, pss_one (ps_ret (pe_tup (pa_cons (pe_str) (pa_cons (pe_callTy call_tuple_of (by rfl) B.tuple PyProof.Rows.boot_tuple (pa_cons (pv 0) pa_nil)) pa_nil)))), ?_⟩
  exact ⟨_, rfl, a, ys, rfl, .inl ⟨.of ea, fun q hq => ⟨two_le, fun p hp => row_post h hq hp post⟩⟩⟩
/-! ### record -/
def RecIn (K : PySem.W.Frag) (H : Hp) (v : V) (x : Units × Plain) : Prop := ∃ t s y, v = .ref t ∧ H t = some (.tup [.str s, y]) ∧ s.cps.all (· < 128) = true ∧ s.cps.size ≤ 1000 ∧ strV s = unitsV x.1 ∧ IsP K H y x.2
theorem RecIn.mono {F : Addr → Prop} {H H' : Hp} (k : Keep F H H') {v : V} {x : Units × Plain} (h : RecIn K H v x) : RecIn K H' v x := by
  obtain ⟨t, s, y, e, h1, h2, h3, h4, h5⟩ := h
  exact ⟨t, s, y, e, k.tup _ _ h1, h2, h3, h4, IsP.mono k _ _ h5⟩
def spRecord (K : PySem.W.Frag) : Sp := fun vs H Q _ => ∃ (a : Addr) (ys : List V) (fs : List (Units × Plain)), vs = [.ref a] ∧ H a = some (.lst ys) ∧ Paired (RecIn K H) ys fs ∧ ys.length ≤ 1000 ∧ ∀ H' v, Kp H H' → IsP K H' v (.obj fs) → Q v H'
theorem b_record (B : Bt mg) (c_octets_of : Cal P w K mg base 1 "octets_of" (spOctets (K := K))) : Bd P w K mg base N_record "record" s_record 1 (spRecord K) := by
  rintro f cdv A outer s H vs Q E hr ⟨a, ys, fs, rfl, ea, pr, hl, post⟩
  refine ⟨_, pss_one (ps_ret (pe_tup (pa_cons (pe_str) (pa_cons (pe_callTy call_tuple_of (by rfl) B.tuple PyProof.Rows.boot_tuple (pa_cons (pe_lc (own := [("name", 1), ("value", 2)]) (g := (gTup K 2 (gCons (gName 1) (gCons (gName 2) gNil)))) (te := (tTup (tCons (tCl _ E0 (tCons (tVar 1) tNil)) (tCons (tVar 2) tNil)))) rfl sc_record.nd (pi_list (pv 0)) (blkOk_by (N := N_record) (sc := defScope s_record) (by decide +kernel)) (fun _ _ _ _ _ => by exact pg_tup rfl (pgs_cons (pg_name (i := 1) sc_record.nd rfl (Or.inl rfl)) (pgs_cons (pg_name (i := 2) sc_record.nd rfl (Or.inl rfl)) pgs_nil))) (fun _ _ _ _ _ => pts_nil) (fun _ _ _ _ _ => by exact pe_tup (pa_cons (pe_c c_octets_of hr (by omega) (by rfl) (pa_cons (pv 1) pa_nil)) (pa_cons (pv 2) pa_nil)))) pa_nil)) pa_nil)))), ?_⟩
  refine ⟨_, rfl, a, rfl, ⟨ys, .of ea⟩, fun D hD => ?_⟩
  refine lcA (F := fun _ => False) (cs := fs) (by rw [← pr.length]; exact walk_list (.of ea) fun f => f) (fun x => x) (fun _ => True) (FldAt K) (fun f => f) hD (by rw [← pr.length]; exact lenL (by omega)) trivial (fun _ _ _ h => h) (fun H H' y b k r => r.mono k) (fun i c x H1 Qy hc it k _ go => ?_) fun H1 zs k _ e p => ?_
  · obtain ⟨c2, hc2, t, st, y, rfl, et, ha, hl2, es, hy⟩ := pd_get pr it
    obtain rfl : c = c2 := by
      rw [hc] at hc2
      exact Option.some.inj hc2
    refine ⟨t, _, rfl, .of (k.tup _ _ et), rfl, _, _, rfl, _, _, rfl, rfl, rfl, ?_⟩
    refine ⟨_, rfl, st, rfl, ha, hl2, fun H2 r k2 h2 => ⟨_, rfl, two_le, fun p hp => go _ _ (k2.snoc hp) trivial ⟨p, r, y, rfl, .of upd_same, ?_, ?_⟩⟩⟩
    · rw [← es]
      exact (Keep.new hp : Kp _ _).sqT h2
    · exact IsP.mono ((k.trans k2).snoc hp) _ _ hy
  · rw [List.map_id'] at p
    refine ⟨D, _, rfl, .inl ⟨.of e, fun q hq => ⟨two_le, fun p2 hp2 => ?_⟩⟩⟩
    have k1 : Kp H1 (upd H1 q (.tup zs)) := Keep.new hq
    have k2 : Kp (upd H1 q (.tup zs)) (upd (upd H1 q (.tup zs)) p2 (.tup [.str "record", .ref q])) := Keep.new hp2
    exact post _ _ (k.trans (k1.trans k2)) ⟨p2, q, zs, rfl, .of upd_same, .of (k2.tup _ _ upd_same), IsFs.mono (k1.trans k2) _ _ (isFs_of p)⟩
/-! ### number_in -/
def tagOf : Plain → Str
  | .undef => "nothing"
  | .null => "null"
  | .bool _ => "boolean"
  | .num _ => "integer"
  | .str _ => "text"
  | .arr _ => "list"
  | .obj _ => "record"
  | .big _ => "big"
theorem isP_tag {H : Hp} {v : V} {p : Plain} (h : IsP K H v p) : ∃ t r, v = .ref t ∧ SqT K H t (.str (tagOf p) :: r) := by
  cases p with
  | undef => obtain ⟨t, e, h⟩ := h; exact ⟨t, _, e, h⟩
  | null => obtain ⟨t, e, h⟩ := h; exact ⟨t, _, e, h⟩
  | bool b => obtain ⟨t, e, h⟩ := h; exact ⟨t, _, e, h⟩
  | num x => obtain ⟨t, i, ex, e, h⟩ := h; exact ⟨t, _, e, h⟩
  | str u => obtain ⟨t, a, e, h, _⟩ := h; exact ⟨t, _, e, h⟩
  | arr xs => obtain ⟨t, a, vs, e, h, _⟩ := h; exact ⟨t, _, e, h⟩
  | obj fs => obtain ⟨t, a, vs, e, h, _⟩ := h; exact ⟨t, _, e, h⟩
  | big i => exact h.elim
def numIn (p : Plain) (lo hi : Int) : Bool := match p with
  | .num (some i) => decide (lo ≤ i) && decide (i ≤ hi)
  | _ => false
def spNumberIn (K : PySem.W.Frag) : Sp := fun vs H Q _ => ∃ (v : V) (p : Plain) (lo hi : Int), vs = [v, .int lo, .int hi] ∧ IsP K H v p ∧ Q (.bl (numIn p lo hi)) H
theorem strne {a b : Str} (h : (a == b) = false) : decide (V.str a = V.str b) = false := decide_eq_false fun z => by
  injection z with z
  rw [z] at h
  have : (b == b) = true := beq_self_eq_true b
  rw [this] at h
  cases h
theorem streq (a : Str) : decide (V.str a = V.str a) = true := decide_eq_true rfl
theorem b_number_in : Bd P w K mg base N_number_in "number_in" s_number_in 0 (spNumberIn K) := by
  rintro f cdv A outer s H vs Q E hr ⟨v, p, lo, hi, rfl, h, post⟩
  refine ⟨_, pss_one (ps_ret (pe_and (pe_cmpR op_eq (pe_ix ix_seq (pv 0) (pe_int) (fun _ _ => rfl)) (pe_str) (nomark _)) (pe_one (pe_chain op_le op_le (pv 1) (pe_ix ix_seq (pv 0) (pe_int) (fun _ _ => rfl)) (pv 2))))), ?_⟩
  obtain ⟨t, r, rfl, ht⟩ := isP_tag h
  refine ⟨_, rfl, .inr (.inl ⟨t, _, 0, _, rfl, rfl, ht, atI_nat (j := 0) rfl, rfl, _, rfl, ?_⟩)⟩
  have other : tagOf p ≠ "integer" → numIn p lo hi = false := fun n => by
    cases p with
    | num x => exact absurd rfl n
    | _ => rfl
  cases p with
  | num x =>
    obtain ⟨t', i, rfl, e, hs⟩ := h
    cases e
    refine ifT (streq _) ⟨_, rfl, _, rfl, .inr (.inl ⟨t, _, 1, _, rfl, rfl, hs, atI_nat (j := 1) rfl, _, _, rfl, rfl, _, rfl, ifB (fun h1 => ?_) fun h1 => ?_⟩)⟩
    · refine ⟨_, rfl, _, _, rfl, rfl, ?_⟩
      have e : numIn (.num (some i)) lo hi = (decide (lo ≤ i) && decide (i ≤ hi)) := rfl
      rw [e, h1] at post
      exact post
    · have e : numIn (.num (some i)) lo hi = (decide (lo ≤ i) && decide (i ≤ hi)) := rfl
      rw [e, h1] at post
      exact post
  | undef => exact ifF (strne (a := "nothing") (by decide +kernel)) post
  | null => exact ifF (strne (a := "null") (by decide +kernel)) post
  | bool b => exact ifF (strne (a := "boolean") (by decide +kernel)) post
  | str u => exact ifF (strne (a := "text") (by decide +kernel)) post
  | arr xs => exact ifF (strne (a := "list") (by decide +kernel)) post
  | obj fs => exact ifF (strne (a := "record") (by decide +kernel)) post
  | big i => exact h.elim
/-! ### number_octets -/
def spNumOct : Sp := fun vs H Q _ => ∃ (n m : Nat), vs = [.int n, .int m] ∧ m ≤ 100 ∧ ∀ H' r, Kp H H' → H r = none → H' r = some (.lst (octV (RWire.low m n))) → Q (.ref r) H'
theorem octV_app (a b : List UInt8) : octV (a ++ b) = octV a ++ octV b := List.map_append
theorem numoct_turn {m i n' : Nat} {pre : List UInt8} (hi : i < m) : pre ++ RWire.low (m - i) n' = (pre ++ [UInt8.ofNat n']) ++ RWire.low (m - (i + 1)) (n' / 256) := by
  obtain ⟨j, hj⟩ : ∃ j, m - i = j + 1 := ⟨m - i - 1, by omega⟩
  have e : m - (i + 1) = j := by omega
  rw [hj, e, RWire.low, List.append_assoc]
  rfl
theorem u8v (n : Nat) : V.int (((UInt8.ofNat n).toNat : Nat) : Int) = V.int ((n : Int) % 256) := by
  have e : (((UInt8.ofNat n).toNat : Nat) : Int) = (n : Int) % 256 := by
    rw [UInt8.toNat_ofNat']
    omega
  rw [e]
theorem b_number_octets (B : Bt mg) : Bd P w K mg base N_number_octets "number_octets" s_number_octets 0 spNumOct := by
  rintro f cdv A outer s H vs Q E hr ⟨n, m, rfl, hm, post⟩
  refine ⟨_, pss_cons (ps_set (i := 2) sc_number_octets.nd rfl (Or.inl rfl) (pe_lst pa_nil))
    (pss_cons (ps_for PassesOwn.never rfl (pi_range1 rfl B.range (pa_cons (pv 1) pa_nil)) (pg_name (i := 3) sc_number_octets.nd rfl (Or.inl rfl)) (pss_cons (ps_expr (pe_bm PySem.F.plainAttrs_list PySem.F.slot_list_append PySem.F.type_list_append mt_append (pv 2) (pa_cons (pe_op op_mod (pv 0) (pe_int)) pa_nil)))
    (pss_one (ps_aug (i := 0) sc_number_octets.nd rfl (Or.inl rfl) (pe_int) iop_fdiv))))
    (pss_one (ps_ret (pv 2)))), ?_⟩
  refine ⟨Nat.zero_le _, fun r hr0 => ?_⟩
  refine ⟨_, rfl, (m : Int), rfl, by omega, by omega, for_range (n := m) (fun i σ H' => ∃ (n' : Nat) (pre : List UInt8) (v : Option V), σ = [some (.int n'), some (.int m), some (.ref r), v] ∧ Kp H H' ∧ H' r = some (.lst (octV pre)) ∧ pre.length = i ∧ RWire.low m n = pre ++ RWire.low (m - i) n')
    ⟨n, [], none, rfl, Keep.new hr0, upd_same, rfl, rfl⟩ ?_ ?_⟩
  · rintro i σ H1 hi ⟨n', pre, v, rfl, k, er, hp, e⟩
    refine ⟨_, rfl, .inl ⟨rfl, _, .of er⟩, _, rfl, _, _, rfl, rfl, (by show (0 : Int) < 256; decide), r, _, _, rfl, rfl, er, (by rw [octV, List.length_map, hp]; exact Nat.lt_of_lt_of_le hi (lenL (by omega))), ?_⟩
    refine ⟨_, rfl, _, _, rfl, rfl, ⟨by decide, by decide⟩, n' / 256, pre ++ [UInt8.ofNat n'], _, rfl, ?_, ?_, ?_, ?_⟩
    · exact k.mut hr0 er (by intro z; exact HO.noConfusion) (by intro z w; exact HO.noConfusion)
    · rw [upd_same, octV_app]
      show some (HO.lst (octV pre ++ [V.int ((n' : Int) % 256)])) = some (HO.lst (octV pre ++ [V.int (((UInt8.ofNat n').toNat : Nat) : Int)]))
      rw [u8v]
    · rw [List.length_append, hp]
      rfl
    · rw [e, numoct_turn hi]
  · rintro σ H1 ⟨n', pre, v, rfl, k, er, hp, e⟩
    refine ⟨_, rfl, post _ _ k hr0 ?_⟩
    rw [er, e, Nat.sub_self, RWire.low, List.append_nil]
theorem b_number_octetsH (B : Bt mg) : BdH P w K mg base N_number_octets "number_octets" s_number_octets 0 spNumOct := by
  rintro f cdv A outer s H vs Q E p hot hr ⟨n, m, rfl, hm, post⟩
  have hc : HotC (cxH L2.CX0 P w K mg base N_number_octets "number_octets" (defScope s_number_octets) f cdv A outer s H E p).nox := ⟨p, hot, List.mem_singleton.mpr rfl⟩
  refine ⟨_, pss_cons (ps_set (i := 2) sc_number_octets.nd rfl (Or.inl rfl) (pe_lst pa_nil))
    (pss_cons (ps_forH PassesOwn.never hc (pi_range1H rfl B.range (pa_cons (pv 1) pa_nil)) (pg_name (i := 3) sc_number_octets.nd rfl (Or.inl rfl)) (pss_cons (ps_expr (pe_bm PySem.F.plainAttrs_list PySem.F.slot_list_append PySem.F.type_list_append mt_append (pv 2) (pa_cons (pe_op op_mod (pv 0) (pe_int)) pa_nil)))
    (pss_one (ps_aug (i := 0) sc_number_octets.nd rfl (Or.inl rfl) (pe_int) iop_fdiv))))
    (pss_one (ps_ret (pv 2)))), ?_⟩
  refine ⟨Nat.zero_le _, fun r hr0 => ?_⟩
  refine ⟨_, rfl, (m : Int), rfl, by omega, by omega, for_range (n := m) (fun i σ H' => ∃ (n' : Nat) (pre : List UInt8) (v : Option V), σ = [some (.int n'), some (.int m), some (.ref r), v] ∧ Kp H H' ∧ H' r = some (.lst (octV pre)) ∧ pre.length = i ∧ RWire.low m n = pre ++ RWire.low (m - i) n')
    ⟨n, [], none, rfl, Keep.new hr0, upd_same, rfl, rfl⟩ ?_ ?_⟩
  · rintro i σ H1 hi ⟨n', pre, v, rfl, k, er, hp, e⟩
    refine ⟨_, rfl, .inl ⟨rfl, _, .of er⟩, _, rfl, _, _, rfl, rfl, (by show (0 : Int) < 256; decide), r, _, _, rfl, rfl, er, (by rw [octV, List.length_map, hp]; exact Nat.lt_of_lt_of_le hi (lenL (by omega))), ?_⟩
    refine ⟨_, rfl, _, _, rfl, rfl, ⟨by decide, by decide⟩, n' / 256, pre ++ [UInt8.ofNat n'], _, rfl, ?_, ?_, ?_, ?_⟩
    · exact k.mut hr0 er (by intro z; exact HO.noConfusion) (by intro z w; exact HO.noConfusion)
    · rw [upd_same, octV_app]
      show some (HO.lst (octV pre ++ [V.int ((n' : Int) % 256)])) = some (HO.lst (octV pre ++ [V.int (((UInt8.ofNat n').toNat : Nat) : Int)]))
      rw [u8v]
    · rw [List.length_append, hp]
      rfl
    · rw [e, numoct_turn hi]
  · rintro σ H1 ⟨n', pre, v, rfl, k, er, hp, e⟩
    refine ⟨_, rfl, post _ _ k hr0 ?_⟩
    rw [er, e, Nat.sub_self, RWire.low, List.append_nil]
/-! ### refusal_octets, where the refusal is handled -/
def spRefusal : Sp := fun vs H Q _ => ∃ (c : Nat) (x : Str) (u : List UInt8), vs = [.int c, .str x] ∧ x.cps.all (· < 128) = true ∧ x.cps.size ≤ 1000 ∧ c < 256 ∧ strV x = octV u ∧ ∀ H' r, Kp H H' → H r = none → H' r = some (.lst (octV (RWire.writeAnswer (.refused c u)))) → Q (.ref r) H'
theorem b_refusal_octetsH (B : Bt mg) (c_octets_ofH : CalH P w K mg base 1 "octets_of" (spOctets (K := K))) (c_number_octetsH : CalH P w K mg base 1 "number_octets" spNumOct) : BdH P w K mg base N_refusal_octets "refusal_octets" s_refusal_octets 1 spRefusal := by
  rintro f cdv A outer s H vs Q E p hot hr ⟨c, x, u, rfl, ha, hl, hc256, e, post⟩
  have hc : HotC (cxH L2.CX0 P w K mg base N_refusal_octets "refusal_octets" (defScope s_refusal_octets) f cdv A outer s H E p).nox := ⟨p, hot, List.mem_singleton.mpr rfl⟩
  refine ⟨_, pss_cons (ps_set (i := 2) sc_refusal_octets.nd rfl (Or.inl rfl) (pe_cH c_octets_ofH hr (by omega) hc (by rfl) (pa_cons (pv 1) pa_nil)))
    (pss_one (ps_ret (pe_op op_cat (pe_op op_cat (pe_lst (pa_cons (pe_int) (pa_cons (pv 0) pa_nil))) (pe_cH c_number_octetsH hr (by omega) hc (by rfl) (pa_cons (pe_callB call_len_seq (by rfl) B.len PySem.boot_len (pa_cons (pv 2) pa_nil)) (pa_cons (pe_int) pa_nil)))) (pe_callTy call_list_of (by rfl) B.list PyProof.Rows.boot_list (pa_cons (pv 2) pa_nil))))), ?_⟩
  have el : (strV x).length = u.length := by rw [e, octV, List.length_map]
  have ul : u.length ≤ 1000 := by
    rw [← el, strV, List.length_map, Array.length_toList]
    exact hl
  refine ⟨_, rfl, x, rfl, ha, hl, fun H1 r k1 h1 => ?_⟩
  refine ⟨_, rfl, two_le, fun a1 n1 => ?_⟩
  have k2 : Kp H1 (upd H1 a1 (.lst [.int 1, .int c])) := Keep.new n1
  have e1 : upd H1 a1 (.lst [.int 1, .int c]) a1 = some (.lst [.int 1, .int c]) := upd_same
  generalize upd H1 a1 (.lst [.int 1, .int c]) = H2 at k2 e1
  refine ⟨_, rfl, r, _, rfl, .inr (k2.sqT h1), u.length, 4, (by rw [el]; rfl), by omega, fun H3 r3 k3 _ e3 => ?_⟩
  refine ⟨a1, r3, _, _, rfl, rfl, kat k3 e1, e3, (by simp only [octV, List.length_map, List.length_cons, List.length_nil]; show _ + 4 ≤ _; exact lenL (by omega)), fun a4 n4 => ?_⟩
  have k4 : Kp H3 (upd H3 a4 (.lst ([.int 1, .int c] ++ octV (RWire.low 4 u.length)))) := Keep.new n4
  have e4 : upd H3 a4 (.lst ([.int 1, .int c] ++ octV (RWire.low 4 u.length))) a4 = some (.lst ([.int 1, .int c] ++ octV (RWire.low 4 u.length))) := upd_same
  generalize upd H3 a4 (.lst ([.int 1, .int c] ++ octV (RWire.low 4 u.length))) = H4 at k4 e4
  have h4 : SqT K H4 r (strV x) := k4.sqT (k3.sqT (k2.sqT h1))
  refine ⟨_, rfl, r, _, rfl, .inr h4, fun a5 n5 => ?_⟩
  have k5 : Kp H4 (upd H4 a5 (.lst (strV x))) := Keep.new n5
  have e5 : upd H4 a5 (.lst (strV x)) a5 = some (.lst (strV x)) := upd_same
  generalize upd H4 a5 (.lst (strV x)) = H5 at k5 e5
  refine ⟨a4, a5, _, _, rfl, rfl, kat k5 e4, e5, (by rw [el]; simp only [octV, List.length_append, List.length_map, List.length_cons, List.length_nil]; show _ + 4 + _ ≤ _; exact lenL (by omega)), fun a6 n6 => ?_⟩
  refine post _ _ ((((k1.trans k2).trans k3).trans (k4.trans k5)).snoc n6) (Kp.free (((k1.trans k2).trans k3).trans (k4.trans k5)) n6) ?_
  rw [upd_same, e]
  have e6 : (UInt8.ofNat c).toNat = c := by rw [UInt8.toNat_ofNat']; omega
  show some (HO.lst (([.int 1, .int c] ++ octV (RWire.low 4 u.length)) ++ octV u)) = some (HO.lst (V.int 1 :: V.int ((UInt8.ofNat c).toNat : Nat) :: octV (RWire.low 4 u.length ++ u)))
  rw [e6, octV_app, List.append_assoc]
  rfl
/-! ### the refusal -/
def XdAt (H : Hp) (d : Addr) (k : Nat) (m : Str) : Prop := ∃ fs : List (Str × V), H d = some (.xd fs) ∧ fs.lookup ("kind" : Str) = some (.int k) ∧ fs.lookup ("message" : Str) = some (.str m)
def spRf (C : Addr) : Sp := fun vs H Q _ => ∃ (a : Addr) (k : Nat) (m : Str), vs = [.ref a, .int k, .str m] ∧ H a = some (exo a C none) ∧ ∀ d H2, H d = none → d ≠ a → (∀ b, b ≠ a → b ≠ d → H2 b = H b) → H2 a = some (exo a C (some d)) → H2 d = some (exd d [("message", .str m), ("kind", .int k)]) → Q .non H2
/-- the class of the refusal -/
structure RfB (K : PySem.W.Frag) (mg : Str → Option Value) (C : Addr) : Prop where
  c : RfC K C
  nK : PySem.W.findIn K (.ref C) "kind" = some none
  nM : PySem.W.findIn K (.ref C) "message" = some none
  ex : ∃ (f : Addr) (fd : FuncData), Fun K "__init__" "Refused.__init__" s_Refused_new f fd ∧ PySem.W.findIn K (.ref C) "__init__" = some (some (.ref f)) ∧ PySem.W.typeIn K (.ref f) = some (.type "function") ∧ Binds K fd ["self", "kind", "message"] []
  gC : mg "Refused" = some (.ref C)
theorem b_Refused_new {C : Addr} (R : RfB K mg C) : Bd P w K mg base N_Refused_new "Refused.__init__" s_Refused_new 0 (spRf C) := by
  rintro f cdv A outer s H vs Q E hr ⟨a, k, m, rfl, ea, post⟩
  refine ⟨_, pss_cons (ps_rf (pv 0) (pv 1)) (pss_one (ps_rf (pv 0) (pv 2))), ?_⟩
  refine ⟨_, rfl, _, rfl, a, C, rfl, R.c, R.nK, .inl ⟨ea, fun d hd ne => ?_⟩⟩
  refine ⟨_, rfl, _, rfl, a, C, rfl, R.c, R.nM, .inr ⟨d, _, upd_same, by rw [upd_ne ne]; exact upd_same, (by show 1 ≤ 900; decide), ?_⟩⟩
  refine post d _ hd ne (fun b h1 h2 => by rw [upd_ne h2, upd_ne h1, upd_ne h2]) (by rw [upd_ne ne.symm, upd_same]) upd_same
structure RfX (P : Program) (w : World) (K : PySem.W.Frag) (mg : Str → Option Value) (base : Heap) (C : Addr) : Prop where
  c : RfC K C
  ex : ∃ (f : Addr) (fd : FuncData), FnOk P w K mg base L2.CX0 1 f fd ["self", "kind", "message"] (spRf C) ∧ PySem.W.findIn K (.ref C) "__init__" = some (some (.ref f)) ∧ PySem.W.typeIn K (.ref f) = some (.type "function") ∧ Binds K fd ["self", "kind", "message"] []
  gC : mg "Refused" = some (.ref C)
theorem RfB.x {C : Addr} (R : RfB K mg C) : RfX P w K mg base C := by
  obtain ⟨f, fd, F, h1, h2, h3⟩ := R.ex
  exact ⟨R.c, ⟨f, fd, fnBd F sc_Refused_new (fun vs H Q E h => by obtain ⟨a, k, m, rfl, _⟩ := h; rfl) (b_Refused_new R), h1, h2, h3⟩, R.gC⟩
theorem pmk_r {X : Cx} {C : Addr} {j : Nat} {p pos : Pos} {e : Expr} {es : List Expr} {ta : TA} (R : RfX X.prog X.w X.K X.mg X.base C) (hr : Room j X.A) (hk : 2 ≤ j) (hg : Gl X "Refused") (ha : PA X (e :: es) ta)
    (he : starEach (e :: es) X.env = (false, eval e X.env) :: starEach es X.env := by rfl) (hpl : (backTo pos (starEach es X.env)).any (·.1) = false := by rfl) :
    L2N.PMk X (.Call (.Name "Refused" p) (e :: es) [] pos) (tMkO C (spRf C) [] ta) := by
  obtain ⟨f, fd, F, h1, h2, h3⟩ := R.ex
  exact pmk_rf R.c h1 h2 F (hr.mono hk) h3 pass0 hg R.gC ha (by decide) he hpl
def spNeed (C : Addr) (k : Nat) : Sp := fun vs H Q E => ∃ (t : Bool) (m : Str), vs = [.bl t, .str m] ∧ (t = true → Q .non H) ∧ (t = false → ∀ d H', Kp H H' → XdAt H' d k m → E (.ref C) (some d) H')
theorem need_way {C : Addr} {k : Nat} {m : Str} {H : Hp} {E : XK} {a : Addr} (ha : H a = none) (post : ∀ d H', Kp H H' → XdAt H' d k m → E (.ref C) (some d) H') :
    spRf C [.ref a, .int k, .str m] (upd H a (exo a C none)) (fun v H2 => v = .non ∧ ∃ (d : Addr) (fs : List (Str × V)), H2 a = some (exo a C (some d)) ∧ H2 d = some (exd d fs) ∧ H d = none ∧ E (.ref C) (some d) (upd (del H2 a) d (.xd fs))) (fun _ _ _ => False) := by
  refine ⟨a, k, m, rfl, upd_same, fun d H2 hd ne h1 h2 h3 => ⟨rfl, d, _, h2, h3, ?_, post d _ ?_ ⟨_, upd_same, (lkB (by decide +kernel)).trans lkA, lkA⟩⟩⟩
  · rw [upd_ne ne] at hd
    exact hd
  · have hdn : H d = none := by
      rw [upd_ne ne] at hd
      exact hd
    have all : ∀ b o, H b = some o → upd (del H2 a) d (.xd [("message", .str m), ("kind", .int k)]) b = some o := fun b o e => by
      have n1 : b ≠ a := ne_of_none e ha
      have n2 : b ≠ d := ne_of_none e hdn
      rw [upd_ne n2]
      have e2 : del H2 a b = H2 b := by
        unfold del
        rw [if_neg n1]
      rw [e2, h1 b n1 n2, upd_ne n1]
      exact e
    exact ⟨fun b o e _ => all b o e, fun b xs e => all b _ e, fun b o u e => all b _ e⟩
theorem b_need_kind {C : Addr} {aN aU aA : Addr} (T : Ct K mg aN aU aA) (rx : RfX P w K mg base C) : BdX P w K mg base N_need_kind "need_kind" s_need_kind 2 (spNeed C 1) := by
  rintro f cdv A outer s H vs Q E hr ⟨t, m, rfl, h1, h2⟩
  refine ⟨_, pss_one (ps_if (pt_not (pt_truth (pv 0) (fun _ => rfl))) (pss_one (L2N.ps_raise rfl (L2N.takes_of rfl rfl rfl rfl) (pmk_r rx hr (by omega) rfl (pa_cons (C8.pe_gc (by rfl) T.k_WRONG_KIND_things) (pa_cons (pv 1) pa_nil))))) pss_nil), ?_⟩
  refine ⟨_, rfl, t, rfl, ?_⟩
  cases t with
  | true => exact ifF rfl (h1 rfl)
  | false => exact ifT rfl ⟨_, rfl, by show 2 ≤ 1000; decide, fun a ha => need_way ha (h2 rfl)⟩
theorem b_need_range {C : Addr} {aN aU aA : Addr} (T : Ct K mg aN aU aA) (rx : RfX P w K mg base C) : BdX P w K mg base N_need_range "need_range" s_need_range 2 (spNeed C 2) := by
  rintro f cdv A outer s H vs Q E hr ⟨t, m, rfl, h1, h2⟩
  refine ⟨_, pss_one (ps_if (pt_not (pt_truth (pv 0) (fun _ => rfl))) (pss_one (L2N.ps_raise rfl (L2N.takes_of rfl rfl rfl rfl) (pmk_r rx hr (by omega) rfl (pa_cons (C8.pe_gc (by rfl) T.k_OUT_OF_RANGE) (pa_cons (pv 1) pa_nil))))) pss_nil), ?_⟩
  refine ⟨_, rfl, t, rfl, ?_⟩
  cases t with
  | true => exact ifF rfl (h1 rfl)
  | false => exact ifT rfl ⟨_, rfl, by show 2 ≤ 1000; decide, fun a ha => need_way ha (h2 rfl)⟩
end
end Fs

/-! Reading a request: the plain part; Request's defs. -/
namespace Fs
open PySem PySem.Spec PyProof.Rows L2 L2H
open R7286g.Spec (Plain Units)
open RWire (readNum readF readMany readKind numOf front readText readInt readList readRecord readEntry readWords Octets)
/-! ### plain -/
theorem front_inv : ∀ {k : Nat} {b : Octets} {p : Octets × Octets}, front k b = some p → p.1 = b.take k ∧ p.2 = b.drop k ∧ k ≤ b.length
  | 0, b, p, h => by
    rw [front] at h
    cases h
    exact ⟨rfl, rfl, Nat.zero_le _⟩
  | k + 1, [], p, h => by rw [front] at h; cases h
  | k + 1, a :: r, p, h => by
    rw [front] at h
    cases e : front k r with
    | none =>
      rw [e] at h
      cases h
    | some q =>
      rw [e] at h
      obtain rfl : (a :: q.1, q.2) = p := Option.some.inj h
      obtain ⟨h1, h2, h3⟩ := front_inv e
      exact ⟨by rw [List.take_succ_cons, ← h1], by rw [List.drop_succ_cons, ← h2], by rw [List.length_cons]; omega⟩
theorem readNum_inv {k : Nat} {b : Octets} {p : Nat × Octets} (h : readNum k b = some p) : p = (numOf (b.take k), b.drop k) ∧ k ≤ b.length := by
  unfold readNum at h
  cases e : front k b with
  | none =>
    rw [e] at h
    cases h
  | some q =>
    rw [e] at h
    obtain ⟨h1, h2, h3⟩ := front_inv e
    obtain rfl : (numOf q.1, q.2) = p := Option.some.inj h
    exact ⟨by rw [h1, h2], h3⟩
theorem readText_inv {b : Octets} {p : Octets × Octets} (h : readText b = some p) : p = ((b.drop 4).take (numOf (b.take 4)), (b.drop 4).drop (numOf (b.take 4))) ∧ 4 ≤ b.length ∧ numOf (b.take 4) ≤ (b.drop 4).length := by
  unfold readText at h
  cases e : readNum 4 b with
  | none =>
    rw [e] at h
    cases h
  | some q =>
    rw [e] at h
    obtain ⟨rfl, h2⟩ := readNum_inv e
    obtain ⟨h1, h3, h4⟩ := front_inv (h : front _ _ = some p)
    exact ⟨Prod.ext h1 h3, h2, h4⟩
theorem readMany_inv {α : Type} {f : Octets → Option (α × Octets)} {n : Nat} {b : Octets} {p : List α × Octets} (h : readMany f (n + 1) b = some p) : ∃ x r l, f b = some (x, r) ∧ readMany f n r = some (l, p.2) ∧ p.1 = x :: l := by
  rw [readMany] at h
  cases e : f b with
  | none =>
    rw [e] at h
    cases h
  | some q =>
    rw [e] at h
    cases e2 : readMany f n q.2 with
    | none =>
      simp only [e2] at h
      cases h
    | some s =>
      simp only [e2] at h
      obtain rfl : (q.1 :: s.1, s.2) = p := Option.some.inj h
      exact ⟨q.1, q.2, s.1, rfl, e2, rfl⟩
theorem readMany_len {α : Type} {f : Octets → Option (α × Octets)} (hf : ∀ b x r, f b = some (x, r) → r.length < b.length) : ∀ {n : Nat} {b : Octets} {l : List α} {r : Octets}, readMany f n b = some (l, r) → l.length = n ∧ n + r.length ≤ b.length
  | 0, b, l, r, h => by
    rw [readMany] at h
    cases h
    exact ⟨rfl, by omega⟩
  | n + 1, b, l, r, h => by
    obtain ⟨x, r1, l1, h1, h2, h3⟩ := readMany_inv h
    have h3 : l = x :: l1 := h3
    have := hf _ _ _ h1
    have h4 : l1.length = n ∧ n + r.length ≤ r1.length := readMany_len hf h2
    rw [h3, List.length_cons]
    omega
theorem readInt_inv {b : Octets} {p : RWire.Value × Octets} (h : readInt b = some p) : p = (.int (RWire.intOf (numOf (b.take 8))), b.drop 8) ∧ 8 ≤ b.length := by
  unfold readInt at h
  cases e : readNum 8 b with
  | none =>
    rw [e] at h
    cases h
  | some q =>
    rw [e] at h
    obtain ⟨rfl, h2⟩ := readNum_inv e
    simp only at h
    split at h
    · exact ⟨(Option.some.inj h).symm, h2⟩
    · cases h
theorem readList_inv {f : Octets → Option (RWire.Value × Octets)} {b : Octets} {p : RWire.Value × Octets} (h : readList f b = some p) : ∃ l, readMany f (numOf (b.take 4)) (b.drop 4) = some (l, p.2) ∧ p.1 = .list l ∧ 4 ≤ b.length := by
  unfold readList at h
  cases e : readNum 4 b with
  | none =>
    rw [e] at h
    cases h
  | some q =>
    rw [e] at h
    obtain ⟨rfl, h2⟩ := readNum_inv e
    simp only at h
    cases e2 : readMany f (numOf (b.take 4)) (b.drop 4) with
    | none =>
      rw [e2] at h
      cases h
    | some s =>
      rw [e2] at h
      obtain rfl : (RWire.Value.list s.1, s.2) = p := Option.some.inj h
      exact ⟨s.1, rfl, rfl, h2⟩
theorem readRecord_inv {f : Octets → Option (RWire.Value × Octets)} {b : Octets} {p : RWire.Value × Octets} (h : readRecord f b = some p) : ∃ l, readMany (readEntry f) (numOf (b.take 4)) (b.drop 4) = some (l, p.2) ∧ p.1 = .record l ∧ 4 ≤ b.length := by
  unfold readRecord at h
  cases e : readNum 4 b with
  | none =>
    rw [e] at h
    cases h
  | some q =>
    rw [e] at h
    obtain ⟨rfl, h2⟩ := readNum_inv e
    simp only at h
    cases e2 : readMany (readEntry f) (numOf (b.take 4)) (b.drop 4) with
    | none =>
      rw [e2] at h
      cases h
    | some s =>
      rw [e2] at h
      simp only at h
      split at h
      · obtain rfl : (RWire.Value.record s.1, s.2) = p := Option.some.inj h
        exact ⟨s.1, rfl, rfl, h2⟩
      · cases h
theorem readEntry_inv {f : Octets → Option (RWire.Value × Octets)} {b : Octets} {p : (RWire.Text × RWire.Value) × Octets} (h : readEntry f b = some p) : ∃ q, readText b = some q ∧ f q.2 = some (p.1.2, p.2) ∧ p.1.1 = q.1 := by
  unfold readEntry at h
  cases e : readText b with
  | none =>
    rw [e] at h
    cases h
  | some q =>
    rw [e] at h
    simp only at h
    cases e2 : f q.2 with
    | none =>
      rw [e2] at h
      cases h
    | some s =>
      rw [e2] at h
      obtain rfl : ((q.1, s.1), s.2) = p := Option.some.inj h
      exact ⟨q, rfl, e2, rfl⟩
def gv (v : RWire.Value) : Bool := RWire.noBig v && (RWire.noOctets v && RWire.noWide v)
theorem readKind_good {f : Octets → Option (RWire.Value × Octets)} {k : Nat} {r : Octets} {v : RWire.Value} {rest : Octets} (h : readKind f k r = some (v, rest)) (g : gv v = true) :
    (k = 0 ∧ v = .nothing ∧ rest = r) ∨ (k = 1 ∧ v = .null ∧ rest = r) ∨ (k = 2 ∧ v = .bool false ∧ rest = r) ∨ (k = 3 ∧ v = .bool true ∧ rest = r) ∨ (k = 4 ∧ readInt r = some (v, rest)) ∨ (k = 6 ∧ readWords r = some (v, rest)) ∨
      (k = 7 ∧ readList f r = some (v, rest)) ∨ (k = 8 ∧ readRecord f r = some (v, rest)) := by
  unfold readKind at h
  split at h
  · cases h; exact .inl ⟨rfl, rfl, rfl⟩
  · cases h; exact .inr (.inl ⟨rfl, rfl, rfl⟩)
  · cases h; exact .inr (.inr (.inl ⟨rfl, rfl, rfl⟩))
  · cases h; exact .inr (.inr (.inr (.inl ⟨rfl, rfl, rfl⟩)))
  · exact .inr (.inr (.inr (.inr (.inl ⟨rfl, h⟩))))
  · exfalso
    unfold RWire.readBig at h
    split at h
    · cases h
    · split at h
      · cases h
      · split at h
        · cases h
        · split at h
          · cases h
          · cases h
            cases g
  · exact .inr (.inr (.inr (.inr (.inr (.inl ⟨rfl, h⟩)))))
  · exact .inr (.inr (.inr (.inr (.inr (.inr (.inl ⟨rfl, h⟩))))))
  · exact .inr (.inr (.inr (.inr (.inr (.inr (.inr ⟨rfl, h⟩))))))
  · exfalso
    unfold RWire.readOctets at h
    split at h
    · cases h
    · cases h
      cases g
  · exfalso
    unfold RWire.readWide at h
    split at h
    · cases h
    · split at h
      · cases h
      · split at h
        · cases h
          cases g
        · cases h
  · cases h
theorem readWords_inv {b : Octets} {p : RWire.Value × Octets} (h : readWords b = some p) : p = (.text ((b.drop 4).take (numOf (b.take 4))), (b.drop 4).drop (numOf (b.take 4))) ∧ 4 ≤ b.length ∧ numOf (b.take 4) ≤ (b.drop 4).length := by
  unfold readWords at h
  cases e : readText b with
  | none =>
    rw [e] at h
    cases h
  | some q =>
    rw [e] at h
    obtain ⟨rfl, h2, h3⟩ := readText_inv e
    exact ⟨(Option.some.inj h).symm, h2, h3⟩
theorem readBig_len {b : Octets} {v : RWire.Value} {r : Octets} (h : RWire.readBig b = some (v, r)) : r.length ≤ b.length := by
  unfold RWire.readBig at h
  split at h
  · cases h
  · split at h
    · cases h
    · rename_i e
      obtain ⟨rfl, _⟩ := readNum_inv e
      split at h
      · cases h
      · rename_i e2
        obtain ⟨_, h2, _⟩ := front_inv e2
        split at h
        · cases h
        · cases h
          rw [h2]
          simp only [List.length_drop, List.length_cons]
          omega
theorem readSigns_len : ∀ {n : Nat} {b : Octets} {p : List UInt16 × Octets}, RWire.readSigns n b = some p → p.2.length ≤ b.length
  | 0, b, p, h => by
    rw [RWire.readSigns] at h
    cases h
    exact Nat.le_refl _
  | n + 1, [], p, h => by rw [RWire.readSigns] at h; cases h; intro a b r; simp
  | n + 1, [x], p, h => by rw [RWire.readSigns] at h; cases h; intro a b r; simp
  | n + 1, a :: b :: r, p, h => by
    rw [RWire.readSigns] at h
    cases e : RWire.readSigns n r with
    | none =>
      rw [e] at h
      cases h
    | some q =>
      rw [e] at h
      cases h
      have := readSigns_len e
      simp only [List.length_cons]
      omega
theorem readF_short : ∀ (n : Nat) (b : Octets) (v : RWire.Value) (r : Octets), readF n b = some (v, r) → r.length < b.length
  | 0, b, v, r, h => by rw [readF] at h; cases h
  | n + 1, [], v, r, h => by rw [readF] at h; cases h
  | n + 1, k :: b, v, r, h => by
    rw [readF] at h
    have ih := readF_short n
    have te : ∀ b x r, readEntry (readF n) b = some (x, r) → r.length < b.length := fun b x r h => by
      obtain ⟨q, h1, h2, _⟩ := readEntry_inv h
      obtain ⟨rfl, h3, h4⟩ := readText_inv h1
      have := ih _ _ _ h2
      simp only [List.length_drop] at this
      show r.length < _
      omega
    suffices r.length ≤ b.length by rw [List.length_cons]; omega
    unfold readKind at h
    split at h
    · cases h; exact Nat.le_refl _
    · cases h; exact Nat.le_refl _
    · cases h; exact Nat.le_refl _
    · cases h; exact Nat.le_refl _
    · obtain ⟨e, _⟩ := readInt_inv h
      cases e
      simp only [List.length_drop]
      omega
    · exact readBig_len h
    · obtain ⟨e, _⟩ := readWords_inv h
      cases e
      simp only [List.length_drop]
      omega
    · obtain ⟨l, h1, _⟩ := readList_inv h
      have := (readMany_len ih h1).2
      simp only [List.length_drop] at this
      show r.length ≤ _
      omega
    · obtain ⟨l, h1, _⟩ := readRecord_inv h
      have := (readMany_len te h1).2
      simp only [List.length_drop] at this
      show r.length ≤ _
      omega
    · unfold RWire.readOctets at h
      split at h
      · cases h
      · rename_i e
        obtain ⟨rfl, _⟩ := readText_inv e
        cases h
        simp only [List.length_drop]
        omega
    · unfold RWire.readWide at h
      split at h
      · cases h
      · rename_i e
        obtain ⟨rfl, _⟩ := readNum_inv e
        split at h
        · cases h
        · rename_i e2
          have := readSigns_len e2
          simp only [List.length_drop] at this
          split at h
          · cases h
            omega
          · cases h
    · cases h
theorem numOf_lt : ∀ b : Octets, numOf b < 256 ^ b.length
  | [] => by decide
  | a :: r => by
    have := numOf_lt r
    have := a.toNat_lt
    rw [RWire.numOf, List.length_cons, Nat.pow_succ]
    omega
theorem noBig_mem : ∀ {l : List RWire.Value}, RWire.noBigMany l = true → ∀ v ∈ l, RWire.noBig v = true
  | x :: r, h, v, hv => by
    rw [RWire.noBigMany, Bool.and_eq_true] at h
    rcases List.mem_cons.mp hv with rfl | hv
    · exact h.1
    · exact noBig_mem h.2 v hv
theorem noOct_mem : ∀ {l : List RWire.Value}, RWire.noOctetsMany l = true → ∀ v ∈ l, RWire.noOctets v = true
  | x :: r, h, v, hv => by
    rw [RWire.noOctetsMany, Bool.and_eq_true] at h
    rcases List.mem_cons.mp hv with rfl | hv
    · exact h.1
    · exact noOct_mem h.2 v hv
theorem noWide_mem : ∀ {l : List RWire.Value}, RWire.noWideMany l = true → ∀ v ∈ l, RWire.noWide v = true
  | x :: r, h, v, hv => by
    rw [RWire.noWideMany, Bool.and_eq_true] at h
    rcases List.mem_cons.mp hv with rfl | hv
    · exact h.1
    · exact noWide_mem h.2 v hv
theorem gv_mem {l : List RWire.Value} (h1 : RWire.noBigMany l = true) (h2 : RWire.noOctetsMany l = true) (h3 : RWire.noWideMany l = true) : ∀ v ∈ l, gv v = true := fun v hv => by
  rw [gv, noBig_mem h1 v hv, noOct_mem h2 v hv, noWide_mem h3 v hv]
  rfl
theorem gv_list {l : List RWire.Value} (h : gv (.list l) = true) : ∀ v ∈ l, gv v = true := by
  rw [gv, Bool.and_eq_true, Bool.and_eq_true] at h
  exact gv_mem h.1 h.2.1 h.2.2
theorem noBigE_mem : ∀ {l : List (RWire.Text × RWire.Value)}, RWire.noBigEntries l = true → ∀ v ∈ l, RWire.noBig v.2 = true
  | x :: r, h, v, hv => by
    rw [RWire.noBigEntries, Bool.and_eq_true] at h
    rcases List.mem_cons.mp hv with rfl | hv
    · exact h.1
    · exact noBigE_mem h.2 v hv
theorem noOctE_mem : ∀ {l : List (RWire.Text × RWire.Value)}, RWire.noOctetsEntries l = true → ∀ v ∈ l, RWire.noOctets v.2 = true
  | x :: r, h, v, hv => by
    rw [RWire.noOctetsEntries, Bool.and_eq_true] at h
    rcases List.mem_cons.mp hv with rfl | hv
    · exact h.1
    · exact noOctE_mem h.2 v hv
theorem noWideE_mem : ∀ {l : List (RWire.Text × RWire.Value)}, RWire.noWideEntries l = true → ∀ v ∈ l, RWire.noWide v.2 = true
  | x :: r, h, v, hv => by
    rw [RWire.noWideEntries, Bool.and_eq_true] at h
    rcases List.mem_cons.mp hv with rfl | hv
    · exact h.1
    · exact noWideE_mem h.2 v hv
theorem gv_record {l : List (RWire.Text × RWire.Value)} (h : gv (.record l) = true) : ∀ v ∈ l, gv v.2 = true := by
  rw [gv, Bool.and_eq_true, Bool.and_eq_true] at h
  intro v hv
  rw [gv, noBigE_mem h.1 v hv, noOctE_mem h.2.1 v hv, noWideE_mem h.2.2 v hv]
  rfl
theorem takenAll_map : ∀ l : List RWire.Value, Rust.takenAll l = l.map Rust.taken
  | [] => rfl
  | x :: r => by rw [Rust.takenAll, List.map_cons, takenAll_map r]
theorem takenFields_map : ∀ l : List (RWire.Text × RWire.Value), Rust.takenFields l = l.map fun e => (e.1.map Rust.unitOf, Rust.taken e.2)
  | [] => rfl
  | (n, x) :: r => by rw [Rust.takenFields, List.map_cons, takenFields_map r]
theorem unitsV_of (u : List UInt8) : unitsV (u.map Rust.unitOf) = octV u := by
  unfold unitsV octV
  rw [List.map_map]
  refine List.map_congr_left fun b _ => ?_
  have := b.toNat_lt
  have e : (Rust.unitOf b).toNat = b.toNat := by
    unfold Rust.unitOf
    rw [UInt16.toNat_ofNat']
    omega
  show V.int ((Rust.unitOf b).toNat : Nat) = V.int (b.toNat : Nat)
  rw [e]
end Fs

/-! Request's defs: __init__, take, give_number. -/
namespace Fs
open PySem PySem.Spec PyProof.Rows L2 L2H
open R7286g.Spec (Plain Units)
structure RqC (K : PySem.W.Frag) (C : Addr) : Prop where
  cl : Cls K C
  nO : NoAttr K C "octets"
  nA : NoAttr K C "at"
abbrev rqF (T : Addr) (n : Nat) : List (Str × V) := [("octets", .ref T), ("at", .int n)]
def RqAt (C : Addr) (H : Hp) (R T : Addr) (n : Nat) : Prop := ∃ dx, H R = some (.ins C dx (rqF T n))
theorem rq_octets (T : Addr) (n : Nat) : (rqF T n).lookup ("octets" : Str) = some (.ref T) := lkA
theorem rq_at (T : Addr) (n : Nat) : (rqF T n).lookup ("at" : Str) = some (.int n) := (lkB (by decide +kernel)).trans lkA
theorem rq_none (T : Addr) (n : Nat) {m : Str} (h1 : (m == ("octets" : Str)) = false) (h2 : (m == ("at" : Str)) = false) : (rqF T n).lookup m = none := (lkB h1).trans ((lkB h2).trans rfl)
theorem putA {f : Str} {v x : V} {r : List (Str × V)} : putF f v ((f, x) :: r) = (f, v) :: r := if_pos rfl
theorem putB {f g : Str} {v x : V} {r : List (Str × V)} (h : ¬ g = f) : putF f v ((g, x) :: r) = (g, x) :: putF f v r := if_neg h
theorem rq_put (T : Addr) (n : Nat) (y : Int) (m : Nat) (h : y = m) : putF "at" (.int y) (rqF T n) = rqF T m := by
  rw [h]
  exact (putB (by decide +kernel)).trans (congrArg _ putA)
theorem rq_new (T : Addr) : putF "at" (.int 0) (putF "octets" (.ref T) []) = rqF T 0 := (putB (by decide +kernel)).trans rfl
theorem cut_mid (xs : List V) (n m : Nat) (h : n + m ≤ xs.length) : cutV xs (some (n : Int)) (some ((n : Int) + m)) = (xs.drop n).take m := by
  unfold cutV
  have e : ((n : Int) + m) = ((n + m : Nat) : Int) := by omega
  rw [e, HT.sIx_nat, HT.sIx_nat, Nat.min_eq_left (by omega), Nat.min_eq_left (by omega)]
  congr 1
  omega
theorem cut_whole (xs : List V) (lo hi : Option Int) (h : HT.sIx xs.length 0 lo = 0 ∧ HT.sIx xs.length xs.length hi = xs.length) : cutV xs lo hi = xs := by
  unfold cutV
  rw [h.1, h.2, List.drop_zero, Nat.sub_zero, List.take_length]
theorem octV_drop (bs : List UInt8) (n m : Nat) : ((octV bs).drop n).take m = octV ((bs.drop n).take m) := by
  unfold octV
  rw [List.map_take, List.map_drop]
theorem octV_len (bs : List UInt8) : (octV bs).length = bs.length := List.length_map _
section
variable {P : Program} {w : World} {K : PySem.W.Frag} {mg : Str → Option Value} {base : Heap}
def spRqNew (C : Addr) : Sp := fun vs H Q _ => ∃ (p dx T : Addr), vs = [.ref p, .ref T] ∧ H p = some (.ins C dx []) ∧ ∀ H', Keep (fun b => b = p) H H' → RqAt C H' p T 0 → Q .non H'
theorem b_Request_new {C : Addr} (R : RqC K C) : Bd P w K mg base N_Request_new "Request.__init__" s_Request_new 0 (spRqNew C) := by
  rintro f cdv A outer s H vs Q E hr ⟨p, dx, T, rfl, hp, post⟩
  refine ⟨_, pss_cons (ps_fld (pv 0) (pv 1) rfl)
    (pss_one (ps_fld (pv 0) (pe_int) rfl)), ?_⟩
  refine ⟨_, rfl, _, rfl, p, C, dx, [], rfl, hp, R.cl, R.nO, (by show 0 < 1000; decide), ?_⟩
  refine ⟨_, rfl, p, C, dx, _, rfl, upd_same, R.cl, R.nA, (by show 1 < 1000; decide), ?_⟩
  have k1 : Keep (fun b => b = p) H (upd H p (.ins C dx (putF "octets" (.ref T) []))) := Keep.put rfl hp (by intro z; exact HO.noConfusion) (by intro z w; exact HO.noConfusion)
  exact post _ (k1.trans (Keep.put rfl upd_same (by intro z; exact HO.noConfusion) (by intro z w; exact HO.noConfusion))) ⟨dx, Eq.trans upd_same (congrArg (fun q => some (HO.ins C dx q)) (rq_new T))⟩
def spTake (K : PySem.W.Frag) (C : Addr) : Sp := fun vs H Q _ => ∃ (R T : Addr) (n m : Nat) (bs : List UInt8), vs = [.ref R, .int m] ∧ RqAt C H R T n ∧ SqT K H T (octV bs) ∧ n + m ≤ bs.length ∧
  ∀ H' r, Keep (fun b => b = R) H H' → RqAt C H' R T (n + m) → SqT K H' r (octV ((bs.drop n).take m)) → Q (.ref r) H'
theorem b_Request_take {C : Addr} (R : RqC K C) : Bd P w K mg base N_Request_take "Request.take" s_Request_take 0 (spTake K C) := by
  rintro f cdv A outer s H vs Q E hr ⟨rq, T, n, m, bs, rfl, ⟨dx, eR⟩, hT, hn, post⟩
  refine ⟨_, pss_cons (ps_set (i := 2) sc_Request_take.nd rfl (Or.inl rfl) (pe_slice sl_tupA (pe_fld (pv 0) rfl) (po_some (pe_fld (pv 0) rfl)) (po_some (pe_op op_add (pe_fld (pv 0) rfl) (pv 1)))))
    (pss_cons (ps_fldaug (pv 0) (pv 1) in_add)
    (pss_one (ps_ret (pv 2)))), ?_⟩
  have fin : ∀ (H1 : Hp) (r : Addr), Kp H H1 → SqT K H1 r (octV ((bs.drop n).take m)) → H1 rq = some (.ins C dx (rqF T n)) → Q (.ref r) (upd H1 rq (.ins C dx (putF "at" (.int ((n : Int) + m)) (rqF T n)))) := fun H1 r k h e => by
    have kk : Keep (fun b => b = rq) H1 (upd H1 rq (.ins C dx (putF "at" (.int ((n : Int) + m)) (rqF T n)))) := Keep.put rfl e (by intro z; exact HO.noConfusion) (by intro z w; exact HO.noConfusion)
    exact post _ r (k.to.trans kk) ⟨dx, by rw [upd_same, rq_put T n _ (n + m) (by omega)]⟩ (kk.sqT h)
  have hl : (octV bs).length = bs.length := octV_len bs
  refine ⟨_, rfl, rq, C, dx, _, _, rfl, eR, R.cl, R.nO, rq_octets T n, _, rfl, rq, C, dx, _, _, rfl, eR, R.cl, R.nA, rq_at T n, _, rfl, _, rfl, rq, C, dx, _, _, rfl, eR, R.cl, R.nA, rq_at T n, _, rfl, _, _, rfl, rfl, _, rfl, ?_⟩
  have tail : ∀ (H1 : Hp) (r : Addr), Kp H H1 → SqT K H1 r (octV ((bs.drop n).take m)) → H1 rq = some (.ins C dx (rqF T n)) := fun H1 r k _ => kat k eR
  refine ⟨T, _, rfl, hT, fun hw => ?_, fun hw p hp => ?_⟩
  · have e := cut_whole _ _ _ hw
    have e2 := cut_mid (octV bs) n m (by rw [hl]; exact hn)
    have e3 : octV ((bs.drop n).take m) = octV bs := by rw [← octV_drop, ← e2]; exact e
    refine ⟨_, rfl, rq, C, dx, _, _, rfl, eR, R.cl, R.nA, rq_at T n, _, rfl, _, _, rfl, rfl, dx, _, eR, (by show 2 < 1000; decide), _, rfl, ?_⟩
    exact fin H T .refl (by rw [e3]; exact hT) eR
  · have k1 : Kp H (upd H p (.tup (cutV (octV bs) (some (n : Int)) (some ((n : Int) + m))))) := Keep.new hp
    have eR1 := kat k1 eR
    refine ⟨_, rfl, rq, C, dx, _, _, rfl, eR1, R.cl, R.nA, rq_at T n, _, rfl, _, _, rfl, rfl, dx, _, eR1, (by show 2 < 1000; decide), _, rfl, ?_⟩
    refine fin _ p k1 (.of ?_) eR1
    rw [upd_same, cut_mid (octV bs) n m (by rw [hl]; exact hn), octV_drop]
/-! ### give_number -/
def nf (acc : Nat) (b : UInt8) : Nat := acc * 256 + b.toNat
theorem numOf_fold : ∀ l : List UInt8, l.reverse.foldl nf 0 = RWire.numOf l
  | [] => rfl
  | a :: r => by
    rw [List.reverse_cons, List.foldl_append, numOf_fold r, RWire.numOf]
    show RWire.numOf r * 256 + a.toNat = _
    omega
def spGive (K : PySem.W.Frag) (C : Addr) : Sp := fun vs H Q _ => ∃ (R T : Addr) (n m : Nat) (bs : List UInt8), vs = [.ref R, .int m] ∧ RqAt C H R T n ∧ SqT K H T (octV bs) ∧ n + m ≤ bs.length ∧
  ∀ H', Keep (fun b => b = R) H H' → RqAt C H' R T (n + m) → Q (.int (RWire.numOf ((bs.drop n).take m) : Nat)) H'
theorem b_Request_give_number {C : Addr} (R : RqC K C) (c_Request_take : Met P w K mg base 1 C "take" (spTake K C)) : Bd P w K mg base N_Request_give_number "Request.give_number" s_Request_give_number 1 (spGive K C) := by
  rintro f cdv A outer s H vs Q E hr ⟨rq, T, n, m, bs, rfl, ra, hT, hn, post⟩
  refine ⟨_, pss_cons (ps_set (i := 2) sc_Request_give_number.nd rfl (Or.inl rfl) (pe_int))
    (pss_cons (ps_for PassesOwn.never rfl (pi_tup (pe_revT (pe_m c_Request_take hr (by omega) (pv 0) (by exact (pa_cons (pv 1) pa_nil))))) (pg_name (i := 3) sc_Request_give_number.nd rfl (Or.inl rfl)) (pss_one (ps_set (i := 2) sc_Request_give_number.nd rfl (Or.inl rfl) (pe_op op_add (pe_op op_mul (pv 2) (pe_int)) (pv 3)))))
    (pss_one (ps_ret (pv 2)))), ?_⟩
  obtain ⟨dx, eR⟩ := id ra
  refine ⟨_, rfl, rq, dx, _, rfl, eR, rq_none T n (by decide +kernel) (by decide +kernel), _, rfl, rq, T, n, m, bs, rfl, ra, hT, hn, fun H1 r k1 ra1 h1 => ?_⟩
  refine ⟨r, _, rfl, h1, fun q hq => ?_⟩
  have kq : Kp H1 (upd H1 q (.tup (octV ((bs.drop n).take m)).reverse)) := Keep.new hq
  have eq : upd H1 q (.tup (octV ((bs.drop n).take m)).reverse) q = some (.tup (octV ((bs.drop n).take m).reverse)) := by rw [upd_same, octV, octV, List.map_reverse]
  generalize upd H1 q (.tup (octV ((bs.drop n).take m)).reverse) = H2 at kq eq
  have e := numOf_fold ((bs.drop n).take m)
  generalize ((bs.drop n).take m).reverse = l at eq e
  refine ⟨q, rfl, ⟨_, .of eq⟩, for_tup (K := K) (a := q) (xs := octV l) (fun i σ H' => ∃ v : Option V, σ = [some (.ref rq), some (.int m), some (.int ((l.take i).foldl nf 0 : Nat)), v] ∧ H' = H2)
    ⟨none, rfl, rfl⟩ (fun i σ H' _ ⟨_, _, z⟩ => by rw [z]; exact .of eq) ?_ ?_⟩
  · rintro i x σ H3 hi ⟨v, rfl, rfl⟩
    obtain ⟨b, hb, rfl⟩ : ∃ b, l[i]? = some b ∧ x = V.int (b.toNat : Nat) := by
      unfold octV at hi
      rw [List.getElem?_map] at hi
      cases e : l[i]? with
      | none =>
        rw [e] at hi
        cases hi
      | some z =>
        rw [e] at hi
        exact ⟨z, rfl, (Option.some.inj hi).symm⟩
    refine ⟨_, rfl, _, _, rfl, rfl, .inr ⟨by decide, by decide⟩, _, rfl, _, _, rfl, rfl, some (.int (b.toNat : Nat)), ?_, rfl⟩
    rw [take_snoc hb, List.foldl_append]
    rfl
  · rintro σ H3 ⟨v, rfl, rfl⟩
    rw [octV_len, List.take_length, e]
    obtain ⟨dx1, eR1⟩ := ra1
    exact ⟨_, rfl, post _ (k1.trans kq.to) ⟨dx1, kat kq eR1⟩⟩
end
end Fs

/-! Request's defs: value, arguments. -/
namespace Fs
open PySem PySem.Spec PyProof.Rows L2 L2H
open R7286g.Spec (Plain Units)
open RWire (readF readMany)
section
variable {P : Program} {w : World} {K : PySem.W.Frag} {mg : Str → Option Value} {base : Heap}
def spValue (K : PySem.W.Frag) (C : Addr) (f : Nat) : Sp := fun vs H Q _ => ∃ (R T : Addr) (n : Nat) (bs : List UInt8) (v : RWire.Value) (rest : List UInt8), vs = [.ref R] ∧ RqAt C H R T n ∧ SqT K H T (octV bs) ∧ bs.length ≤ 100000 ∧ readF f (bs.drop n) = some (v, rest) ∧ gv v = true ∧
  ∀ H' u n', Keep (fun b => b = R) H H' → RqAt C H' R T n' → rest = bs.drop n' → IsP K H' u (Rust.taken v) → Q u H'
theorem drop_cons {bs r : List UInt8} {n : Nat} {k : UInt8} (h : bs.drop n = k :: r) : r = bs.drop (n + 1) ∧ n + 1 ≤ bs.length ∧ RWire.numOf ((bs.drop n).take 1) = k.toNat := by
  refine ⟨?_, ?_, ?_⟩
  · rw [← List.drop_drop, h]
    rfl
  · have := congrArg List.length h
    simp only [List.length_drop, List.length_cons] at this
    omega
  · rw [h]
    show k.toNat + 256 * 0 = k.toNat
    omega
theorem keep_nf {R D : Addr} {C T : Addr} {n : Nat} {H : Hp} (r : RqAt C H R T n) (hD : H D = none) : ¬ D = R := fun z => by
  obtain ⟨dx, e⟩ := r
  rw [z, e] at hD
  cases hD
theorem RqAt.keep {F : Addr → Prop} {C R T : Addr} {n : Nat} {H H' : Hp} (r : RqAt C H R T n) (k : Keep F H H') (h : ¬ F R) : RqAt C H' R T n := by
  obtain ⟨dx, e⟩ := r
  exact ⟨dx, k.all _ _ e h⟩
/-- [self.value() for turn in range(m)] -/
theorem many_lc {C : Addr} {f j m : Nat} {vs : List Nat} {σ : L2.St} {H1 : Hp} {D R T : Addr} {n0 : Nat} {bs : List UInt8} {l : List RWire.Value} {rest : List UInt8} {Qd : Hp → Prop}
    (hg : ∀ x, wipe ((wipe σ vs).set j (some x)) vs = wipe σ vs ∧ ((wipe σ vs).set j (some x))[0]? = some (some (.ref R)))
    (ra : RqAt C H1 R T n0) (hT : SqT K H1 T (octV bs)) (hl : bs.length ≤ 100000) (rd : readMany (readF f) m (bs.drop n0) = some (l, rest)) (gl : ∀ c ∈ l, gv c = true) (hD : H1 D = none)
    (hd : ∀ H ys n', Keep (fun b => b = R) H1 H → RqAt C H R T n' → rest = bs.drop n' → H D = some (.lst ys) → IsPs K H ys (Rust.takenAll l) → Qd H) :
    ∃ W : Nat → Nat → Hp → Prop, (∃ m, W 0 m (upd H1 D (.lst []))) ∧ ∀ i m' H, W i m' H →
      ((Itr 0 m).stop i H ∧ Qd H) ∨ ((Itr 0 m).go i H ∧ ∃ Nx : Hp → Prop, (∀ H', Nx H' → ∃ m'', m'' < m' ∧ W (i + 1) m'' H') ∧ ∀ x H', (Itr 0 m).yld i H x H' → gName j x (wipe σ vs) H' fun σ2 H2 => wipe σ2 vs = wipe σ vs ∧ tYes σ2 H2 fun b H3 =>
        if b = true then tMt C "value" (spValue K C f) E0 (tVar 0) tNil σ2 H3 fun y H4 => ∃ acc, H4 D = some (.lst acc) ∧ acc.length < sizeLine ∧ Nx (upd H4 D (.lst (acc ++ [y]))) else Nx H3) := by
  have ml := readMany_len (readF_short f) rd
  have nD := keep_nf ra hD
  refine lcI (F := fun b => b = R) (cs := l) (Item := fun _ _ _ => True) ?_ Rust.taken (fun i H => ∃ n', RqAt C H R T n' ∧ SqT K H T (octV bs) ∧ readMany (readF f) (m - i) (bs.drop n') = some (l.drop i, rest)) (IsP K) nD hD (lenL (by rw [ml.1]; have := ml.2; rw [List.length_drop] at this; omega)) ⟨n0, ra, hT, rd⟩
    (fun i H H' k ⟨n', h1, h2, h3⟩ => ⟨n', h1.keep k (fun z => nD z.symm), k.sqT h2, h3⟩) (fun H H' y b k r => IsP.mono k _ _ r) (fun i c x H Qy hc _ k ⟨n', h1, h2, h3⟩ _ go => ?_) fun H ys k ⟨n', h1, h2, h3⟩ e p => ?_
  · rw [ml.1]
    have := walk_range (F := fun b => b = R) (H0 := H1) 0 m
    exact ⟨this.go, this.stop, fun i x H H' hi k y => ⟨(this.yld i x H H' hi k y).1, trivial⟩⟩
  · obtain ⟨w1, w2⟩ := hg x
    have hi : i < l.length := (List.getElem?_eq_some_iff.mp hc).1
    obtain ⟨j', hj⟩ : ∃ j', m - i = j' + 1 := ⟨m - i - 1, by have := ml.1; omega⟩
    rw [hj] at h3
    obtain ⟨v, r, l', e1, e2, e3⟩ := readMany_inv h3
    have e3 : l.drop i = v :: l' := e3
    have ed : l.drop i = l[i] :: l.drop (i + 1) := List.drop_eq_getElem_cons hi
    rw [e3] at ed
    injection ed with ev el
    have hci : l[i] = c := by
      rw [List.getElem?_eq_getElem hi] at hc
      exact Option.some.inj hc
    rw [hci] at ev
    subst ev
    obtain ⟨dx, eR⟩ := id h1
    refine ⟨w1, _, w2, R, dx, _, rfl, eR, rq_none T n' (by decide +kernel) (by decide +kernel), R, T, n', bs, v, r, rfl, h1, h2, hl, e1, gl v (mem_of_get hc), fun H' u n2 k2 r2 er hp => go u H' k2 ⟨n2, r2, k2.sqT h2, ?_⟩ hp⟩
    have e5 : m - (i + 1) = j' := by omega
    rw [e5, ← er, ← el]
    exact e2
  · have hz : m - l.length = 0 := by have := ml.1; omega
    rw [hz, readMany, List.drop_length] at h3
    have er : bs.drop n' = rest := (Prod.mk.inj (Option.some.inj h3)).2
    refine hd H ys n' k h1 er.symm e (isPs_of ?_)
    rw [takenAll_map]
    exact p
theorem sh63 : (1 : Int) * 2 ^ (63 : Int).toNat = 9223372036854775808 := by decide +kernel
theorem sh64 : (1 : Int) * 2 ^ (64 : Int).toNat = 18446744073709551616 := by decide +kernel
theorem b_Request_value (B : Bt mg) {aN aU aA : Addr} (T : Ct K mg aN aU aA) {C : Addr} (R : RqC K C) (f : Nat) (c_Request_take : Met P w K mg base 1 C "take" (spTake K C)) (c_Request_give_number : Met P w K mg base 2 C "give_number" (spGive K C)) (c_Request_value : Met P w K mg base (f + 3) C "value" (spValue K C f)) :
    Bd P w K mg base N_Request_value "Request.value" s_Request_value (f + 3) (spValue K C (f + 1)) := by
  rintro ff cdv A outer s H vs Q E hr ⟨rq, Tp, n, bs, v, rest, rfl, ra, hT, hl, rd, g, post⟩
  refine ⟨_, pss_cons (ps_set (i := 1) sc_Request_value.nd rfl (Or.inl rfl) (pe_m c_Request_give_number hr (by omega) (pv 0) (by exact (pa_cons (pe_int) pa_nil))))
    (pss_cons (ps_if (pt_cmpR op_eq (pv 1) (pe_int) (nomark _)) (pss_one (ps_ret (C8.pe_gc (by rfl) T.k_NOTHING))) pss_nil)
    (pss_cons (ps_if (pt_cmpR op_eq (pv 1) (pe_int) (nomark _)) (pss_one (ps_ret (C8.pe_gc (by rfl) T.k_NULL))) pss_nil)
    (pss_cons (ps_if (pt_cmpR op_in_seq (pv 1) (pe_tup (pa_cons (pe_int) (pa_cons (pe_int) pa_nil))) (by with_unfolding_all rfl)) (pss_one (ps_ret (pe_tup (pa_cons (pe_str) (pa_cons (pe_cmpR op_eq (pv 1) (pe_int) (nomark _)) pa_nil))))) pss_nil)
    (pss_cons (ps_if (pt_cmpR op_eq (pv 1) (pe_int) (nomark _)) (pss_cons (ps_set (i := 2) sc_Request_value.nd rfl (Or.inl rfl) (pe_m c_Request_give_number hr (by omega) (pv 0) (by exact (pa_cons (pe_int) pa_nil))))
    (pss_one (ps_ret (pe_tup (pa_cons (pe_str) (pa_cons (pe_ifExp (pt_cmpR op_lt (pv 2) (pe_op op_shl (pe_int) (pe_int)) (nomark _)) (pv 2) (pe_op op_sub (pv 2) (pe_op op_shl (pe_int) (pe_int)))) pa_nil)))))) pss_nil)
    (pss_cons (ps_set (i := 3) sc_Request_value.nd rfl (Or.inl rfl) (pe_m c_Request_give_number hr (by omega) (pv 0) (by exact (pa_cons (pe_int) pa_nil))))
    (pss_cons (ps_if (pt_cmpR op_eq (pv 1) (pe_int) (nomark _)) (pss_one (ps_ret (pe_tup (pa_cons (pe_str) (pa_cons (pe_callTy call_tuple_of (by rfl) B.tuple PyProof.Rows.boot_tuple (pa_cons (pe_m c_Request_take hr (by omega) (pv 0) (by exact (pa_cons (pv 3) pa_nil))) pa_nil)) pa_nil))))) pss_nil)
    (pss_cons (ps_if (pt_cmpR op_eq (pv 1) (pe_int) (nomark _)) (pss_one (ps_ret (pe_tup (pa_cons (pe_str) (pa_cons (pe_callTy call_tuple_of (by rfl) B.tuple PyProof.Rows.boot_tuple (pa_cons (pe_lc (own := [("turn", 4)]) (g := (gName 4)) (te := (tMt _ "value" _ E0 (tVar 0) tNil)) rfl sc_Request_value.nd (pi_range1 rfl B.range (pa_cons (pv 3) pa_nil)) (blkOk_by (N := N_Request_value) (sc := defScope s_Request_value) (by decide +kernel)) (fun _ _ _ _ _ => by exact pg_name (i := 4) sc_Request_value.nd rfl (Or.inl rfl)) (fun _ _ _ _ _ => pts_nil) (fun _ _ _ _ _ => by exact pe_m0 c_Request_value hr (by omega) (pv 0))) pa_nil)) pa_nil))))) pss_nil)
    (pss_cons (ps_set (i := 5) sc_Request_value.nd rfl (Or.inl rfl) (pe_lst pa_nil))
    (pss_cons (ps_for PassesOwn.never rfl (pi_range1 rfl B.range (pa_cons (pv 3) pa_nil)) (pg_name (i := 4) sc_Request_value.nd rfl (Or.inl rfl)) (pss_cons (ps_set (i := 6) sc_Request_value.nd rfl (Or.inl rfl) (pe_callTy call_tuple_of (by rfl) B.tuple PyProof.Rows.boot_tuple (pa_cons (pe_m c_Request_take hr (by omega) (pv 0) (by exact (pa_cons (pe_m c_Request_give_number hr (by omega) (pv 0) (by exact (pa_cons (pe_int) pa_nil))) pa_nil))) pa_nil)))
    (pss_one (ps_expr (pe_bm PySem.F.plainAttrs_list PySem.F.slot_list_append PySem.F.type_list_append mt_append (pv 5) (pa_cons (pe_tup (pa_cons (pv 6) (pa_cons (pe_m0 c_Request_value hr (by omega) (pv 0)) pa_nil))) pa_nil))))))
    (pss_one (ps_ret (pe_tup (pa_cons (pe_str) (pa_cons (pe_callTy call_tuple_of (by rfl) B.tuple PyProof.Rows.boot_tuple (pa_cons (pv 5) pa_nil)) pa_nil)))))))))))))), ?_⟩
  obtain ⟨dx, eR⟩ := id ra
  have lkg : ∀ n, (rqF Tp n).lookup ("give_number" : Str) = none := fun n => rq_none Tp n (by decide +kernel) (by decide +kernel)
  have lkt : ∀ n, (rqF Tp n).lookup ("take" : Str) = none := fun n => rq_none Tp n (by decide +kernel) (by decide +kernel)
  have lkv : ∀ n, (rqF Tp n).lookup ("value" : Str) = none := fun n => rq_none Tp n (by decide +kernel) (by decide +kernel)
  cases eb : bs.drop n with
  | nil =>
    rw [eb, readF] at rd
    cases rd
  | cons k r =>
  rw [eb, readF] at rd
  obtain ⟨er, hn1, t1⟩ := drop_cons eb
  refine ⟨_, rfl, rq, dx, _, rfl, eR, lkg n, rq, Tp, n, 1, bs, rfl, ra, hT, hn1, fun H1 k1 ra1 => ?_⟩
  rw [t1]
  have hT1 : SqT K H1 Tp (octV bs) := k1.sqT hT
  rcases readKind_good rd g with ⟨hk, rfl, hr'⟩ | ⟨hk, rfl, hr'⟩ | ⟨hk, rfl, hr'⟩ | ⟨hk, rfl, hr'⟩ | ⟨hk, h⟩ | ⟨hk, h⟩ | ⟨hk, h⟩ | ⟨hk, h⟩
  · rw [hk]
    refine ⟨_, rfl, rfl, _, rfl, ifT (by decide) ?_⟩
    exact post H1 _ (n + 1) k1 ra1 (hr'.trans er) ⟨aN, rfl, T.t_NOTHING _⟩
  · rw [hk]
    refine ⟨_, rfl, rfl, _, rfl, ifF (by decide) ⟨_, rfl, rfl, _, rfl, ifT (by decide) ?_⟩⟩
    exact post H1 _ (n + 1) k1 ra1 (hr'.trans er) ⟨aU, rfl, T.t_NULL _⟩
  · rw [hk]
    refine ⟨_, rfl, rfl, _, rfl, ifF (by decide) ⟨_, rfl, rfl, _, rfl, ifF (by decide) ⟨_, rfl, two_le, fun t ht => ⟨t, _, rfl, .inr (.of upd_same), rfl, rfl, _, rfl, ifT rfl ⟨_, rfl, rfl, two_le, fun t2 ht2 => ?_⟩⟩⟩⟩⟩
    refine post _ _ (n + 1) ?_ ?_ (hr'.trans er) ⟨t2, rfl, .of upd_same⟩
    · exact (k1.trans (Keep.new ht)).trans (Keep.new ht2)
    · exact (ra1.keep (Keep.new ht : Kp _ _) (fun f => f)).keep (Keep.new ht2 : Kp _ _) (fun f => f)
  · rw [hk]
    refine ⟨_, rfl, rfl, _, rfl, ifF (by decide) ⟨_, rfl, rfl, _, rfl, ifF (by decide) ⟨_, rfl, two_le, fun t ht => ⟨t, _, rfl, .inr (.of upd_same), rfl, rfl, _, rfl, ifT rfl ⟨_, rfl, rfl, two_le, fun t2 ht2 => ?_⟩⟩⟩⟩⟩
    refine post _ _ (n + 1) ?_ ?_ (hr'.trans er) ⟨t2, rfl, .of upd_same⟩
    · exact (k1.trans (Keep.new ht)).trans (Keep.new ht2)
    · exact (ra1.keep (Keep.new ht : Kp _ _) (fun f => f)).keep (Keep.new ht2 : Kp _ _) (fun f => f)
  all_goals
    rw [hk]
    refine ⟨_, rfl, rfl, _, rfl, ifF (by decide) ⟨_, rfl, rfl, _, rfl, ifF (by decide) ⟨_, rfl, two_le, fun t ht => ⟨t, _, rfl, .inr (.of upd_same), rfl, rfl, _, rfl, ifF rfl ?_⟩⟩⟩⟩
    have k2 : Kp H1 (upd H1 t (.tup [.int 2, .int 3])) := Keep.new ht
    generalize upd H1 t (.tup [.int 2, .int 3]) = H2 at k2
    have kA : Keep (fun b => b = rq) H H2 := k1.trans k2.to
    have ra2 := ra1.keep k2 (fun f => f)
    have hT2 : SqT K H2 Tp (octV bs) := k2.sqT hT1
    obtain ⟨dx2, eR2⟩ := id ra2
    rw [er] at h
  · -- a whole number
    obtain ⟨e, h8⟩ := readInt_inv h
    obtain ⟨rfl, hrest⟩ := Prod.mk.inj e
    rw [List.length_drop] at h8
    refine ⟨_, rfl, rfl, _, rfl, ifT (by decide) ⟨_, rfl, rq, dx2, _, rfl, eR2, lkg _, rq, Tp, n + 1, 8, bs, rfl, ra2, hT2, by omega, fun H3 k3 ra3 => ?_⟩⟩
    generalize RWire.numOf ((bs.drop (n + 1)).take 8) = N at post
    have fin : ∀ (t2 : Addr) (i : Int), H3 t2 = none → i = RWire.intOf N → Q (.ref t2) (upd H3 t2 (.tup [.str "integer", .int i])) := fun t2 i ht2 hi => by
      refine post _ _ (n + 1 + 8) ((kA.trans k3).trans (Keep.new ht2)) (ra3.keep (Keep.new ht2 : Kp _ _) (fun f => f)) (by rw [hrest, List.drop_drop]) ⟨t2, _, rfl, rfl, .of ?_⟩
      rw [upd_same, hi]
    obtain ⟨X, hX⟩ : ∃ X : Int, (1 : Int) * 2 ^ (63 : Int).toNat = X := ⟨_, rfl⟩
    obtain ⟨Y, hY⟩ : ∃ Y : Int, (1 : Int) * 2 ^ (64 : Int).toNat = Y := ⟨_, rfl⟩
    have vX : X = 9223372036854775808 := hX.symm.trans sh63
    have vY : Y = 18446744073709551616 := hY.symm.trans sh64
    refine ⟨_, rfl, _, _, rfl, rfl, ⟨by decide, by decide, by decide⟩, _, X, rfl, congrArg V.int hX, _, rfl, ifB (fun hh => ?_) fun hh => ?_⟩
    · have hh : (N : Int) < X := of_decide_eq_true hh
      refine ⟨_, rfl, two_le, fun t2 ht2 => fin t2 _ ht2 ?_⟩
      unfold RWire.intOf
      rw [if_pos (decide_eq_true (by omega))]
      rfl
    · have hh : ¬ (N : Int) < X := of_decide_eq_false hh
      refine ⟨_, rfl, _, _, rfl, rfl, ⟨by decide, by decide, by decide⟩, _, Y, rfl, congrArg V.int hY, two_le, fun t2 ht2 => fin t2 _ ht2 ?_⟩
      unfold RWire.intOf
      have hf : decide (N < 9223372036854775808) = false := decide_eq_false (by omega)
      rw [hf, if_neg Bool.false_ne_true]
      show (N : Int) - Y = _
      rw [vY]
      rfl
  · -- a text
    obtain ⟨e, h4, hm⟩ := readWords_inv h
    obtain ⟨rfl, hrest⟩ := Prod.mk.inj e
    rw [List.length_drop] at h4
    rw [List.length_drop, List.length_drop] at hm
    refine ⟨_, rfl, rfl, _, rfl, ifF (by decide) ⟨_, rfl, rq, dx2, _, rfl, eR2, lkg _, rq, Tp, n + 1, 4, bs, rfl, ra2, hT2, by omega, fun H3 k3 ra3 => ?_⟩⟩
    generalize RWire.numOf ((bs.drop (n + 1)).take 4) = M at post hm hrest
    refine ⟨_, rfl, rfl, _, rfl, ifT (by decide) ?_⟩
    obtain ⟨dx3, eR3⟩ := id ra3
    refine ⟨_, rfl, rq, dx3, _, rfl, eR3, lkt _, _, rfl, rq, Tp, n + 1 + 4, M, bs, rfl, ra3, k3.sqT hT2, by omega, fun H4 r4 k4 ra4 h4' => ⟨r4, _, rfl, .inr ⟨h4', two_le, fun t2 ht2 => ?_⟩⟩⟩
    refine post _ _ (n + 1 + 4 + M) (((kA.trans k3).trans k4).trans (Keep.new ht2)) (ra4.keep (Keep.new ht2 : Kp _ _) (fun f => f)) (by rw [hrest, List.drop_drop, List.drop_drop]; congr 1; omega) ⟨t2, r4, rfl, .of upd_same, ?_⟩
    have h5 : SqT K (upd H4 t2 (.tup [.str "text", .ref r4])) r4 (octV ((bs.drop (n + 1 + 4)).take M)) := (Keep.new ht2 : Kp _ _).sqT h4'
    rw [unitsV_of, List.drop_drop]
    exact h5
  · -- a list
    obtain ⟨l, e1, e2, h4⟩ := readList_inv h
    have e2 : v = .list l := e2
    subst e2
    rw [List.length_drop] at h4
    refine ⟨_, rfl, rfl, _, rfl, ifF (by decide) ⟨_, rfl, rq, dx2, _, rfl, eR2, lkg _, rq, Tp, n + 1, 4, bs, rfl, ra2, hT2, by omega, fun H3 k3 ra3 => ?_⟩⟩
    have hM : RWire.numOf ((bs.drop (n + 1)).take 4) < 256 ^ 4 := Nat.lt_of_lt_of_le (numOf_lt _) (Nat.pow_le_pow_right (by decide) (by rw [List.length_take]; omega))
    generalize RWire.numOf ((bs.drop (n + 1)).take 4) = M at e1 hM
    refine ⟨_, rfl, rfl, _, rfl, ifF (by decide) ⟨_, rfl, rfl, _, rfl, ifT (by decide) ?_⟩⟩
    rw [List.drop_drop] at e1
    refine ⟨_, rfl, (M : Int), rfl, by omega, by omega, fun D hD => ?_⟩
    refine many_lc (vs := [4]) (fun x => ⟨rfl, rfl⟩) ra3 (k3.sqT hT2) hl e1 (gv_list g) hD fun H4 ys n' k4 ra4 er4 eD hp => ?_
    refine ⟨D, _, rfl, .inl ⟨.of eD, fun q hq => ⟨two_le, fun t2 ht2 => ?_⟩⟩⟩
    have kq : Kp H4 (upd H4 q (.tup ys)) := Keep.new hq
    have kt : Kp (upd H4 q (.tup ys)) (upd (upd H4 q (.tup ys)) t2 (.tup [.str "list", .ref q])) := Keep.new ht2
    exact post _ _ n' (((kA.trans k3).trans k4).trans (Kp.to (kq.trans kt))) (ra4.keep (kq.trans kt) (fun f => f)) er4 ⟨t2, q, ys, rfl, .of upd_same, .of (kt.tup _ _ upd_same), IsPs.mono (kq.trans kt) _ _ hp⟩
  · -- a record
    obtain ⟨l, e1, e2, h4⟩ := readRecord_inv h
    have e2 : v = .record l := e2
    subst e2
    rw [List.length_drop] at h4
    refine ⟨_, rfl, rfl, _, rfl, ifF (by decide) ⟨_, rfl, rq, dx2, _, rfl, eR2, lkg _, rq, Tp, n + 1, 4, bs, rfl, ra2, hT2, by omega, fun H3 k3 ra3 => ?_⟩⟩
    have hM : RWire.numOf ((bs.drop (n + 1)).take 4) < 256 ^ 4 := Nat.lt_of_lt_of_le (numOf_lt _) (Nat.pow_le_pow_right (by decide) (by rw [List.length_take]; omega))
    generalize RWire.numOf ((bs.drop (n + 1)).take 4) = M at e1 hM
    refine ⟨_, rfl, rfl, _, rfl, ifF (by decide) ⟨_, rfl, rfl, _, rfl, ifF (by decide) ?_⟩⟩
    rw [List.drop_drop] at e1
    have te : ∀ b x r, RWire.readEntry (readF f) b = some (x, r) → r.length < b.length := fun b x r h => by
      obtain ⟨q, h1, h2, _⟩ := readEntry_inv h
      obtain ⟨rfl, h3, h4⟩ := readText_inv h1
      have := readF_short f _ _ _ h2
      simp only [List.length_drop] at this
      show r.length < _
      omega
    have ml := readMany_len te e1
    refine ⟨Nat.zero_le _, fun a ha => ?_⟩
    have nar : a ≠ rq := by
      obtain ⟨dx3, eR3⟩ := ra3
      exact (ne_of_none eR3 ha).symm
    have ka : Kp H3 (upd H3 a (.lst [])) := Keep.new ha
    refine ⟨_, rfl, (M : Int), rfl, by omega, by omega, for_range (n := M) (fun i σ H' => ∃ (n' : Nat) (ys : List V) (v3 v6 : Option V), σ = [some (.ref rq), some (.int 8), none, some (.int M), v3, some (.ref a), v6] ∧ Keep (fun b => b = rq) H3 H' ∧ RqAt C H' rq Tp n' ∧ RWire.readMany (RWire.readEntry (readF f)) (M - i) (bs.drop n') = some (l.drop i, rest) ∧
        H' a = some (.lst ys) ∧ Paired (FldAt K H') ys (Rust.takenFields (l.take i)))
      ⟨n + 1 + 4, [], none, none, rfl, ka.to, ra3.keep ka (fun f => f), e1, upd_same, .nil⟩ ?_ ?_⟩
    · rintro i σ H4 hi ⟨n', ys, v3, v6, rfl, k4, ra4, rd4, ea, pf⟩
      obtain ⟨j', hj⟩ : ∃ j', M - i = j' + 1 := ⟨M - i - 1, by omega⟩
      rw [hj] at rd4
      obtain ⟨x, r4, l', f1, f2, f3⟩ := readMany_inv rd4
      have f3 : l.drop i = x :: l' := f3
      have hil : i < l.length := by have := ml.1; omega
      have ed : l.drop i = l[i] :: l.drop (i + 1) := List.drop_eq_getElem_cons hil
      rw [f3] at ed
      injection ed with ev el
      have hc : l[i]? = some x := by rw [List.getElem?_eq_getElem hil, ev]
      obtain ⟨q, g1, g2, g3⟩ := readEntry_inv f1
      obtain ⟨rfl, g4, g5⟩ := readText_inv g1
      rw [List.length_drop] at g4
      rw [List.length_drop, List.length_drop] at g5
      obtain ⟨dx4, eR4⟩ := id ra4
      have hT4 : SqT K H4 Tp (octV bs) := k4.sqT (k3.sqT hT2)
      generalize hN : RWire.numOf ((bs.drop n').take 4) = N at g2 g3 g5
      refine ⟨_, rfl, rq, dx4, _, rfl, eR4, lkt _, _, rfl, rq, dx4, _, rfl, eR4, lkg _, rq, Tp, n', 4, bs, rfl, ra4, hT4, by omega, fun H5 k5 ra5 => ?_⟩
      rw [hN]
      refine ⟨rq, Tp, n' + 4, N, bs, rfl, ra5, k5.sqT hT4, by omega, fun H6 r6 k6 ra6 h6 => ⟨r6, _, rfl, .inr ⟨h6, ?_⟩⟩⟩
      have k56 : Keep (fun b => b = rq) H4 H6 := k5.trans k6
      have ea6 : H6 a = some (.lst ys) := k56.all _ _ ea nar
      refine ⟨_, rfl, .inl ⟨rfl, _, .of ea6⟩, _, rfl, ?_⟩
      obtain ⟨dx6, eR6⟩ := id ra6
      have dd : (List.drop N (List.drop 4 (List.drop n' bs))) = bs.drop (n' + 4 + N) := by rw [List.drop_drop, List.drop_drop, Nat.add_assoc]
      rw [dd] at g2
      refine ⟨_, rfl, rq, dx6, _, rfl, eR6, lkv _, rq, Tp, n' + 4 + N, bs, x.2, r4, rfl, ra6, k56.sqT hT4, hl, g2, gv_record g x (mem_of_get hc), fun H7 u n7 k7 ra7 e7 hp => ⟨two_le, fun t7 ht7 => ?_⟩⟩
      have ea7 : H7 a = some (.lst ys) := k7.all _ _ ea6 nar
      have nat : a ≠ t7 := ne_of_none ea7 ht7
      have kt : Kp H7 (upd H7 t7 (.tup [.ref r6, u])) := Keep.new ht7
      have et : upd H7 t7 (.tup [.ref r6, u]) t7 = some (.tup [.ref r6, u]) := upd_same
      have eat := kat kt ea7
      have rat := ra7.keep kt (fun f => f)
      generalize upd H7 t7 (.tup [.ref r6, u]) = H8 at kt et eat rat
      have ly : ys.length < sizeLine := by
        have z1 := pf.length
        rw [takenFields_map, List.length_map, List.length_take] at z1
        have z2 := ml.2
        rw [List.length_drop] at z2
        exact Nat.lt_of_le_of_lt (by omega : ys.length ≤ 100000) (by decide)
      refine ⟨a, ys, _, rfl, rfl, eat, ly, ?_⟩
      have ka8 : Keep (fun b => b = a) H8 (upd H8 a (.lst (ys ++ [.ref t7]))) := Keep.put rfl eat (by intro z; exact HO.noConfusion) (by intro z w; exact HO.noConfusion)
      have k48 : Keep (fun b => b = rq) H4 H8 := (k56.trans k7).trans kt.to
      refine ⟨n7, ys ++ [.ref t7], _, _, rfl, (k4.trans k48).mut ha eat (by intro z; exact HO.noConfusion) (by intro z w; exact HO.noConfusion), rat.keep ka8 (fun z => nar z.symm), ?_, upd_same, ?_⟩
      · have e5 : M - (i + 1) = j' := by omega
        rw [e5, ← e7, ← el]
        exact f2
      · rw [take_snoc hc, takenFields_map, List.map_append, ← takenFields_map]
        refine Paired.snoc (pd_mono pf fun _ _ q => (q.mono k48).mono ka8) ⟨t7, r6, u, rfl, .of (ka8.tup _ _ et), ?_, IsP.mono ka8 _ _ (IsP.mono kt _ _ hp)⟩
        have e8 : unitsV (x.1.map Rust.unitOf) = octV ((bs.drop (n' + 4)).take N) := by
          rw [unitsV_of, g3, List.drop_drop]
        show SqT K _ r6 (unitsV (x.1.map Rust.unitOf))
        rw [e8]
        exact ka8.sqT (kt.sqT (k7.sqT h6))
    · rintro σ H4 ⟨n', ys, v3, v6, rfl, k4, ra4, rd4, ea, pf⟩
      rw [Nat.sub_self, readMany] at rd4
      have er4 : bs.drop n' = rest := (Prod.mk.inj (Option.some.inj rd4)).2
      have e9 : l.take M = l := by rw [← ml.1, List.take_length]
      rw [e9] at pf
      refine ⟨_, rfl, a, _, rfl, .inl ⟨.of ea, fun q hq => ⟨two_le, fun t2 ht2 => ?_⟩⟩⟩
      have kq : Kp H4 (upd H4 q (.tup ys)) := Keep.new hq
      have kt : Kp (upd H4 q (.tup ys)) (upd (upd H4 q (.tup ys)) t2 (.tup [.str "record", .ref q])) := Keep.new ht2
      exact post _ _ n' (((kA.trans k3).trans k4).trans (Kp.to (kq.trans kt))) (ra4.keep (kq.trans kt) (fun f => f)) er4.symm ⟨t2, q, ys, rfl, .of upd_same, .of (kt.tup _ _ upd_same), IsFs.mono (kq.trans kt) _ _ (isFs_of pf)⟩
end
end Fs

/-! Request.arguments; Request's defs together; value_octets. -/
namespace Fs
open PySem PySem.Spec PyProof.Rows L2 L2H
open R7286g.Spec (Plain Units)
open RWire (readF readMany)
section
variable {P : Program} {w : World} {K : PySem.W.Frag} {mg : Str → Option Value} {base : Heap}
def spArgs (K : PySem.W.Frag) (C : Addr) : Sp := fun vs H Q _ => ∃ (R T : Addr) (n most : Nat) (bs : List UInt8) (m : UInt8) (r rest : List UInt8) (l : List RWire.Value), vs = [.ref R, .int most] ∧ RqAt C H R T n ∧ SqT K H T (octV bs) ∧ bs.length ≤ 100000 ∧ bs.drop n = m :: r ∧
  readMany (readF 32) m.toNat r = some (l, rest) ∧ (∀ c ∈ l, gv c = true) ∧ l.length ≤ most ∧ most ≤ 100 ∧ ∀ H' a ys, Keep (fun b => b = R) H H' → H' a = some (.lst ys) → IsPs K H' ys (Rust.takenAll l ++ List.replicate (most - l.length) .undef) → Q (.ref a) H'
theorem isPs_rep {H : Hp} {v : V} (h : IsP K H v .undef) : ∀ n, IsPs K H (List.replicate n v) (List.replicate n .undef)
  | 0 => trivial
  | n + 1 => ⟨h, isPs_rep h n⟩
theorem flat_one {α : Type} (x : α) : ∀ n, (List.replicate n [x]).flatten = List.replicate n x
  | 0 => rfl
  | n + 1 => by rw [List.replicate_succ, List.flatten_cons, flat_one x n]; rfl
theorem b_Request_arguments (B : Bt mg) {aN aU aA : Addr} (T : Ct K mg aN aU aA) {C : Addr} (R : RqC K C) (c_Request_give_number : Met P w K mg base 2 C "give_number" (spGive K C)) (c_Request_value : Met P w K mg base 35 C "value" (spValue K C 32)) :
    Bd P w K mg base N_Request_arguments "Request.arguments" s_Request_arguments 35 (spArgs K C) := by
  rintro ff cdv A outer s H vs Q E hr ⟨rq, Tp, n, most, bs, m, r, rest, l, rfl, ra, hT, hl, eb, rd, gl, hlm, hm, post⟩
  refine ⟨_, pss_cons (ps_set (i := 2) sc_Request_arguments.nd rfl (Or.inl rfl) (pe_m c_Request_give_number hr (by omega) (pv 0) (by exact (pa_cons (pe_int) pa_nil))))
    (pss_cons (ps_setLc (i := 3) (own := [("turn", 4)]) (g := (gName 4)) (te := (tMt _ "value" _ E0 (tVar 0) tNil)) rfl sc_Request_arguments.nd rfl rfl (sw_true rfl rfl rfl (by decide +kernel)) (pi_range1 rfl B.range (pa_cons (pv 2) pa_nil)) (blkOk_by (N := N_Request_arguments) (sc := defScope s_Request_arguments) (by decide +kernel)) (fun _ _ _ _ _ => by exact pg_name (i := 4) sc_Request_arguments.nd rfl (Or.inl rfl)) (fun _ _ _ _ _ => pts_nil) (fun _ _ _ _ _ => by exact pe_m0 c_Request_value hr (by omega) (pv 0)))
    (pss_one (ps_ret (pe_op op_cat (pv 3) (pe_op op_rep (pe_lst (pa_cons (C8.pe_gc (by rfl) T.k_NOTHING) pa_nil)) (pe_op op_sub (pv 1) (pv 2))))))), ?_⟩
  obtain ⟨dx, eR⟩ := id ra
  have lkg : ∀ n, (rqF Tp n).lookup ("give_number" : Str) = none := fun n => rq_none Tp n (by decide +kernel) (by decide +kernel)
  obtain ⟨er, hn1, t1⟩ := drop_cons eb
  have ml := readMany_len (readF_short 32) rd
  refine ⟨_, rfl, rq, dx, _, rfl, eR, lkg n, rq, Tp, n, 1, bs, rfl, ra, hT, hn1, fun H1 k1 ra1 => ?_⟩
  rw [t1]
  have hm256 := m.toNat_lt
  rw [er] at rd
  refine ⟨_, rfl, (m.toNat : Int), rfl, by omega, by omega, fun D hD => ?_⟩
  refine many_lc (vs := [4]) (fun x => ⟨rfl, rfl⟩) ra1 (k1.sqT hT) hl rd gl hD fun H4 ys n' k4 ra4 er4 eD hp => ?_
  refine ⟨_, rfl, (by show 1 ≤ sizeLine; decide), fun q hq => ?_⟩
  have kq : Kp H4 (upd H4 q (.lst [.ref aN])) := Keep.new hq
  have eq : upd H4 q (.lst [.ref aN]) q = some (.lst [.ref aN]) := upd_same
  generalize upd H4 q (.lst [.ref aN]) = H5 at kq eq
  refine ⟨_, rfl, _, rfl, _, _, rfl, rfl, q, _, _, rfl, rfl, eq, by omega, by omega, ?_, fun q2 hq2 => ?_⟩
  · show 1 * _ ≤ sizeLine
    rw [Nat.one_mul]
    exact lenL (by omega)
  have e1 : ((most : Int) - (m.toNat : Nat)).toNat = most - l.length := by rw [ml.1]; omega
  rw [flat_one]
  have kq2 : Kp H5 (upd H5 q2 (.lst (List.replicate ((most : Int) - (m.toNat : Nat)).toNat (.ref aN)))) := Keep.new hq2
  have eq2 : upd H5 q2 (.lst (List.replicate ((most : Int) - (m.toNat : Nat)).toNat (.ref aN))) q2 = some (.lst (List.replicate (most - l.length) (.ref aN))) := by rw [upd_same, e1]
  generalize upd H5 q2 (.lst (List.replicate ((most : Int) - (m.toNat : Nat)).toNat (.ref aN))) = H6 at kq2 eq2
  have eD6 : H6 D = some (.lst ys) := kat kq2 (kat kq eD)
  have ly : ys.length = l.length := by rw [isPs_len hp, takenAll_map, List.length_map]
  refine ⟨D, q2, _, _, rfl, rfl, eD6, eq2, by rw [List.length_replicate, ly]; exact lenL (by omega), fun q3 hq3 => ?_⟩
  have k3 : Kp H4 (upd H6 q3 (.lst (ys ++ List.replicate (most - l.length) (.ref aN)))) := (kq.trans kq2).snoc hq3
  exact post _ q3 _ (k1.trans (k4.trans k3.to)) upd_same (isPs_app (IsPs.mono k3 _ _ hp) (isPs_rep ⟨aN, rfl, T.t_NOTHING _⟩ _))
/-! ### together -/
structure RqD (K : PySem.W.Frag) (mg : Str → Option Value) (C : Addr) : Prop where
  c : RqC K C
  new : Di K mg "Request" C "Request.__init__" s_Request_new ["self", "octets"]
  take : Dm K C "take" "Request.take" s_Request_take ["self", "many"]
  give_number : Dm K C "give_number" "Request.give_number" s_Request_give_number ["self", "many"]
  value : Dm K C "value" "Request.value" s_Request_value ["self"]
  arguments : Dm K C "arguments" "Request.arguments" s_Request_arguments ["self", "most"]
variable {C : Addr} {aN aU aA : Addr}
theorem ok_Request_new (D : RqD K mg C) : Mak P w K mg base 1 "Request" C (spRqNew C) := D.new.mak sc_Request_new (fun vs H Q E h => by obtain ⟨p, dx, T, rfl, _⟩ := h; rfl) (b_Request_new D.c)
theorem ok_take (D : RqD K mg C) : Met P w K mg base 1 C "take" (spTake K C) := D.take.met sc_Request_take (fun vs H Q E h => by obtain ⟨R, T, n, m, bs, rfl, _⟩ := h; rfl) (b_Request_take D.c)
theorem ok_give (D : RqD K mg C) : Met P w K mg base 2 C "give_number" (spGive K C) := D.give_number.met sc_Request_give_number (fun vs H Q E h => by obtain ⟨R, T, n, m, bs, rfl, _⟩ := h; rfl) (b_Request_give_number D.c (ok_take D))
theorem ok_value (B : Bt mg) (T : Ct K mg aN aU aA) (D : RqD K mg C) : ∀ f, Met P w K mg base (f + 3) C "value" (spValue K C f)
  | 0 => D.value.met sc_Request_value (fun vs H Q E h => by obtain ⟨R, T, n, bs, v, rest, rfl, _⟩ := h; rfl) (by
      rintro f cdv A outer s H vs Q E hr ⟨R, T, n, bs, v, rest, rfl, _, _, _, rd, _⟩
      rw [readF] at rd
      cases rd)
  | f + 1 => D.value.met sc_Request_value (fun vs H Q E h => by obtain ⟨R, T, n, bs, v, rest, rfl, _⟩ := h; rfl) (b_Request_value B T D.c f (ok_take D) (ok_give D) (ok_value B T D f))
theorem ok_arguments (B : Bt mg) (T : Ct K mg aN aU aA) (D : RqD K mg C) : Met P w K mg base 36 C "arguments" (spArgs K C) :=
  D.arguments.met sc_Request_arguments (fun vs H Q E h => by obtain ⟨R, T, n, most, bs, m, r, rest, l, rfl, _⟩ := h; rfl) (b_Request_arguments B T D.c (ok_give D) (ok_value B T D 32))
end
end Fs

/-! value_octets. -/
namespace Fs
open PySem PySem.Spec PyProof.Rows L2 L2H
open R7286g.Spec (Plain Units)
open RWire (write writeMany writeEntries)
theorem givenAll_map : ∀ l : List Plain, Rust.givenAll l = l.map Rust.given
  | [] => rfl
  | x :: r => by rw [Rust.givenAll, List.map_cons, givenAll_map r]
theorem givenFields_map : ∀ l : List (Units × Plain), Rust.givenFields l = l.map fun e => (e.1.map Rust.octetOf, Rust.given e.2)
  | [] => rfl
  | (n, x) :: r => by rw [Rust.givenFields, List.map_cons, givenFields_map r]
theorem writeMany_app : ∀ a b : List RWire.Value, writeMany (a ++ b) = writeMany a ++ writeMany b
  | [], b => rfl
  | x :: r, b => by rw [List.cons_append, writeMany, writeMany, writeMany_app r b, List.append_assoc]
theorem writeEntries_app : ∀ a b : List (RWire.Text × RWire.Value), writeEntries (a ++ b) = writeEntries a ++ writeEntries b
  | [], b => rfl
  | x :: r, b => by rw [List.cons_append, writeEntries, writeEntries, writeEntries_app r b, List.append_assoc, List.append_assoc]
theorem unitsV_oct {u : Units} (h : Rust.narrowText u = true) : unitsV u = octV (u.map Rust.octetOf) := by
  unfold unitsV octV
  rw [List.map_map]
  refine List.map_congr_left fun c hc => ?_
  have h1 : c.toNat < 256 := by
    have := List.all_eq_true.mp h c hc
    simpa [Nat.blt_eq] using this
  show V.int (c.toNat : Nat) = V.int ((Rust.octetOf c).toNat : Nat)
  have e : (Rust.octetOf c).toNat = c.toNat := by
    unfold Rust.octetOf
    rw [UInt8.toNat_ofNat']
    omega
  rw [e]
theorem narrowAll_mem : ∀ {l : List Plain}, Rust.narrowAll l = true → ∀ p ∈ l, Rust.narrow p = true
  | x :: r, h, p, hp => by
    rw [Rust.narrowAll, Bool.and_eq_true] at h
    rcases List.mem_cons.mp hp with rfl | hp
    · exact h.1
    · exact narrowAll_mem h.2 p hp
theorem narrowFields_mem : ∀ {l : List (Units × Plain)}, Rust.narrowFields l = true → ∀ p ∈ l, Rust.narrowText p.1 = true ∧ Rust.narrow p.2 = true
  | (n, x) :: r, h, p, hp => by
    rw [Rust.narrowFields, Bool.and_eq_true, Bool.and_eq_true] at h
    rcases List.mem_cons.mp hp with rfl | hp
    · exact ⟨h.1, h.2.1⟩
    · exact narrowFields_mem h.2.2 p hp
theorem depthMany_mem : ∀ {l : List RWire.Value}, ∀ v ∈ l, RWire.depth v ≤ RWire.depthMany l
  | x :: r, v, hv => by
    rw [RWire.depthMany]
    rcases List.mem_cons.mp hv with rfl | hv
    · exact Nat.le_max_left _ _
    · exact Nat.le_trans (depthMany_mem v hv) (Nat.le_max_right _ _)
theorem depthEntries_mem : ∀ {l : List (RWire.Text × RWire.Value)}, ∀ v ∈ l, RWire.depth v.2 ≤ RWire.depthEntries l
  | x :: r, v, hv => by
    rw [RWire.depthEntries]
    rcases List.mem_cons.mp hv with rfl | hv
    · exact Nat.le_max_left _ _
    · exact Nat.le_trans (depthEntries_mem v hv) (Nat.le_max_right _ _)
theorem isPs_split {K : PySem.W.Frag} {H : Hp} {vs : List V} {ps : List Plain} (h : IsPs K H vs ps) {i : Nat} {v : V} (e : vs[i]? = some v) : ∃ p, ps[i]? = some p ∧ IsP K H v p := isPs_get h e
theorem isFs_get {K : PySem.W.Frag} {H : Hp} : ∀ {vs : List V} {ps : List (Units × Plain)}, IsFs K H vs ps → ∀ {i : Nat} {v : V}, vs[i]? = some v → ∃ p, ps[i]? = some p ∧ FldAt K H v p
  | [], [], _, i, v, e => by simp at e
  | a :: _, (n, x) :: _, ⟨h, _⟩, 0, v, e => by
    obtain rfl : a = v := Option.some.inj e
    exact ⟨(n, x), rfl, h⟩
  | _ :: _, (_, _) :: _, ⟨_, h⟩, i + 1, v, e => isFs_get h (by simpa using e)
  | [], _ :: _, h, _, _, _ => h.elim
  | _ :: _, [], h, _, _, _ => h.elim
theorem octV_lenW (l : List UInt8) : (octV l).length = l.length := List.length_map _
section
variable {P : Program} {w : World} {K : PySem.W.Frag} {mg : Str → Option Value} {base : Heap}
def spVO (K : PySem.W.Frag) (n : Nat) : Sp := fun vs H Q _ => ∃ (v : V) (p : Plain), vs = [v] ∧ IsP K H v p ∧ Rust.narrow p = true ∧ RWire.depth (Rust.given p) < n + 1 ∧ (write (Rust.given p)).length ≤ 100000 ∧ ∀ H' r, Kp H H' → H r = none → H' r = some (.lst (octV (write (Rust.given p)))) → Q (.ref r) H'
theorem b_value_octets (B : Bt mg) (n : Nat) (c_number_octets : Cal P w K mg base 1 "number_octets" spNumOct) (c_value_octets : Cal P w K mg base (n + 2) "value_octets" (spVO K n)) :
    Bd P w K mg base N_value_octets "value_octets" s_value_octets (n + 2) (spVO K (n + 1)) := by
  rintro ff cdv A outer s H vs Q E hr ⟨v, p, rfl, h, nw, hd, hl, post⟩
  refine ⟨_, pss_cons (ps_set (i := 1) sc_value_octets.nd rfl (Or.inl rfl) (pe_ix ix_seq (pv 0) (pe_int) (fun _ _ => rfl)))
    (pss_cons (ps_if (pt_cmpR op_eq (pv 1) (pe_str) (nomark _)) (pss_one (ps_ret (pe_lst (pa_cons (pe_int) pa_nil)))) pss_nil)
    (pss_cons (ps_if (pt_cmpR op_eq (pv 1) (pe_str) (nomark _)) (pss_one (ps_ret (pe_lst (pa_cons (pe_int) pa_nil)))) pss_nil)
    (pss_cons (ps_if (pt_cmpR op_eq (pv 1) (pe_str) (nomark _)) (pss_one (ps_ret (pe_lst (pa_cons (pe_ifExp (pt_truth (pe_ix ix_seq (pv 0) (pe_int) (fun _ _ => rfl)) (fun _ => rfl)) (pe_int) (pe_int)) pa_nil)))) pss_nil)
    (pss_cons (ps_if (pt_cmpR op_eq (pv 1) (pe_str) (nomark _)) (pss_one (ps_ret (pe_op op_cat (pe_lst (pa_cons (pe_int) pa_nil)) (pe_c c_number_octets hr (by omega) (by rfl) (pa_cons (pe_op op_mod (pe_ix ix_seq (pv 0) (pe_int) (fun _ _ => rfl)) (pe_op op_shl (pe_int) (pe_int))) (pa_cons (pe_int) pa_nil)))))) pss_nil)
    (pss_cons (ps_set (i := 2) sc_value_octets.nd rfl (Or.inl rfl) (pe_c c_number_octets hr (by omega) (by rfl) (pa_cons (pe_callB call_len_seq (by rfl) B.len PySem.boot_len (pa_cons (pe_ix ix_seq (pv 0) (pe_int) (fun _ _ => rfl)) pa_nil)) (pa_cons (pe_int) pa_nil))))
    (pss_cons (ps_if (pt_cmpR op_eq (pv 1) (pe_str) (nomark _)) (pss_one (ps_ret (pe_op op_cat (pe_op op_cat (pe_lst (pa_cons (pe_int) pa_nil)) (pv 2)) (pe_callTy call_list_of (by rfl) B.list PyProof.Rows.boot_list (pa_cons (pe_ix ix_seq (pv 0) (pe_int) (fun _ _ => rfl)) pa_nil))))) pss_nil)
    (pss_cons (ps_if (pt_cmpR op_eq (pv 1) (pe_str) (nomark _)) (pss_cons (ps_for PassesOwn.never rfl (pi_tup (pe_ix ix_seq (pv 0) (pe_int) (fun _ _ => rfl))) (pg_name (i := 3) sc_value_octets.nd rfl (Or.inl rfl)) (pss_one (ps_expr (pe_bm PySem.F.plainAttrs_list PySem.F.slot_list_extend PySem.F.type_list_extend mt_extend (pv 2) (pa_cons (pe_c c_value_octets hr (by omega) (by rfl) (pa_cons (pv 3) pa_nil)) pa_nil)))))
    (pss_one (ps_ret (pe_op op_cat (pe_lst (pa_cons (pe_int) pa_nil)) (pv 2))))) pss_nil)
    (pss_cons (ps_for PassesOwn.never rfl (pi_tup (pe_ix ix_seq (pv 0) (pe_int) (fun _ _ => rfl))) (pg_tup rfl (pgs_cons (pg_name (i := 4) sc_value_octets.nd rfl (Or.inl rfl)) (pgs_cons (pg_name (i := 3) sc_value_octets.nd rfl (Or.inl rfl)) pgs_nil))) (pss_one (ps_expr (pe_bm PySem.F.plainAttrs_list PySem.F.slot_list_extend PySem.F.type_list_extend mt_extend (pv 2) (pa_cons (pe_op op_cat (pe_op op_cat (pe_c c_number_octets hr (by omega) (by rfl) (pa_cons (pe_callB call_len_seq (by rfl) B.len PySem.boot_len (pa_cons (pv 4) pa_nil)) (pa_cons (pe_int) pa_nil))) (pe_callTy call_list_of (by rfl) B.list PyProof.Rows.boot_list (pa_cons (pv 4) pa_nil))) (pe_c c_value_octets hr (by omega) (by rfl) (pa_cons (pv 3) pa_nil))) pa_nil)))))
    (pss_one (ps_ret (pe_op op_cat (pe_lst (pa_cons (pe_int) pa_nil)) (pv 2)))))))))))), ?_⟩
  obtain ⟨t, r0, rfl, ht⟩ := isP_tag h
  refine ⟨_, rfl, .inr (.inl ⟨t, _, 0, _, rfl, rfl, ht, atI_nat (j := 0) rfl, ?_⟩)⟩
  cases p with
  | undef => exact ⟨_, rfl, rfl, _, rfl, ifT (streq _) ⟨(by show 1 ≤ sizeLine; decide), fun r hr => post _ _ (Keep.new hr) hr upd_same⟩⟩
  | null => exact ⟨_, rfl, rfl, _, rfl, ifF (strne (a := "null") (by decide +kernel)) ⟨_, rfl, rfl, _, rfl, ifT (streq _) ⟨(by show 1 ≤ sizeLine; decide), fun r hr => post _ _ (Keep.new hr) hr upd_same⟩⟩⟩
  | bool b =>
    obtain ⟨t', e, hs⟩ := h
    cases e
    refine ⟨_, rfl, rfl, _, rfl, ifF (strne (a := "boolean") (by decide +kernel)) ⟨_, rfl, rfl, _, rfl, ifF (strne (a := "boolean") (by decide +kernel)) ⟨_, rfl, rfl, _, rfl, ifT (streq _) ?_⟩⟩⟩
    refine ⟨_, rfl, .inr (.inl ⟨t, _, 1, _, rfl, rfl, hs, atI_nat (j := 1) rfl, b, rfl, ?_⟩)⟩
    cases b with
    | true => exact ifT rfl ⟨(by show 1 ≤ sizeLine; decide), fun r hr => post _ _ (Keep.new hr) hr upd_same⟩
    | false => exact ifF rfl ⟨(by show 1 ≤ sizeLine; decide), fun r hr => post _ _ (Keep.new hr) hr upd_same⟩
  | num x =>
    obtain ⟨t', i, rfl, e, hs⟩ := h
    cases e
    refine ⟨_, rfl, rfl, _, rfl, ifF (strne (a := "integer") (by decide +kernel)) ⟨_, rfl, rfl, _, rfl, ifF (strne (a := "integer") (by decide +kernel)) ⟨_, rfl, rfl, _, rfl, ifF (strne (a := "integer") (by decide +kernel)) ⟨_, rfl, rfl, _, rfl, ifT (streq _) ?_⟩⟩⟩⟩
    obtain ⟨Y, hY⟩ : ∃ Y : Int, (1 : Int) * 2 ^ (64 : Int).toNat = Y := ⟨_, rfl⟩
    have vY : Y = 18446744073709551616 := hY.symm.trans (by decide +kernel)
    refine ⟨(by show 1 ≤ sizeLine; decide), fun a ha => ?_⟩
    have k1 : Kp H (upd H a (.lst [.int 4])) := Keep.new ha
    have ea : upd H a (.lst [.int 4]) a = some (.lst [.int 4]) := upd_same
    generalize upd H a (.lst [.int 4]) = H1 at k1 ea
    have en : (i % Y) = ((i % RWire.wordMost).toNat : Nat) := by
      rw [vY]
      have : (0 : Int) ≤ i % 18446744073709551616 := Int.emod_nonneg _ (by decide)
      show i % 18446744073709551616 = ((i % 18446744073709551616).toNat : Nat)
      omega
    refine ⟨_, rfl, .inr (.inl ⟨t, _, 1, _, rfl, rfl, k1.sqT hs, atI_nat (j := 1) rfl, _, _, rfl, rfl, ⟨by decide, by decide, by decide⟩, _, Y, rfl, congrArg V.int hY, (by show (0 : Int) < Y; omega), (i % RWire.wordMost).toNat, 8, ?_, by omega, fun H2 r2 k2 _ e2 => ?_⟩)⟩
    · show [V.int (i % Y), V.int 8] = _
      rw [en]
      rfl
    refine ⟨a, r2, _, _, rfl, rfl, kat k2 ea, e2, ?_, fun q hq => post _ _ ((k1.trans k2).snoc hq) (Kp.free (k1.trans k2) hq) ?_⟩
    · show 1 + (octV (RWire.low 8 _)).length ≤ sizeLine
      rw [octV_lenW]
      have : (write (Rust.given (.num (some i)))).length = 1 + (RWire.low 8 (i % RWire.wordMost).toNat).length := by
        show (4 :: RWire.low 8 (i % RWire.wordMost).toNat).length = _
        rw [List.length_cons]
        omega
      exact lenL (by omega)
    · rw [upd_same]
      rfl
  | str u =>
    obtain ⟨t', a, e, hs, ha⟩ := h
    cases e
    have nu : Rust.narrowText u = true := nw
    have ew : write (Rust.given (.str u)) = 6 :: (RWire.low 4 (u.map Rust.octetOf).length ++ u.map Rust.octetOf) := rfl
    rw [unitsV_oct nu] at ha
    refine ⟨_, rfl, rfl, _, rfl, ifF (strne (a := "text") (by decide +kernel)) ⟨_, rfl, rfl, _, rfl, ifF (strne (a := "text") (by decide +kernel)) ⟨_, rfl, rfl, _, rfl, ifF (strne (a := "text") (by decide +kernel)) ⟨_, rfl, rfl, _, rfl, ifF (strne (a := "text") (by decide +kernel)) ?_⟩⟩⟩⟩
    rw [ew] at hl
    rw [ew] at post
    generalize u.map Rust.octetOf = o at ha hl post
    rw [List.length_cons, List.length_append] at hl
    refine ⟨_, rfl, .inr (.inl ⟨t, _, 1, _, rfl, rfl, hs, atI_nat (j := 1) rfl, a, _, rfl, .inr ha, o.length, 4, (by rw [octV_lenW]; rfl), by omega, fun H1 r1 k1 n1 e1 => ?_⟩)⟩
    refine ⟨_, rfl, rfl, _, rfl, ifT (streq _) ⟨(by show 1 ≤ sizeLine; decide), fun a2 ha2 => ?_⟩⟩
    have k2 : Kp H1 (upd H1 a2 (.lst [.int 6])) := Keep.new ha2
    have e2 : upd H1 a2 (.lst [.int 6]) a2 = some (.lst [.int 6]) := upd_same
    generalize upd H1 a2 (.lst [.int 6]) = H2 at k2 e2
    refine ⟨_, rfl, a2, r1, _, _, rfl, rfl, e2, kat k2 e1, (by show 1 + (octV _).length ≤ sizeLine; rw [octV_lenW]; exact lenL (by omega)), fun a3 ha3 => ?_⟩
    have k3 : Kp H2 (upd H2 a3 (.lst ([.int 6] ++ octV (RWire.low 4 o.length)))) := Keep.new ha3
    have e3 : upd H2 a3 (.lst ([.int 6] ++ octV (RWire.low 4 o.length))) a3 = some (.lst ([.int 6] ++ octV (RWire.low 4 o.length))) := upd_same
    generalize upd H2 a3 (.lst ([.int 6] ++ octV (RWire.low 4 o.length))) = H3 at k3 e3
    have k13 : Kp H H3 := (k1.trans k2).trans k3
    refine ⟨_, rfl, .inr (.inl ⟨t, _, 1, _, rfl, rfl, k13.sqT hs, atI_nat (j := 1) rfl, a, _, rfl, .inr (k13.sqT ha), fun a4 ha4 => ?_⟩)⟩
    have k4 : Kp H3 (upd H3 a4 (.lst (octV o))) := Keep.new ha4
    have e4 : upd H3 a4 (.lst (octV o)) a4 = some (.lst (octV o)) := upd_same
    generalize upd H3 a4 (.lst (octV o)) = H4 at k4 e4
    refine ⟨a3, a4, _, _, rfl, rfl, kat k4 e3, e4, (by rw [List.length_append, octV_lenW, octV_lenW]; show 1 + _ + _ ≤ sizeLine; exact lenL (by omega)), fun q hq => post _ _ ((k13.trans k4).snoc hq) (Kp.free (k13.trans k4) hq) ?_⟩
    rw [upd_same]
    show some (HO.lst (([.int 6] ++ octV (RWire.low 4 o.length)) ++ octV o)) = some (HO.lst (V.int 6 :: octV (RWire.low 4 o.length ++ o)))
    rw [octV_app, List.append_assoc]
    rfl
  | arr xs =>
    obtain ⟨t', a, ys, e, hs, ha, hp⟩ := h
    cases e
    have na : Rust.narrowAll xs = true := nw
    have ew : write (Rust.given (.arr xs)) = 7 :: (RWire.low 4 (Rust.givenAll xs).length ++ writeMany (Rust.givenAll xs)) := rfl
    have hdd : RWire.depthMany (Rust.givenAll xs) + 1 < n + 1 + 1 := hd
    have ly : ys.length = (Rust.givenAll xs).length := by rw [isPs_len hp, givenAll_map, List.length_map]
    refine ⟨_, rfl, rfl, _, rfl, ifF (strne (a := "list") (by decide +kernel)) ⟨_, rfl, rfl, _, rfl, ifF (strne (a := "list") (by decide +kernel)) ⟨_, rfl, rfl, _, rfl, ifF (strne (a := "list") (by decide +kernel)) ⟨_, rfl, rfl, _, rfl, ifF (strne (a := "list") (by decide +kernel)) ?_⟩⟩⟩⟩
    rw [ew] at hl
    rw [ew] at post
    rw [List.length_cons, List.length_append] at hl
    refine ⟨_, rfl, .inr (.inl ⟨t, _, 1, _, rfl, rfl, hs, atI_nat (j := 1) rfl, a, _, rfl, .inr ha, (Rust.givenAll xs).length, 4, (by rw [ly]; rfl), by omega, fun H1 r1 k1 n1 e1 => ?_⟩)⟩
    refine ⟨_, rfl, rfl, _, rfl, ifF (strne (a := "list") (by decide +kernel)) ⟨_, rfl, rfl, _, rfl, ifT (streq _) ?_⟩⟩
    have hpre : ∀ i, (writeMany (Rust.givenAll (xs.take i))).length ≤ (writeMany (Rust.givenAll xs)).length := fun i => by
      have e : Rust.givenAll xs = Rust.givenAll (xs.take i) ++ Rust.givenAll (xs.drop i) := by rw [givenAll_map, givenAll_map, givenAll_map, ← List.map_append, List.take_append_drop]
      rw [e, writeMany_app, List.length_append]
      omega
    have ha1 := k1.sqT ha
    refine ⟨_, rfl, .inr (.inl ⟨t, _, 1, _, rfl, rfl, k1.sqT hs, atI_nat (j := 1) rfl, a, rfl, ⟨_, ha1⟩, for_tup (K := K) (a := a) (xs := ys) (fun i σ H' => ∃ v3 v4 : Option V, σ = [some (.ref t), some (.str "list"), some (.ref r1), v3, v4] ∧ Kp H H' ∧ H' r1 = some (.lst (octV (RWire.low 4 (Rust.givenAll xs).length ++ writeMany (Rust.givenAll (xs.take i))))))
      ⟨none, none, rfl, k1, by rw [e1, List.take_zero]; show _ = some (HO.lst (octV (_ ++ []))); rw [List.append_nil]⟩ (fun i σ H' _ ⟨_, _, _, kp, _⟩ => kp.sqT ha) ?_ ?_⟩)⟩
    · rintro i y σ H2 hi ⟨v3, v4, rfl, k2, e2⟩
      obtain ⟨x, hx, hy⟩ := isPs_get hp hi
      have hmx := mem_of_get hx
      have e4 : (writeMany ([x].map Rust.given)).length = (write (Rust.given x)).length := by
        show (write (Rust.given x) ++ []).length = _
        rw [List.append_nil]
      have hw : (write (Rust.given x)).length ≤ (writeMany (Rust.givenAll xs)).length := by
        have e3 := hpre (i + 1)
        rw [take_snoc hx, givenAll_map, List.map_append, writeMany_app, List.length_append] at e3
        omega
      have hdx : RWire.depth (Rust.given x) ≤ RWire.depthMany (Rust.givenAll xs) := depthMany_mem _ (by rw [givenAll_map]; exact List.mem_map_of_mem hmx)
      refine ⟨_, rfl, .inl ⟨rfl, _, .of e2⟩, _, rfl, y, x, rfl, IsP.mono k2 _ _ hy, narrowAll_mem na x hmx, by omega, by omega, fun H3 r3 k3 n3 e3 => ?_⟩
      have e23 := kat k3 e2
      refine ⟨r1, r3, _, _, rfl, rfl, e23, e3, ?_, ?_⟩
      · rw [octV_lenW, octV_lenW, List.length_append]
        have e5 := hpre (i + 1)
        rw [take_snoc hx, givenAll_map, List.map_append, writeMany_app, List.length_append, ← givenAll_map] at e5
        have e6 := hpre i
        exact lenL (by omega)
      · refine ⟨_, _, rfl, (k2.trans k3).mut n1 e23 (by intro z; exact HO.noConfusion) (by intro z w; exact HO.noConfusion), ?_⟩
        rw [upd_same, take_snoc hx, givenAll_map (_ ++ _), List.map_append, writeMany_app, ← givenAll_map]
        show some (HO.lst (octV _ ++ octV _)) = some (HO.lst (octV (_ ++ (_ ++ (write (Rust.given x) ++ [])))))
        rw [List.append_nil, ← List.append_assoc, octV_app _ (write (Rust.given x))]
    · rintro σ H2 ⟨v3, v4, rfl, k2, e2⟩
      have e5 : xs.take ys.length = xs := by rw [isPs_len hp, List.take_length]
      rw [e5] at e2
      refine ⟨(by show 1 ≤ sizeLine; decide), fun a3 ha3 => ?_⟩
      have k3 : Kp H2 (upd H2 a3 (.lst [.int 7])) := Keep.new ha3
      have e3 : upd H2 a3 (.lst [.int 7]) a3 = some (.lst [.int 7]) := upd_same
      generalize upd H2 a3 (.lst [.int 7]) = H3 at k3 e3
      refine ⟨_, rfl, a3, r1, _, _, rfl, rfl, e3, kat k3 e2, (by rw [octV_lenW, List.length_append]; show 1 + _ ≤ sizeLine; exact lenL (by omega)), fun q hq => post _ _ ((k2.trans k3).snoc hq) (Kp.free (k2.trans k3) hq) ?_⟩
      rw [upd_same]
      rfl
  | obj fs =>
    obtain ⟨t', a, ys, e, hs, ha, hp⟩ := h
    cases e
    have na : Rust.narrowFields fs = true := nw
    have ew : write (Rust.given (.obj fs)) = 8 :: (RWire.low 4 (Rust.givenFields fs).length ++ writeEntries (Rust.givenFields fs)) := rfl
    have hdd : RWire.depthEntries (Rust.givenFields fs) + 1 < n + 1 + 1 := hd
    have ly : ys.length = (Rust.givenFields fs).length := by rw [isFs_len hp, givenFields_map, List.length_map]
    refine ⟨_, rfl, rfl, _, rfl, ifF (strne (a := "record") (by decide +kernel)) ⟨_, rfl, rfl, _, rfl, ifF (strne (a := "record") (by decide +kernel)) ⟨_, rfl, rfl, _, rfl, ifF (strne (a := "record") (by decide +kernel)) ⟨_, rfl, rfl, _, rfl, ifF (strne (a := "record") (by decide +kernel)) ?_⟩⟩⟩⟩
    rw [ew] at hl
    rw [ew] at post
    rw [List.length_cons, List.length_append] at hl
    refine ⟨_, rfl, .inr (.inl ⟨t, _, 1, _, rfl, rfl, hs, atI_nat (j := 1) rfl, a, _, rfl, .inr ha, (Rust.givenFields fs).length, 4, (by rw [ly]; rfl), by omega, fun H1 r1 k1 n1 e1 => ?_⟩)⟩
    refine ⟨_, rfl, rfl, _, rfl, ifF (strne (a := "record") (by decide +kernel)) ⟨_, rfl, rfl, _, rfl, ifF (strne (a := "record") (by decide +kernel)) ?_⟩⟩
    have hpre : ∀ i, (writeEntries (Rust.givenFields (fs.take i))).length ≤ (writeEntries (Rust.givenFields fs)).length := fun i => by
      have e : Rust.givenFields fs = Rust.givenFields (fs.take i) ++ Rust.givenFields (fs.drop i) := by rw [givenFields_map, givenFields_map, givenFields_map, ← List.map_append, List.take_append_drop]
      rw [e, writeEntries_app, List.length_append]
      omega
    have hone : ∀ {i : Nat} {x : Units × Plain}, fs[i]? = some x → writeEntries (Rust.givenFields (fs.take (i + 1))) = writeEntries (Rust.givenFields (fs.take i)) ++ ((RWire.low 4 (x.1.map Rust.octetOf).length ++ x.1.map Rust.octetOf) ++ write (Rust.given x.2)) := fun {i x} hx => by
      rw [take_snoc hx, givenFields_map, List.map_append, writeEntries_app, ← givenFields_map]
      show _ ++ ((RWire.low 4 (x.1.map Rust.octetOf).length ++ x.1.map Rust.octetOf) ++ (write (Rust.given x.2) ++ [])) = _
      rw [List.append_nil]
    have ha1 := k1.sqT ha
    refine ⟨_, rfl, .inr (.inl ⟨t, _, 1, _, rfl, rfl, k1.sqT hs, atI_nat (j := 1) rfl, a, rfl, ⟨_, ha1⟩, for_tup (K := K) (a := a) (xs := ys) (fun i σ H' => ∃ v3 v4 : Option V, σ = [some (.ref t), some (.str "record"), some (.ref r1), v3, v4] ∧ Kp H H' ∧ H' r1 = some (.lst (octV (RWire.low 4 (Rust.givenFields fs).length ++ writeEntries (Rust.givenFields (fs.take i))))))
      ⟨none, none, rfl, k1, by rw [e1, List.take_zero]; show _ = some (HO.lst (octV (_ ++ []))); rw [List.append_nil]⟩ (fun i σ H' _ ⟨_, _, _, kp, _⟩ => kp.sqT ha) ?_ ?_⟩)⟩
    · rintro i y σ H2 hi ⟨v3, v4, rfl, k2, e2⟩
      obtain ⟨x, hx, ty, an, wy, rfl, hty, han, hwy⟩ := isFs_get hp hi
      have hmx := mem_of_get hx
      have hnx := narrowFields_mem na x hmx
      have hw := hpre (i + 1)
      rw [hone hx, List.length_append, List.length_append, List.length_append] at hw
      have hdx : RWire.depth (Rust.given x.2) ≤ RWire.depthEntries (Rust.givenFields fs) := depthEntries_mem (x.1.map Rust.octetOf, Rust.given x.2) (by rw [givenFields_map]; exact List.mem_map_of_mem (f := fun e : Units × Plain => (e.1.map Rust.octetOf, Rust.given e.2)) hmx)
      rw [unitsV_oct hnx.1] at han
      have hone' := hone hx
      generalize x.1.map Rust.octetOf = o at han hone' hw
      refine ⟨ty, _, rfl, k2.sqT hty, rfl, _, _, rfl, _, _, rfl, rfl, ?_⟩
      refine ⟨_, rfl, .inl ⟨rfl, _, .of e2⟩, _, rfl, an, _, rfl, .inr (k2.sqT han), o.length, 4, (by rw [octV_lenW]; rfl), by omega, fun H3 r3 k3 n3 e3 => ?_⟩
      refine ⟨_, rfl, an, _, rfl, .inr (k3.sqT (k2.sqT han)), fun a4 ha4 => ?_⟩
      have k4 : Kp H3 (upd H3 a4 (.lst (octV o))) := Keep.new ha4
      have e4 : upd H3 a4 (.lst (octV o)) a4 = some (.lst (octV o)) := upd_same
      generalize upd H3 a4 (.lst (octV o)) = H4 at k4 e4
      refine ⟨r3, a4, _, _, rfl, rfl, kat k4 e3, e4, (by rw [octV_lenW, octV_lenW]; exact lenL (by omega)), fun a5 ha5 => ?_⟩
      have k5 : Kp H4 (upd H4 a5 (.lst (octV (RWire.low 4 o.length) ++ octV o))) := Keep.new ha5
      have e5 : upd H4 a5 (.lst (octV (RWire.low 4 o.length) ++ octV o)) a5 = some (.lst (octV (RWire.low 4 o.length ++ o))) := by rw [upd_same, octV_app]
      generalize upd H4 a5 (.lst (octV (RWire.low 4 o.length) ++ octV o)) = H5 at k5 e5
      have k25 : Kp H2 H5 := (k3.trans k4).trans k5
      refine ⟨_, rfl, wy, x.2, rfl, IsP.mono (k2.trans k25) _ _ hwy, hnx.2, by omega, by omega, fun H6 r6 k6 n6 e6 => ?_⟩
      refine ⟨a5, r6, _, _, rfl, rfl, kat k6 e5, e6, (by rw [octV_lenW, octV_lenW, List.length_append]; exact lenL (by omega)), fun a7 ha7 => ?_⟩
      have k7 : Kp H6 (upd H6 a7 (.lst (octV (RWire.low 4 o.length ++ o) ++ octV (write (Rust.given x.2))))) := Keep.new ha7
      have e7 : upd H6 a7 (.lst (octV (RWire.low 4 o.length ++ o) ++ octV (write (Rust.given x.2)))) a7 = some (.lst (octV ((RWire.low 4 o.length ++ o) ++ write (Rust.given x.2)))) := by rw [upd_same, octV_app _ (write _)]
      generalize upd H6 a7 (.lst (octV (RWire.low 4 o.length ++ o) ++ octV (write (Rust.given x.2)))) = H7 at k7 e7
      have k27 : Kp H2 H7 := (k25.trans k6).trans k7
      have e27 := kat k27 e2
      refine ⟨r1, a7, _, _, rfl, rfl, e27, e7, ?_, ?_⟩
      · rw [octV_lenW, octV_lenW, List.length_append, List.length_append, List.length_append]
        exact lenL (by omega)
      · refine ⟨_, _, rfl, (k2.trans k27).mut n1 e27 (by intro z; exact HO.noConfusion) (by intro z w; exact HO.noConfusion), ?_⟩
        rw [upd_same, hone', ← List.append_assoc, octV_app _ ((RWire.low 4 o.length ++ o) ++ write (Rust.given x.2))]
    · rintro σ H2 ⟨v3, v4, rfl, k2, e2⟩
      have e5 : fs.take ys.length = fs := by rw [isFs_len hp, List.take_length]
      rw [e5] at e2
      refine ⟨(by show 1 ≤ sizeLine; decide), fun a3 ha3 => ?_⟩
      have k3 : Kp H2 (upd H2 a3 (.lst [.int 8])) := Keep.new ha3
      have e3 : upd H2 a3 (.lst [.int 8]) a3 = some (.lst [.int 8]) := upd_same
      generalize upd H2 a3 (.lst [.int 8]) = H3 at k3 e3
      refine ⟨_, rfl, a3, r1, _, _, rfl, rfl, e3, kat k3 e2, (by rw [octV_lenW, List.length_append]; show 1 + _ ≤ sizeLine; exact lenL (by omega)), fun q hq => post _ _ ((k2.trans k3).snoc hq) (Kp.free (k2.trans k3) hq) ?_⟩
      rw [upd_same]
      rfl
  | big i => exact h.elim
theorem ok_value_octets (B : Bt mg) (c_number_octets : Cal P w K mg base 1 "number_octets" spNumOct) (D : Df K mg "value_octets" s_value_octets ["value"]) : ∀ n, Cal P w K mg base (n + 2) "value_octets" (spVO K n)
  | 0 => D.cal sc_value_octets (fun vs H Q E h => by obtain ⟨v, p, rfl, _⟩ := h; rfl) (by
      rintro f cdv A outer s H vs Q E hr ⟨v, p, rfl, _, _, hd, _⟩
      exact absurd hd (by
        have : 1 ≤ RWire.depth (Rust.given p) := by
          cases p <;> simp [Rust.given, RWire.depth, Rust.givenText, Rust.wideTold]
        omega))
  | n + 1 => D.cal sc_value_octets (fun vs H Q E h => by obtain ⟨v, p, rfl, _⟩ := h; rfl) (b_value_octets B n c_number_octets (ok_value_octets B c_number_octets D n))
end
end Fs

/-! Arguments of the doors: setting_of, is_answer, answers_of, is_plan, plan_of, plan_value, number_value. -/
namespace Fs
open PySem PySem.Spec PyProof.Rows L2 L2H
open R7286g.Spec (Plain Units Res Err rangeIn rangeInt whole versionsArg wrongBadArg wrongGoodArg gameArg andThen startOf Candidate answerIn answersArg allSome planIn planArg Plan planOf bestTest)
/-! ### messages -/
structure MsgOk (m : Str) (u : Units) : Prop where
  asc : m.cps.all (· < 128) = true
  len : m.cps.size ≤ 1000
  eq : strV m = unitsV u
theorem msg_versions : MsgOk "versions must be an integer from 2 to 10" (R7286g.Spec.units "versions must be an integer from 2 to 10") := ⟨by decide +kernel, by decide +kernel, by decide +kernel⟩
theorem msg_wrongBad : MsgOk "wrongBad must be an integer from 0 to 2" (R7286g.Spec.units "wrongBad must be an integer from 0 to 2") := ⟨by decide +kernel, by decide +kernel, by decide +kernel⟩
theorem msg_wrongGood : MsgOk "wrongGood must be an integer from 0 to 2" (R7286g.Spec.units "wrongGood must be an integer from 0 to 2") := ⟨by decide +kernel, by decide +kernel, by decide +kernel⟩
theorem msg_answers : MsgOk "answers must be a list of at most 30 pairs of a tested version and a boolean" (R7286g.Spec.units "answers must be a list of at most 30 pairs of a tested version and a boolean") := ⟨by decide +kernel, by decide +kernel, by decide +kernel⟩
theorem msg_noVersion : MsgOk "the answers allow no version" (R7286g.Spec.units "the answers allow no version") := ⟨by decide +kernel, by decide +kernel, by decide +kernel⟩
theorem msg_tested : MsgOk "tested must be an integer from 0 to versions - 2" (R7286g.Spec.units "tested must be an integer from 0 to versions - 2") := ⟨by decide +kernel, by decide +kernel, by decide +kernel⟩
theorem msg_version : MsgOk "version must be an integer from 0 to versions - 1" (R7286g.Spec.units "version must be an integer from 0 to versions - 1") := ⟨by decide +kernel, by decide +kernel, by decide +kernel⟩
theorem msg_best : MsgOk "the best plan has more than 6 tests in a row" (R7286g.Spec.units "the best plan has more than 6 tests in a row") := ⟨by decide +kernel, by decide +kernel, by decide +kernel⟩
theorem msg_plan : MsgOk "plan must be a plan with at most 6 tests in a row" (R7286g.Spec.units "plan must be a plan with at most 6 tests in a row") := ⟨by decide +kernel, by decide +kernel, by decide +kernel⟩
theorem msg_function : MsgOk "test must be a function" (R7286g.Spec.units "test must be a function") := ⟨by decide +kernel, by decide +kernel, by decide +kernel⟩
/-! ### whole numbers in a range -/
theorem range_some {a b : Nat} {p : Plain} {n : Nat} (h : rangeIn a b p = some n) : (∀ K H v, IsP K H v p → p = .num (some (n : Int))) ∧ a ≤ n ∧ n ≤ b := by
  unfold rangeIn rangeInt at h
  cases p with
  | num x =>
    cases x with
    | none => cases h
    | some i =>
      have e : whole (.num (some i)) = some i := rfl
      rw [e] at h
      simp only [Option.bind_some] at h
      split at h
      · rename_i hc
        obtain ⟨h1, h2⟩ := hc
        have h1 : (a : Int) ≤ i := h1
        have h2 : i ≤ (b : Int) := h2
        have e : i.toNat = n := Option.some.inj h
        have e2 : i = (n : Int) := by omega
        exact ⟨fun _ _ _ _ => by rw [e2], by omega, by omega⟩
      · cases h
  | _ => cases h
theorem range_num (a b : Nat) (i : Int) : rangeIn a b (.num (some i)) = if numIn (.num (some i)) a b = true then some i.toNat else none := by
  unfold rangeIn rangeInt
  have e : whole (.num (some i)) = some i := rfl
  rw [e]
  simp only [Option.bind_some, numIn, Bool.and_eq_true, decide_eq_true_eq]
  show Option.map Int.toNat (if (a : Int) ≤ i ∧ i ≤ (b : Int) then some i else none) = _
  by_cases h : (a : Int) ≤ i ∧ i ≤ (b : Int)
  · rw [if_pos h, if_pos h]
    rfl
  · rw [if_neg h, if_neg h]
    rfl
theorem numIn_range {K : PySem.W.Frag} {H : Hp} {v : V} {p : Plain} (h : IsP K H v p) (a b : Nat) : numIn p a b = (rangeIn a b p).isSome := by
  cases p with
  | num x =>
    obtain ⟨t, i, rfl, _⟩ := h
    rw [range_num]
    cases numIn (.num (some i)) a b <;> rfl
  | _ => rfl
theorem range_yes {K : PySem.W.Frag} {H : Hp} {v : V} {p : Plain} (h : IsP K H v p) (a b : Nat) (q : numIn p a b = true) : ∃ n, rangeIn a b p = some n := by
  have := numIn_range h a b
  rw [q] at this
  exact Option.isSome_iff_exists.mp this.symm
theorem range_no {K : PySem.W.Frag} {H : Hp} {v : V} {p : Plain} (h : IsP K H v p) (a b : Nat) (q : numIn p a b = false) : rangeIn a b p = none := by
  have := numIn_range h a b
  rw [q] at this
  exact Option.not_isSome_iff_eq_none.mp (by rw [← this]; decide)
section
variable {P : Program} {w : World} {K : PySem.W.Frag} {mg : Str → Option Value} {base : Heap} {CR : Addr}
theorem isP_int {H : Hp} {v : V} {i : Int} (h : IsP K H v (.num (some i))) : ∃ t, v = .ref t ∧ SqT K H t [.str "integer", .int i] := by
  obtain ⟨t, j, e, e2, h⟩ := h
  injection e with e
  rw [e]
  exact ⟨t, e2, h⟩
/-! ### setting_of -/
def settingR (x y z : Plain) : Res (Nat × Nat × Nat) := andThen (versionsArg x) fun n => andThen (wrongBadArg y) fun p => andThen (wrongGoodArg z) fun q => .ok (n, p, q)
theorem game_setting (x y z : Plain) : gameArg x y z = andThen (settingR x y z) fun s => .ok (s.1, startOf s.1 s.2.1 s.2.2) := by
  unfold gameArg settingR
  cases versionsArg x with
  | error e => rfl
  | ok n =>
    cases wrongBadArg y with
    | error e => rfl
    | ok p =>
      cases wrongGoodArg z with
      | error e => rfl
      | ok q => rfl
/-- how a refusal leaves -/
def Out (CR : Addr) (E : XK) (F : Addr → Prop) (Iv : Hp → Prop) (H : Hp) (e : Err) : Prop := ∀ d H' m, Keep F H H' → Iv H' → XdAt H' d (Rust.classOf e.cls) m → MsgOk m e.msg → E (.ref CR) (some d) H'
def spSetting (K : PySem.W.Frag) (CR : Addr) : Sp := fun vs H Q E => ∃ (g : Addr) (v0 v1 v2 : V) (r : List V) (x y z : Plain), vs = [.ref g] ∧ H g = some (.lst (v0 :: v1 :: v2 :: r)) ∧ IsP K H v0 x ∧ IsP K H v1 y ∧ IsP K H v2 z ∧
  (∀ n p q, settingR x y z = .ok (n, p, q) → 2 ≤ n → n ≤ 10 → p ≤ 2 → q ≤ 2 → ∀ H' t, Kp H H' → H' t = some (.tup [.int n, .int p, .int q]) → Q (.ref t) H') ∧ (∀ e, settingR x y z = .error e → Out CR E (fun _ => False) (fun _ => True) H e)
theorem b_setting_of {aN aU aA : Addr} (T : Ct K mg aN aU aA) (c_number_in : Cal P w K mg base 1 "number_in" (spNumberIn K)) (c_need_range : CalX P w K mg base 3 "need_range" (spNeed CR 2)) : BdX P w K mg base N_setting_of "setting_of" s_setting_of 3 (spSetting K CR) := by
  rintro f cdv A outer s H vs Q E hr ⟨g, v0, v1, v2, r, x, y, z, rfl, eg, h0, h1, h2, good, bad⟩
  refine ⟨_, pss_cons (ps_expr (pe_cX (E := E) c_need_range hr (by omega) (by rfl) (L2N.takes_of rfl rfl rfl rfl) (fun _ _ _ _ h => h) (pa_cons (pe_c c_number_in hr (by omega) (by rfl) (pa_cons (pe_ix ix_seq (pv 0) (pe_int) (fun _ _ => rfl)) (pa_cons (pe_int) (pa_cons (pe_int) pa_nil)))) (pa_cons (pe_str) pa_nil))))
    (pss_cons (ps_expr (pe_cX (E := E) c_need_range hr (by omega) (by rfl) (L2N.takes_of rfl rfl rfl rfl) (fun _ _ _ _ h => h) (pa_cons (pe_c c_number_in hr (by omega) (by rfl) (pa_cons (pe_ix ix_seq (pv 0) (pe_int) (fun _ _ => rfl)) (pa_cons (pe_int) (pa_cons (pe_int) pa_nil)))) (pa_cons (pe_str) pa_nil))))
    (pss_cons (ps_expr (pe_cX (E := E) c_need_range hr (by omega) (by rfl) (L2N.takes_of rfl rfl rfl rfl) (fun _ _ _ _ h => h) (pa_cons (pe_c c_number_in hr (by omega) (by rfl) (pa_cons (pe_ix ix_seq (pv 0) (pe_int) (fun _ _ => rfl)) (pa_cons (pe_int) (pa_cons (pe_int) pa_nil)))) (pa_cons (pe_str) pa_nil))))
    (pss_one (ps_ret (pe_tup (pa_cons (pe_ix ix_seq (pe_ix ix_seq (pv 0) (pe_int) (fun _ _ => rfl)) (pe_int) (fun _ _ => rfl)) (pa_cons (pe_ix ix_seq (pe_ix ix_seq (pv 0) (pe_int) (fun _ _ => rfl)) (pe_int) (fun _ _ => rfl)) (pa_cons (pe_ix ix_seq (pe_ix ix_seq (pv 0) (pe_int) (fun _ _ => rfl)) (pe_int) (fun _ _ => rfl)) pa_nil)))))))), ?_⟩
  refine ⟨_, rfl, .inl ⟨g, _, 0, _, rfl, rfl, .of eg, atI_nat (j := 0) rfl, v0, x, 2, 10, rfl, h0, _, _, rfl, fun q0 => ?_, fun q0 d H' k hx => ?_⟩⟩
  rotate_left
  · have e : rangeIn 2 10 x = none := range_no h0 2 10 q0
    have es : settingR x y z = .error (R7286g.Spec.beyond "versions must be an integer from 2 to 10") := by
      unfold settingR versionsArg
      show andThen (match rangeIn 2 10 x with | some n => .ok n | none => R7286g.Spec.bad _) _ = _
      rw [e]
      rfl
    exact bad _ es d H' _ k trivial hx msg_versions
  have e0 : ∃ n, rangeIn 2 10 x = some n := range_yes h0 2 10 q0
  obtain ⟨n, e0⟩ := e0
  obtain ⟨ex, hn1, hn2⟩ := range_some e0
  have ex := ex _ _ _ h0
  refine ⟨_, rfl, .inl ⟨g, _, 1, _, rfl, rfl, .of eg, atI_nat (j := 1) rfl, v1, y, 0, 2, rfl, h1, _, _, rfl, fun q1 => ?_, fun q1 d H' k hx => ?_⟩⟩
  rotate_left
  · have e : rangeIn 0 2 y = none := range_no h1 0 2 q1
    have es : settingR x y z = .error (R7286g.Spec.beyond "wrongBad must be an integer from 0 to 2") := by
      unfold settingR versionsArg wrongBadArg
      show andThen (match rangeIn 2 10 x with | some n => .ok n | none => R7286g.Spec.bad _) _ = _
      rw [e0, e]
      rfl
    exact bad _ es d H' _ k trivial hx msg_wrongBad
  have e1 : ∃ n, rangeIn 0 2 y = some n := range_yes h1 0 2 q1
  obtain ⟨p, e1⟩ := e1
  obtain ⟨ey, _, hp⟩ := range_some e1
  have ey := ey _ _ _ h1
  refine ⟨_, rfl, .inl ⟨g, _, 2, _, rfl, rfl, .of eg, atI_nat (j := 2) rfl, v2, z, 0, 2, rfl, h2, _, _, rfl, fun q2 => ?_, fun q2 d H' k hx => ?_⟩⟩
  rotate_left
  · have e : rangeIn 0 2 z = none := range_no h2 0 2 q2
    have es : settingR x y z = .error (R7286g.Spec.beyond "wrongGood must be an integer from 0 to 2") := by
      unfold settingR versionsArg wrongBadArg wrongGoodArg
      show andThen (match rangeIn 2 10 x with | some n => .ok n | none => R7286g.Spec.bad _) _ = _
      rw [e0, e1, e]
      rfl
    exact bad _ es d H' _ k trivial hx msg_wrongGood
  have e2 : ∃ n, rangeIn 0 2 z = some n := range_yes h2 0 2 q2
  obtain ⟨q, e2⟩ := e2
  obtain ⟨ez, _, hq⟩ := range_some e2
  have ez := ez _ _ _ h2
  subst ex ey ez
  obtain ⟨t0, rfl, s0⟩ := isP_int h0
  obtain ⟨t1, rfl, s1⟩ := isP_int h1
  obtain ⟨t2, rfl, s2⟩ := isP_int h2
  have es : settingR (.num (some (n : Int))) (.num (some (p : Int))) (.num (some (q : Int))) = .ok (n, p, q) := by
    unfold settingR versionsArg wrongBadArg wrongGoodArg
    show andThen (match rangeIn 2 10 _ with | some n => .ok n | none => R7286g.Spec.bad _) _ = _
    rw [e0, e1, e2]
    rfl
  exact ⟨_, rfl, .inl ⟨g, _, 0, _, rfl, rfl, .of eg, atI_nat (j := 0) rfl, .inr (.inl ⟨t0, _, 1, _, rfl, rfl, s0, atI_nat (j := 1) rfl,
    _, rfl, .inl ⟨g, _, 1, _, rfl, rfl, .of eg, atI_nat (j := 1) rfl, .inr (.inl ⟨t1, _, 1, _, rfl, rfl, s1, atI_nat (j := 1) rfl,
    _, rfl, .inl ⟨g, _, 2, _, rfl, rfl, .of eg, atI_nat (j := 2) rfl, .inr (.inl ⟨t2, _, 1, _, rfl, rfl, s2, atI_nat (j := 1) rfl,
    three_le, fun t ht => good n p q es hn1 hn2 hp hq _ t (Keep.new ht) upd_same⟩)⟩⟩)⟩⟩)⟩⟩
end
end Fs

/-! is_answer, answers_of, is_plan, plan_of, plan_value, number_value. -/
namespace Fs
open PySem PySem.Spec PyProof.Rows L2 L2H
open R7286g.Spec (Plain Units Res Err rangeIn andThen answerIn answersArg allSome planIn planArg Plan planOf noAnswers nat)
theorem ifNeStr {a b : Str} (h : (a == b) = false) : (!decide (V.str a = V.str b)) = true := by rw [strne h]; rfl
theorem ifEqStr (a : Str) : (!decide (V.str a = V.str a)) = false := by rw [streq]; rfl
section
variable {P : Program} {w : World} {K : PySem.W.Frag} {mg : Str → Option Value} {base : Heap} {CR : Addr}
theorem isPs_two {H : Hp} {vs : List V} {x y : Plain} (h : IsPs K H vs [x, y]) : ∃ a b, vs = [a, b] ∧ IsP K H a x ∧ IsP K H b y := by
  have hl := isPs_len h
  obtain ⟨a, h1, h2⟩ := isPs_getR h (i := 0) (p := x) rfl
  obtain ⟨b, h3, h4⟩ := isPs_getR h (i := 1) (p := y) rfl
  refine ⟨a, b, ?_, h2, h4⟩
  match vs, hl, h1, h3 with
  | [c, d], _, h1, h3 => rw [← Option.some.inj h1, ← Option.some.inj h3]
theorem isPs_three {H : Hp} {vs : List V} {x y z : Plain} (h : IsPs K H vs [x, y, z]) : ∃ a b c, vs = [a, b, c] ∧ IsP K H a x ∧ IsP K H b y ∧ IsP K H c z := by
  have hl := isPs_len h
  obtain ⟨a, h1, h2⟩ := isPs_getR h (i := 0) (p := x) rfl
  obtain ⟨b, h3, h4⟩ := isPs_getR h (i := 1) (p := y) rfl
  obtain ⟨c, h5, h6⟩ := isPs_getR h (i := 2) (p := z) rfl
  refine ⟨a, b, c, ?_, h2, h4, h6⟩
  match vs, hl, h1, h3, h5 with
  | [c, d, e], _, h1, h3, h5 => rw [← Option.some.inj h1, ← Option.some.inj h3, ← Option.some.inj h5]
theorem isP_bool {H : Hp} {v : V} {b : Bool} (h : IsP K H v (.bool b)) : ∃ t, v = .ref t ∧ SqT K H t [.str "boolean", .bl b] := h
theorem isP_arr {H : Hp} {v : V} {xs : List Plain} (h : IsP K H v (.arr xs)) : ∃ t a vs, v = .ref t ∧ SqT K H t [.str "list", .ref a] ∧ SqT K H a vs ∧ IsPs K H vs xs := h
/-- value[0] != 'list', of what is none -/
theorem tag_ne_list {H : Hp} {v : V} {p : Plain} (h : IsP K H v p) (n : ∀ xs, p ≠ .arr xs) : (tagOf p == ("list" : Str)) = false := by
  cases p with
  | undef => exact (by decide +kernel : (("nothing" : Str) == ("list" : Str)) = false)
  | null => exact (by decide +kernel : (("null" : Str) == ("list" : Str)) = false)
  | bool b => exact (by decide +kernel : (("boolean" : Str) == ("list" : Str)) = false)
  | num x => exact (by decide +kernel : (("integer" : Str) == ("list" : Str)) = false)
  | str u => exact (by decide +kernel : (("text" : Str) == ("list" : Str)) = false)
  | arr xs => exact absurd rfl (n xs)
  | obj fs => exact (by decide +kernel : (("record" : Str) == ("list" : Str)) = false)
  | big i => exact h.elim
theorem tag_ne_bool {H : Hp} {v : V} {p : Plain} (h : IsP K H v p) (n : ∀ b, p ≠ .bool b) : (tagOf p == ("boolean" : Str)) = false := by
  cases p with
  | undef => exact (by decide +kernel : (("nothing" : Str) == ("boolean" : Str)) = false)
  | null => exact (by decide +kernel : (("null" : Str) == ("boolean" : Str)) = false)
  | bool b => exact absurd rfl (n b)
  | num x => exact (by decide +kernel : (("integer" : Str) == ("boolean" : Str)) = false)
  | str u => exact (by decide +kernel : (("text" : Str) == ("boolean" : Str)) = false)
  | arr xs => exact (by decide +kernel : (("list" : Str) == ("boolean" : Str)) = false)
  | obj fs => exact (by decide +kernel : (("record" : Str) == ("boolean" : Str)) = false)
  | big i => exact h.elim
def isBool (p : Plain) : Bool := match p with
  | .bool _ => true
  | _ => false
theorem tag_bool {H : Hp} {v : V} {p : Plain} (h : IsP K H v p) : decide (V.str (tagOf p) = V.str "boolean") = isBool p := by
  cases p with
  | bool b => exact streq _
  | undef => exact strne (tag_ne_bool h fun b => by intro z; cases z)
  | null => exact strne (tag_ne_bool h fun b => by intro z; cases z)
  | num x => exact strne (tag_ne_bool h fun b => by intro z; cases z)
  | str u => exact strne (tag_ne_bool h fun b => by intro z; cases z)
  | arr xs => exact strne (tag_ne_bool h fun b => by intro z; cases z)
  | obj fs => exact strne (tag_ne_bool h fun b => by intro z; cases z)
  | big i => exact h.elim
/-! ### is_answer -/
theorem answer_two (n : Nat) (k x : Plain) : (answerIn n (.arr [k, x])).isSome = ((rangeIn 0 (n - 2) k).isSome && isBool x) := by
  unfold answerIn isBool
  cases x <;> simp
theorem answer_not {n : Nat} {p : Plain} (h : ∀ k x, p ≠ .arr [k, x]) : (answerIn n p).isSome = false := by
  unfold answerIn
  split
  · exact absurd rfl (h _ _)
  · rfl
theorem answer_inv {n : Nat} {p : Plain} {y : Nat × Bool} (h : answerIn n p = some y) : ∃ k, p = .arr [k, .bool y.2] ∧ rangeIn 0 (n - 2) k = some y.1 := by
  unfold answerIn at h
  split at h
  · rename_i k b
    cases e : rangeIn 0 (n - 2) k with
    | none =>
      rw [e] at h
      cases h
    | some j =>
      rw [e] at h
      obtain rfl : (j, b) = y := Option.some.inj h
      exact ⟨k, rfl, e⟩
  · cases h
def spIsAns (K : PySem.W.Frag) : Sp := fun vs H Q _ => ∃ (v : V) (n : Nat) (p : Plain), vs = [v, .int n] ∧ 2 ≤ n ∧ IsP K H v p ∧ Q (.bl (answerIn n p).isSome) H
theorem b_is_answer (B : Bt mg) (c_number_in : Cal P w K mg base 1 "number_in" (spNumberIn K)) : Bd P w K mg base N_is_answer "is_answer" s_is_answer 1 (spIsAns K) := by
  rintro f cdv A outer s H vs Q E hr ⟨v, n, p, rfl, hn, h, post⟩
  refine ⟨_, pss_cons (ps_if ((pw_or (pt_cmpR op_ne (pe_ix ix_seq (pv 0) (pe_int) (fun _ _ => rfl)) (pe_str) (nomark _)) (pw_or1 (pt_cmpR op_ne (pe_callB call_len_seq (by rfl) B.len PySem.boot_len (pa_cons (pe_ix ix_seq (pv 0) (pe_int) (fun _ _ => rfl)) pa_nil)) (pe_int) (nomark _)))).pt) (pss_one (ps_ret (pe_bl))) pss_nil)
    (pss_one (ps_ret (pe_and (pe_c c_number_in hr (by omega) (by rfl) (pa_cons (pe_ix ix_seq (pe_ix ix_seq (pv 0) (pe_int) (fun _ _ => rfl)) (pe_int) (fun _ _ => rfl)) (pa_cons (pe_int) (pa_cons (pe_op op_sub (pv 1) (pe_int)) pa_nil)))) (pe_one (pe_cmpR op_eq (pe_ix ix_seq (pe_ix ix_seq (pe_ix ix_seq (pv 0) (pe_int) (fun _ _ => rfl)) (pe_int) (fun _ _ => rfl)) (pe_int) (fun _ _ => rfl)) (pe_str) (nomark _)))))), ?_⟩
  by_cases ha : ∃ xs, p = .arr xs
  · obtain ⟨xs, rfl⟩ := ha
    obtain ⟨t, a, ys, rfl, ht, hy, hs⟩ := h
    refine ⟨_, rfl, .inr (.inl ⟨t, _, 0, _, rfl, rfl, ht, atI_nat (j := 0) rfl, rfl, _, rfl, ifF (ifEqStr _) ?_⟩)⟩
    refine ⟨_, rfl, .inr (.inl ⟨t, _, 1, _, rfl, rfl, ht, atI_nat (j := 1) rfl, a, _, rfl, .inr hy, rfl, _, rfl, ?_⟩)⟩
    have ly := isPs_len hs
    by_cases h2 : xs.length = 2
    · refine ifF (by rw [decide_eq_true (by rw [ly, h2]; rfl)]; rfl) ?_
      match xs, ys, h2, hs with
      | [k, x], [y0, y1], _, ⟨h0, h1, _⟩ =>
        rw [answer_two] at post
        obtain ⟨t1, r1, rfl, ht1⟩ := isP_tag h1
        refine ⟨_, rfl, .inr (.inl ⟨t, _, 1, _, rfl, rfl, ht, atI_nat (j := 1) rfl, .inr (.inl ⟨a, _, 0, _, rfl, rfl, hy, atI_nat (j := 0) rfl, _, rfl, _, _, rfl, rfl, y0, k, 0, ((n - 2 : Nat) : Int), ?_, h0, _, rfl, ?_⟩)⟩)⟩
        · show [y0, V.int 0, V.int ((n : Int) - 2)] = _
          have e : (n : Int) - 2 = ((n - 2 : Nat) : Int) := by omega
          rw [e]
        have e2 : numIn k 0 ((n - 2 : Nat) : Int) = (rangeIn 0 (n - 2) k).isSome := numIn_range h0 0 (n - 2)
        rw [e2]
        refine ifB (fun q => ?_) fun q => ?_
        · refine ⟨_, rfl, .inr (.inl ⟨t, _, 1, _, rfl, rfl, ht, atI_nat (j := 1) rfl, .inr (.inl ⟨a, _, 1, _, rfl, rfl, hy, atI_nat (j := 1) rfl, .inr (.inl ⟨t1, _, 0, _, rfl, rfl, ht1, atI_nat (j := 0) rfl, rfl, ?_⟩)⟩)⟩)⟩
          rw [q] at post
          rw [tag_bool h1]
          exact post
        · rw [q] at post
          exact post
    · refine ifT (by rw [decide_eq_false (fun z => h2 (by injection z with z; omega))]; rfl) ?_
      rw [answer_not (fun k x z => h2 (by injection z with z; rw [z]; rfl))] at post
      exact post
  · obtain ⟨t, r, rfl, ht⟩ := isP_tag h
    refine ⟨_, rfl, .inr (.inl ⟨t, _, 0, _, rfl, rfl, ht, atI_nat (j := 0) rfl, rfl, _, rfl, ifT (ifNeStr (tag_ne_list h fun xs z => ha ⟨xs, z⟩)) ?_⟩)⟩
    rw [answer_not (fun k x z => ha ⟨_, z⟩)] at post
    exact post
/-! ### answers_of -/
theorem allSome_all {α β : Type} (f : α → Option β) : ∀ l : List α, (allSome f l).isSome = l.all fun x => (f x).isSome
  | [] => rfl
  | x :: r => by
    rw [allSome, List.all_cons, ← allSome_all f r]
    cases f x with
    | none => rfl
    | some a => cases allSome f r <;> rfl
theorem allSome_pd {α β : Type} (f : α → Option β) : ∀ {l : List α} {ys : List β}, allSome f l = some ys → Paired (fun x y => f x = some y) l ys
  | [], ys, h => by
    rw [allSome] at h
    cases h
    exact .nil
  | x :: r, ys, h => by
    rw [allSome] at h
    cases e : f x with
    | none =>
      rw [e] at h
      cases h
    | some a =>
      cases e2 : allSome f r with
      | none =>
        rw [e, e2] at h
        cases h
      | some zs =>
        rw [e, e2] at h
        obtain rfl : a :: zs = ys := Option.some.inj h
        exact .cons e (allSome_pd f e2)
def goodA (n : Nat) (p : Plain) : Bool := match p with
  | .arr l => decide (l.length ≤ 30) && l.all fun x => (answerIn n x).isSome
  | _ => false
theorem goodA_no {n : Nat} {p : Plain} (h : goodA n p = false) : answersArg n p = .error noAnswers := by
  unfold answersArg
  split
  · rename_i l
    have h : (decide (l.length ≤ 30) && l.all fun x => (answerIn n x).isSome) = false := h
    rw [← allSome_all] at h
    by_cases hl : l.length ≤ R7286g.Spec.maxAnswers
    · rw [if_pos hl]
      rw [decide_eq_true (p := l.length ≤ 30) hl, Bool.true_and] at h
      cases e : allSome (answerIn n) l with
      | none => rfl
      | some ys =>
        rw [e] at h
        cases h
    · rw [if_neg hl]
  · rfl
theorem goodA_yes {n : Nat} {p : Plain} (h : goodA n p = true) : ∃ l as, p = .arr l ∧ l.length ≤ 30 ∧ Paired (fun x y => answerIn n x = some y) l as ∧ answersArg n p = .ok as := by
  cases p with
  | arr l =>
    have h : (decide (l.length ≤ 30) && l.all fun x => (answerIn n x).isSome) = true := h
    rw [← allSome_all, Bool.and_eq_true, decide_eq_true_iff] at h
    obtain ⟨as, e⟩ := Option.isSome_iff_exists.mp h.2
    refine ⟨l, as, rfl, h.1, allSome_pd _ e, ?_⟩
    show (match if l.length ≤ R7286g.Spec.maxAnswers then allSome (answerIn n) l else none with | some as => Except.ok as | none => .error noAnswers) = _
    have h30 : l.length ≤ R7286g.Spec.maxAnswers := h.1
    rw [if_pos h30, e]
  | _ => cases h
def spAnsOf (K : PySem.W.Frag) (CR : Addr) : Sp := fun vs H Q E => ∃ (v : V) (n : Nat) (p : Plain), vs = [v, .int n] ∧ 2 ≤ n ∧ IsP K H v p ∧
  (∀ as, answersArg n p = .ok as → as.length ≤ 30 → ∀ H' a, Kp H H' → H a = none → AnsAt H' a as → Q (.ref a) H') ∧ (∀ e, answersArg n p = .error e → Out CR E (fun _ => False) (fun _ => True) H e)
theorem b_answers_of (B : Bt mg) {aN aU aA : Addr} (T : Ct K mg aN aU aA) (c_is_answer : Cal P w K mg base 2 "is_answer" (spIsAns K)) (c_need_kind : CalX P w K mg base 3 "need_kind" (spNeed CR 1)) : BdX P w K mg base N_answers_of "answers_of" s_answers_of 3 (spAnsOf K CR) := by
  rintro f cdv A outer s H vs Q E hr ⟨v, n, p, rfl, hn, h, good, bad⟩
  refine ⟨_, C8.pss_cut (ps_set (i := 2) sc_answers_of.nd rfl (Or.inl rfl) (pe_and (pe_cmpR op_eq (pe_ix ix_seq (pv 0) (pe_int) (fun _ _ => rfl)) (pe_str) (nomark _)) (pe_and (pe_cmpR op_le (pe_callB call_len_seq (by rfl) B.len PySem.boot_len (pa_cons (pe_ix ix_seq (pv 0) (pe_int) (fun _ _ => rfl)) pa_nil)) (pe_int) (nomark _)) (pe_one (pe_callB (cr_all rfl) (by rfl) B.all PyProof.Rows.boot_all (pa_cons (pe_lc (own := [("one", 3)]) (g := (gName 3)) (te := (tCl _ E0 (tCons (tVar 3) (tCons (tVar 1) tNil)))) rfl sc_answers_of.nd (pi_tup (pe_ix ix_seq (pv 0) (pe_int) (fun _ _ => rfl))) (blkOk_by (N := N_answers_of) (sc := defScope s_answers_of) (by decide +kernel)) (fun _ _ _ _ _ => by exact pg_name (i := 3) sc_answers_of.nd rfl (Or.inl rfl)) (fun _ _ _ _ _ => pts_nil) (fun _ _ _ _ _ => by exact pe_c c_is_answer hr (by omega) (by rfl) (pa_cons (pv 3) (pa_cons (pv 1) pa_nil)))) pa_nil))))))
    (pss_cons (ps_expr (pe_cX (E := E) c_need_kind hr (by omega) (by rfl) (L2N.takes_of rfl rfl rfl rfl) (fun _ _ _ _ h => h) (pa_cons (pv 2) (pa_cons (pe_str) pa_nil))))
    (pss_one (ps_ret (pe_lc (own := [("one", 3)]) (g := (gName 3)) (te := (tTup (tCons (tOp (rIx K) (tOp (rIx K) (tOp (rIx K) (tVar 3) (tC (.int 1))) (tC (.int 0))) (tC (.int 1))) (tCons (tOp (rIx K) (tOp (rIx K) (tOp (rIx K) (tVar 3) (tC (.int 1))) (tC (.int 1))) (tC (.int 1))) tNil)))) rfl sc_answers_of.nd (pi_tup (pe_ix ix_seq (pv 0) (pe_int) (fun _ _ => rfl))) (blkOk_by (N := N_answers_of) (sc := defScope s_answers_of) (by decide +kernel)) (fun _ _ _ _ _ => by exact pg_name (i := 3) sc_answers_of.nd rfl (Or.inl rfl)) (fun _ _ _ _ _ => pts_nil) (fun _ _ _ _ _ => by exact pe_tup (pa_cons (pe_ix ix_seq (pe_ix ix_seq (pe_ix ix_seq (pv 3) (pe_int) (fun _ _ => rfl)) (pe_int) (fun _ _ => rfl)) (pe_int) (fun _ _ => rfl)) (pa_cons (pe_ix ix_seq (pe_ix ix_seq (pe_ix ix_seq (pv 3) (pe_int) (fun _ _ => rfl)) (pe_int) (fun _ _ => rfl)) (pe_int) (fun _ _ => rfl)) pa_nil))))))), ?_⟩
  -- good
  refine ⟨fun σ' H' => σ' = [some v, some (.int n), some (.bl (goodA n p)), none] ∧ Kp H H', ?_, ?_⟩
  · obtain ⟨t, r, rfl, ht⟩ := isP_tag h
    refine ⟨_, rfl, .inr (.inl ⟨t, _, 0, _, rfl, rfl, ht, atI_nat (j := 0) rfl, rfl, _, rfl, ?_⟩)⟩
    by_cases ha : ∃ xs, p = .arr xs
    · obtain ⟨xs, rfl⟩ := ha
      obtain ⟨t', a, ys, e, hs, hy, hp⟩ := h
      cases e
      have eg : goodA n (.arr xs) = (decide (xs.length ≤ 30) && xs.all fun x => (answerIn n x).isSome) := rfl
      have ly := isPs_len hp
      refine ifT (streq _) ⟨_, rfl, .inr (.inl ⟨t, _, 1, _, rfl, rfl, hs, atI_nat (j := 1) rfl, a, _, rfl, .inr hy, _, _, rfl, rfl, _, rfl, ifB (fun q => ?_) fun q => ?_⟩)⟩
      · have q : (ys.length : Int) ≤ 30 := of_decide_eq_true q
        rw [decide_eq_true (by omega : xs.length ≤ 30), Bool.true_and] at eg
        refine ⟨_, rfl, .inr (.inl ⟨t, _, 1, _, rfl, rfl, hs, atI_nat (j := 1) rfl, a, rfl, ⟨_, hy⟩, fun D hD => ?_⟩)⟩
        refine lcA (F := fun _ => False) (cs := xs) (by rw [← ly]; exact walk_tup hy) (fun x => (answerIn n x).isSome) (fun _ => True) (fun _ y b => y = V.bl b) (fun f => f) hD (lenL (by omega)) trivial (fun _ _ _ h => h) (fun _ _ _ _ _ r => r) (fun i c x H1 Qy hc it k _ go => ?_) fun H1 zs k _ e pz => ?_
        · obtain ⟨c2, hc2, hx⟩ := isPs_get hp it
          obtain rfl : c = c2 := by
            rw [hc] at hc2
            exact Option.some.inj hc2
          exact ⟨rfl, _, rfl, _, rfl, x, n, c, rfl, hn, IsP.mono k _ _ hx, go _ _ .refl trivial rfl⟩
        · refine ⟨D, xs.map fun x => (answerIn n x).isSome, rfl, .of (by rw [e, pd_eq pz]), ?_, k⟩
          rw [eg, List.all_map]
          rfl
      · have q : ¬ (ys.length : Int) ≤ 30 := of_decide_eq_false q
        rw [decide_eq_false (by omega : ¬ xs.length ≤ 30), Bool.false_and] at eg
        refine ⟨?_, .refl⟩
        rw [eg]
        rfl
    · refine ifF (strne (tag_ne_list h fun xs z => ha ⟨xs, z⟩)) ⟨?_, .refl⟩
      have eg : goodA n p = false := by
        cases p with
        | arr xs => exact absurd ⟨xs, rfl⟩ ha
        | _ => rfl
      rw [eg]
      rfl
  rintro σ' H1 ⟨rfl, k1⟩
  refine ⟨_, rfl, goodA n p, _, rfl, fun q => ?_, fun q d H' k hx => bad _ (goodA_no q) d H' _ (k1.trans k) trivial hx msg_answers⟩
  obtain ⟨xs, as, rfl, hl, pd, ea⟩ := goodA_yes q
  obtain ⟨t, a, ys, rfl, hs, hy, hp⟩ := IsP.mono k1 _ _ h
  have ly := isPs_len hp
  refine ⟨_, rfl, .inr (.inl ⟨t, _, 1, _, rfl, rfl, hs, atI_nat (j := 1) rfl, a, rfl, ⟨_, hy⟩, fun D hD => ?_⟩)⟩
  refine lcA (F := fun _ => False) (cs := as) (by rw [← pd.length, ← ly]; exact walk_tup hy) (fun x => x) (fun _ => True) AnsOne (fun f => f) hD (by rw [← pd.length]; exact lenL (by omega)) trivial (fun _ _ _ h => h) (fun _ _ _ _ k r => r.mono k) (fun i c x H2 Qy hc it k _ go => ?_) fun H2 zs k _ e pz => ?_
  · obtain ⟨px, hpx, hx⟩ := isPs_get hp it
    obtain ⟨c2, hc2, hc3⟩ := pd_get pd hpx
    obtain rfl : c = c2 := by
      rw [hc] at hc2
      exact Option.some.inj hc2
    obtain ⟨kp, rfl, er⟩ := answer_inv hc3
    have hx := IsP.mono k _ _ hx
    obtain ⟨t1, a1, ys1, rfl, hs1, hy1, hp1⟩ := hx
    obtain ⟨y0, y1, rfl, h0, h1⟩ := isPs_two hp1
    have ek := (range_some er).1 _ _ _ h0
    rw [ek] at h0
    obtain ⟨t2, rfl, hs2⟩ := isP_int h0
    obtain ⟨t3, rfl, hs3⟩ := isP_bool h1
    refine ⟨rfl, ?_⟩
    refine ⟨_, rfl, .inr (.inl ⟨t1, _, 1, _, rfl, rfl, hs1, atI_nat (j := 1) rfl, .inr (.inl ⟨a1, _, 0, _, rfl, rfl, hy1, atI_nat (j := 0) rfl, .inr (.inl ⟨t2, _, 1, _, rfl, rfl, hs2, atI_nat (j := 1) rfl, ?_⟩)⟩)⟩)⟩
    refine ⟨_, rfl, .inr (.inl ⟨t1, _, 1, _, rfl, rfl, hs1, atI_nat (j := 1) rfl, .inr (.inl ⟨a1, _, 1, _, rfl, rfl, hy1, atI_nat (j := 1) rfl, .inr (.inl ⟨t3, _, 1, _, rfl, rfl, hs3, atI_nat (j := 1) rfl, ?_⟩)⟩)⟩)⟩
    exact ⟨two_le, fun q hq => go _ _ (Keep.new hq) trivial ⟨q, rfl, upd_same⟩⟩
  · rw [List.map_id'] at pz
    exact good as ea (by rw [← pd.length]; exact hl) H2 D (k1.trans k) (Kp.free k1 hD) ⟨zs, e, pz⟩
end
end Fs

/-! is_plan, plan_of, plan_value, number_value. -/
namespace Fs
open PySem PySem.Spec PyProof.Rows L2 L2H
open R7286g.Spec (Plain Units rangeIn planIn Plan planOf nat)
section
variable {P : Program} {w : World} {K : PySem.W.Frag} {mg : Str → Option Value} {base : Heap}
theorem planIn_num (d n : Nat) (x : Option Int) : planIn d n (.num x) = (rangeIn 0 (n - 1) (.num x)).map Plan.tell := by
  cases d <;> (rw [planIn]; cases rangeIn 0 (n - 1) (.num x) <;> rfl)
theorem planIn_zero (n : Nat) (l : List Plain) : planIn 0 n (.arr l) = none := by simp [planIn]
theorem planIn_three (d n : Nat) (k x y : Plain) : planIn (d + 1) n (.arr [k, x, y]) = (match rangeIn 0 (n - 2) k, planIn d n x, planIn d n y with
    | some k, some p, some q => some (.test k p q)
    | _, _, _ => none) := by rw [planIn]; rfl
theorem planIn_len (d n : Nat) {l : List Plain} (h : l.length ≠ 3) : planIn d n (.arr l) = none := by
  match d, l, h with
  | 0, l, _ => exact planIn_zero n l
  | d + 1, [], _ => simp [planIn]
  | d + 1, [_], _ => simp [planIn]
  | d + 1, [_, _], _ => simp [planIn]
  | d + 1, _ :: _ :: _ :: _ :: _, _ => simp [planIn]
theorem planIn_other (d n : Nat) {p : Plain} (h1 : ∀ xs, p ≠ .arr xs) (h2 : ∀ x, p ≠ .num x) : planIn d n p = none := by
  cases p with
  | arr xs => exact absurd rfl (h1 xs)
  | num x => exact absurd rfl (h2 x)
  | _ => cases d <;> simp [planIn]
def spIsPlan (K : PySem.W.Frag) (m : Nat) : Sp := fun vs H Q _ => ∃ (v : V) (n d : Nat) (p : Plain), vs = [v, .int n, .int d] ∧ d < m ∧ 2 ≤ n ∧ IsP K H v p ∧ Q (.bl (planIn d n p).isSome) H
theorem b_is_plan (B : Bt mg) (m : Nat) (c_number_in : Cal P w K mg base 1 "number_in" (spNumberIn K)) (c_is_plan : Cal P w K mg base (m + 2) "is_plan" (spIsPlan K m)) : Bd P w K mg base N_is_plan "is_plan" s_is_plan (m + 2) (spIsPlan K (m + 1)) := by
  rintro f cdv A outer s H vs Q E hr ⟨v, n, d, p, rfl, hd, hn, h, post⟩
  refine ⟨_, pss_cons (ps_if (pt_cmpR op_ne (pe_ix ix_seq (pv 0) (pe_int) (fun _ _ => rfl)) (pe_str) (nomark _)) (pss_one (ps_ret (pe_c c_number_in hr (by omega) (by rfl) (pa_cons (pv 0) (pa_cons (pe_int) (pa_cons (pe_op op_sub (pv 1) (pe_int)) pa_nil)))))) pss_nil)
    (pss_cons (ps_if ((pw_or (pt_cmpR op_eq (pv 2) (pe_int) (nomark _)) (pw_or (pt_cmpR op_ne (pe_callB call_len_seq (by rfl) B.len PySem.boot_len (pa_cons (pe_ix ix_seq (pv 0) (pe_int) (fun _ _ => rfl)) pa_nil)) (pe_int) (nomark _)) (pw_or1 (pt_not (pt_truth (pe_c c_number_in hr (by omega) (by rfl) (pa_cons (pe_ix ix_seq (pe_ix ix_seq (pv 0) (pe_int) (fun _ _ => rfl)) (pe_int) (fun _ _ => rfl)) (pa_cons (pe_int) (pa_cons (pe_op op_sub (pv 1) (pe_int)) pa_nil)))) (fun _ => rfl)))))).pt) (pss_one (ps_ret (pe_bl))) pss_nil)
    (pss_one (ps_ret (pe_and (pe_c c_is_plan hr (by omega) (by rfl) (pa_cons (pe_ix ix_seq (pe_ix ix_seq (pv 0) (pe_int) (fun _ _ => rfl)) (pe_int) (fun _ _ => rfl)) (pa_cons (pv 1) (pa_cons (pe_op op_sub (pv 2) (pe_int)) pa_nil)))) (pe_one (pe_c c_is_plan hr (by omega) (by rfl) (pa_cons (pe_ix ix_seq (pe_ix ix_seq (pv 0) (pe_int) (fun _ _ => rfl)) (pe_int) (fun _ _ => rfl)) (pa_cons (pv 1) (pa_cons (pe_op op_sub (pv 2) (pe_int)) pa_nil))))))))), ?_⟩
  by_cases ha : ∃ xs, p = .arr xs
  · obtain ⟨xs, rfl⟩ := ha
    obtain ⟨t, a, ys, rfl, ht, hy, hs⟩ := isP_arr h
    have ly := isPs_len hs
    refine ⟨_, rfl, .inr (.inl ⟨t, _, 0, _, rfl, rfl, ht, atI_nat (j := 0) rfl, rfl, _, rfl, ifF (ifEqStr _) ?_⟩)⟩
    refine ⟨_, rfl, rfl, _, rfl, ifB (fun q => ?_) fun q => ?_⟩
    · have q : V.int (d : Int) = V.int 0 := of_decide_eq_true q
      injection q with q
      obtain rfl : d = 0 := by omega
      rw [planIn_zero] at post
      exact ifT rfl post
    have q : ¬ V.int (d : Int) = V.int 0 := of_decide_eq_false q
    obtain ⟨d, rfl⟩ : ∃ e, d = e + 1 := ⟨d - 1, by have : d ≠ 0 := fun z => q (by rw [z]; rfl); omega⟩
    refine ⟨_, rfl, .inr (.inl ⟨t, _, 1, _, rfl, rfl, ht, atI_nat (j := 1) rfl, a, _, rfl, .inr hy, rfl, _, rfl, ?_⟩)⟩
    by_cases h3 : xs.length = 3
    · refine ifF (by rw [decide_eq_true (by rw [ly, h3]; rfl)]; rfl) ?_
      obtain ⟨k, x, y, rfl⟩ : ∃ k x y, xs = [k, x, y] := by
        match xs, h3 with
        | [k, x, y], _ => exact ⟨k, x, y, rfl⟩
      obtain ⟨y0, y1, y2, rfl, h0, h1, h2⟩ := isPs_three hs
      have e : (n : Int) - 2 = ((n - 2 : Nat) : Int) := by omega
      have e2 : numIn k 0 ((n - 2 : Nat) : Int) = (rangeIn 0 (n - 2) k).isSome := numIn_range h0 0 (n - 2)
      rw [planIn_three] at post
      refine ⟨_, rfl, .inr (.inl ⟨t, _, 1, _, rfl, rfl, ht, atI_nat (j := 1) rfl, .inr (.inl ⟨a, _, 0, _, rfl, rfl, hy, atI_nat (j := 0) rfl, _, rfl, _, _, rfl, rfl, y0, k, 0, ((n - 2 : Nat) : Int), ?_, h0, (rangeIn 0 (n - 2) k).isSome, e2.symm, ?_⟩)⟩)⟩
      · show [y0, V.int 0, V.int ((n : Int) - 2)] = _
        rw [e]
      cases er : rangeIn 0 (n - 2) k with
      | none =>
        rw [er] at post
        exact ifT rfl post
      | some j =>
        rw [er] at post
        have sub : (((d + 1 : Nat) : Int) - 1) = d := by omega
        refine ifF rfl ⟨_, rfl, .inr (.inl ⟨t, _, 1, _, rfl, rfl, ht, atI_nat (j := 1) rfl, .inr (.inl ⟨a, _, 1, _, rfl, rfl, hy, atI_nat (j := 1) rfl, _, rfl, _, rfl, _, _, rfl, rfl, y1, n, d, x, ?_, by omega, hn, h1, _, rfl, ?_⟩)⟩)⟩
        · show [y1, V.int n, V.int (((d + 1 : Nat) : Int) - 1)] = _
          rw [sub]
        cases e1 : planIn d n x with
        | none =>
          rw [e1] at post
          exact ifF rfl post
        | some p1 =>
          rw [e1] at post
          refine ifT rfl ⟨_, rfl, .inr (.inl ⟨t, _, 1, _, rfl, rfl, ht, atI_nat (j := 1) rfl, .inr (.inl ⟨a, _, 2, _, rfl, rfl, hy, atI_nat (j := 2) rfl, _, rfl, _, rfl, _, _, rfl, rfl, y2, n, d, y, ?_, by omega, hn, h2, ?_⟩)⟩)⟩
          · show [y2, V.int n, V.int (((d + 1 : Nat) : Int) - 1)] = _
            rw [sub]
          cases e3 : planIn d n y with
          | none =>
            rw [e3] at post
            exact post
          | some p2 =>
            rw [e3] at post
            exact post
    · refine ifT (by rw [decide_eq_false (fun z => h3 (by injection z with z; omega))]; rfl) ?_
      rw [planIn_len _ _ h3] at post
      exact post
  · obtain ⟨t, r, rfl, ht⟩ := isP_tag h
    refine ⟨_, rfl, .inr (.inl ⟨t, _, 0, _, rfl, rfl, ht, atI_nat (j := 0) rfl, rfl, _, rfl, ifT (ifNeStr (tag_ne_list h fun xs z => ha ⟨xs, z⟩)) ?_⟩)⟩
    refine ⟨_, rfl, _, rfl, _, _, rfl, rfl, .ref t, p, 0, ((n - 1 : Nat) : Int), ?_, h, ?_⟩
    · show [V.ref t, V.int 0, V.int ((n : Int) - 1)] = _
      have e : (n : Int) - 1 = ((n - 1 : Nat) : Int) := by omega
      rw [e]
    have e2 : numIn p 0 ((n - 1 : Nat) : Int) = (rangeIn 0 (n - 1) p).isSome := numIn_range h 0 (n - 1)
    have e3 : (planIn d n p).isSome = (rangeIn 0 (n - 1) p).isSome := by
      by_cases hx : ∃ x, p = .num x
      · obtain ⟨x, rfl⟩ := hx
        rw [planIn_num]
        cases rangeIn 0 (n - 1) (.num x) <;> rfl
      · rw [planIn_other d n (fun xs z => ha ⟨xs, z⟩) (fun x z => hx ⟨x, z⟩)]
        cases p with
        | num x => exact absurd ⟨x, rfl⟩ hx
        | _ => rfl
    rw [e2, ← e3]
    exact post
theorem ok_is_plan (B : Bt mg) (c_number_in : Cal P w K mg base 1 "number_in" (spNumberIn K)) (D : Df K mg "is_plan" s_is_plan ["value", "versions", "depth"]) : ∀ m, Cal P w K mg base (m + 2) "is_plan" (spIsPlan K m)
  | 0 => D.cal sc_is_plan (fun vs H Q E h => by obtain ⟨v, n, d, p, rfl, _⟩ := h; rfl) (by
      rintro f cdv A outer s H vs Q E hr ⟨v, n, d, p, rfl, hd, _⟩
      exact absurd hd (by omega))
  | m + 1 => D.cal sc_is_plan (fun vs H Q E h => by obtain ⟨v, n, d, p, rfl, _⟩ := h; rfl) (b_is_plan B m c_number_in (ok_is_plan B c_number_in D m))
/-! ### plan_of -/
def spPlanOf (K : PySem.W.Frag) (m : Nat) : Sp := fun vs H Q _ => ∃ (v : V) (n d : Nat) (p : Plain) (pl : Plan), vs = [v] ∧ d < m ∧ IsP K H v p ∧ planIn d n p = some pl ∧ ∀ H' u, Kp H H' → PlanAt H' u pl → Q u H'
theorem planIn_inv {d n : Nat} {p : Plain} {pl : Plan} {K : PySem.W.Frag} {H : Hp} {v : V} (hp : IsP K H v p) (h : planIn d n p = some pl) : (∃ j : Nat, p = .num (some (j : Int)) ∧ pl = .tell j) ∨ ∃ e k x y j p1 p2, d = e + 1 ∧ p = .arr [k, x, y] ∧ rangeIn 0 (n - 2) k = some j ∧ planIn e n x = some p1 ∧ planIn e n y = some p2 ∧ pl = .test j p1 p2 := by
  by_cases ha : ∃ xs, p = .arr xs
  · obtain ⟨xs, rfl⟩ := ha
    refine .inr ?_
    by_cases h3 : xs.length = 3
    · obtain ⟨k, x, y, rfl⟩ : ∃ k x y, xs = [k, x, y] := by
        match xs, h3 with
        | [k, x, y], _ => exact ⟨k, x, y, rfl⟩
      cases d with
      | zero =>
        rw [planIn_zero] at h
        cases h
      | succ e =>
        rw [planIn_three] at h
        cases e1 : rangeIn 0 (n - 2) k with
        | none => rw [e1] at h; cases h
        | some j =>
          cases e2 : planIn e n x with
          | none => rw [e1, e2] at h; cases h
          | some p1 =>
            cases e3 : planIn e n y with
            | none => rw [e1, e2, e3] at h; cases h
            | some p2 =>
              rw [e1, e2, e3] at h
              exact ⟨e, k, x, y, j, p1, p2, rfl, rfl, e1, e2, e3, (Option.some.inj h).symm⟩
    · rw [planIn_len _ _ h3] at h
      cases h
  · by_cases hx : ∃ x, p = .num x
    · obtain ⟨x, rfl⟩ := hx
      rw [planIn_num] at h
      cases e : rangeIn 0 (n - 1) (.num x) with
      | none => rw [e] at h; cases h
      | some j =>
        rw [e] at h
        exact .inl ⟨j, (range_some e).1 _ _ _ hp, (Option.some.inj h).symm⟩
    · rw [planIn_other d n (fun xs z => ha ⟨xs, z⟩) (fun x z => hx ⟨x, z⟩)] at h
      cases h
theorem b_plan_of (m : Nat) (c_plan_of : Cal P w K mg base (m + 1) "plan_of" (spPlanOf K m)) : Bd P w K mg base N_plan_of "plan_of" s_plan_of (m + 1) (spPlanOf K (m + 1)) := by
  rintro f cdv A outer s H vs Q E hr ⟨v, n, d, p, pl, rfl, hd, h, hpl, post⟩
  refine ⟨_, pss_cons (ps_if (pt_cmpR op_eq (pe_ix ix_seq (pv 0) (pe_int) (fun _ _ => rfl)) (pe_str) (nomark _)) (pss_one (ps_ret (pe_ix ix_seq (pv 0) (pe_int) (fun _ _ => rfl)))) pss_nil)
    (pss_one (ps_ret (pe_tup (pa_cons (pe_ix ix_seq (pe_ix ix_seq (pe_ix ix_seq (pv 0) (pe_int) (fun _ _ => rfl)) (pe_int) (fun _ _ => rfl)) (pe_int) (fun _ _ => rfl)) (pa_cons (pe_c c_plan_of hr (by omega) (by rfl) (pa_cons (pe_ix ix_seq (pe_ix ix_seq (pv 0) (pe_int) (fun _ _ => rfl)) (pe_int) (fun _ _ => rfl)) pa_nil)) (pa_cons (pe_c c_plan_of hr (by omega) (by rfl) (pa_cons (pe_ix ix_seq (pe_ix ix_seq (pv 0) (pe_int) (fun _ _ => rfl)) (pe_int) (fun _ _ => rfl)) pa_nil)) pa_nil)))))), ?_⟩
  rcases planIn_inv h hpl with ⟨j, rfl, rfl⟩ | ⟨e, k, x, y, j, p1, p2, rfl, rfl, e1, e2, e3, rfl⟩
  · obtain ⟨t, rfl, ht⟩ := isP_int h
    exact ⟨_, rfl, .inr (.inl ⟨t, _, 0, _, rfl, rfl, ht, atI_nat (j := 0) rfl, rfl, _, rfl, ifT (streq _) ⟨_, rfl, .inr (.inl ⟨t, _, 1, _, rfl, rfl, ht, atI_nat (j := 1) rfl, post _ _ .refl rfl⟩)⟩⟩)⟩
  · obtain ⟨t, a, ys, rfl, ht, hy, hs⟩ := isP_arr h
    obtain ⟨y0, y1, y2, rfl, h0, h1, h2⟩ := isPs_three hs
    have ek := (range_some e1).1 _ _ _ h0
    rw [ek] at h0
    obtain ⟨t0, rfl, s0⟩ := isP_int h0
    refine ⟨_, rfl, .inr (.inl ⟨t, _, 0, _, rfl, rfl, ht, atI_nat (j := 0) rfl, rfl, _, rfl, ifF (strne (a := "list") (by decide +kernel)) ?_⟩)⟩
    refine ⟨_, rfl, .inr (.inl ⟨t, _, 1, _, rfl, rfl, ht, atI_nat (j := 1) rfl, .inr (.inl ⟨a, _, 0, _, rfl, rfl, hy, atI_nat (j := 0) rfl, .inr (.inl ⟨t0, _, 1, _, rfl, rfl, s0, atI_nat (j := 1) rfl, ?_⟩)⟩)⟩)⟩
    refine ⟨_, rfl, .inr (.inl ⟨t, _, 1, _, rfl, rfl, ht, atI_nat (j := 1) rfl, .inr (.inl ⟨a, _, 1, _, rfl, rfl, hy, atI_nat (j := 1) rfl, y1, n, e, x, p1, rfl, by omega, h1, e2, fun H1 u1 k1 q1 => ?_⟩)⟩)⟩
    refine ⟨_, rfl, .inr (.inl ⟨t, _, 1, _, rfl, rfl, k1.sqT ht, atI_nat (j := 1) rfl, .inr (.inl ⟨a, _, 2, _, rfl, rfl, k1.sqT hy, atI_nat (j := 2) rfl, y2, n, e, y, p2, rfl, by omega, IsP.mono k1 _ _ h2, e3, fun H2 u2 k2 q2 => ⟨three_le, fun q hq => ?_⟩⟩)⟩)⟩
    have kq : Kp H2 (upd H2 q (.tup [.int j, u1, u2])) := Keep.new hq
    exact post _ _ ((k1.trans k2).trans kq) ⟨q, u1, u2, rfl, upd_same, (q1.mono k2).mono kq, q2.mono kq⟩
theorem ok_plan_of (D : Df K mg "plan_of" s_plan_of ["value"]) : ∀ m, Cal P w K mg base (m + 1) "plan_of" (spPlanOf K m)
  | 0 => D.cal sc_plan_of (fun vs H Q E h => by obtain ⟨v, n, d, p, pl, rfl, _⟩ := h; rfl) (by
      rintro f cdv A outer s H vs Q E hr ⟨v, n, d, p, pl, rfl, hd, _⟩
      exact absurd hd (by omega))
  | m + 1 => D.cal sc_plan_of (fun vs H Q E h => by obtain ⟨v, n, d, p, pl, rfl, _⟩ := h; rfl) (b_plan_of m (ok_plan_of D m))
/-! ### plan_value -/
def spPlanValue (K : PySem.W.Frag) (m : Nat) : Sp := fun vs H Q _ => ∃ (v : V) (pl : Plan), vs = [v] ∧ pl.depth < m ∧ PlanAt H v pl ∧ ∀ H' u, Kp H H' → IsP K H' u (planOf pl) → Q u H'
theorem b_plan_value (B : Bt mg) (m : Nat) (c_integer : Cal P w K mg base 1 "integer" (spInteger K)) (c_row : Cal P w K mg base 1 "row" (spRow K)) (c_plan_value : Cal P w K mg base (m + 2) "plan_value" (spPlanValue K m)) : Bd P w K mg base N_plan_value "plan_value" s_plan_value (m + 2) (spPlanValue K (m + 1)) := by
  rintro f cdv A outer s H vs Q E hr ⟨v, pl, rfl, hd, hp, post⟩
  refine ⟨_, pss_cons (ps_if (pt_not (pt_truth (pe_callB call_isi (by rfl) B.isinstance PyProof.Rows.boot_isinstance (pa_cons (pv 0) (pa_cons (pe_bltn (v := .ty "tuple") (by rfl) B.tuple PyProof.Rows.boot_tuple rfl) pa_nil))) (fun _ => rfl))) (pss_one (ps_ret (pe_c c_integer hr (by omega) (by rfl) (pa_cons (pv 0) pa_nil)))) pss_nil)
    (pss_one (ps_ret (pe_c c_row hr (by omega) (by rfl) (pa_cons (pe_lst (pa_cons (pe_c c_integer hr (by omega) (by rfl) (pa_cons (pe_ix ix_seq (pv 0) (pe_int) (fun _ _ => rfl)) pa_nil)) (pa_cons (pe_c c_plan_value hr (by omega) (by rfl) (pa_cons (pe_ix ix_seq (pv 0) (pe_int) (fun _ _ => rfl)) pa_nil)) (pa_cons (pe_c c_plan_value hr (by omega) (by rfl) (pa_cons (pe_ix ix_seq (pv 0) (pe_int) (fun _ _ => rfl)) pa_nil)) pa_nil)))) pa_nil)))), ?_⟩
  cases pl with
  | tell j =>
    obtain rfl : v = .int j := hp
    refine ⟨_, rfl, _, _, _, _, _, rfl, .ty _, .base (.int _), kit_ty (a := "int") (b := "tuple") (r := false) (by decide +kernel), _, rfl, ?_⟩
    exact ifT rfl ⟨_, rfl, (j : Int), rfl, fun H' u k h => post _ _ k h⟩
  | test j x y =>
    obtain ⟨t, vx, vy, rfl, et, hx, hy⟩ := hp
    have hdx : x.depth < m := by have : max x.depth y.depth + 1 < m + 1 := hd; omega
    have hdy : y.depth < m := by have : max x.depth y.depth + 1 < m + 1 := hd; omega
    refine ⟨_, rfl, _, _, _, _, _, rfl, .ty _, .base (.tup et), kit_ty (a := "tuple") (b := "tuple") (r := true) (by decide +kernel), _, rfl, ?_⟩
    refine ifF rfl ⟨_, rfl, .inr (.inl ⟨t, _, 0, _, rfl, rfl, .of et, atI_nat (j := 0) rfl, (j : Int), rfl, fun H1 u1 k1 q1 => ?_⟩)⟩
    refine ⟨_, rfl, .inr (.inl ⟨t, _, 1, _, rfl, rfl, .of (kat k1 et), atI_nat (j := 1) rfl, vx, x, rfl, hdx, hx.mono k1, fun H2 u2 k2 q2 => ?_⟩)⟩
    have k12 : Kp H H2 := k1.trans k2
    refine ⟨_, rfl, .inr (.inl ⟨t, _, 2, _, rfl, rfl, .of (kat k12 et), atI_nat (j := 2) rfl, vy, y, rfl, hdy, hy.mono k12, fun H3 u3 k3 q3 => ⟨three_le, fun q hq => ?_⟩⟩)⟩
    have kq : Kp H3 (upd H3 q (.lst [u1, u2, u3])) := Keep.new hq
    refine ⟨q, _, [.num (some (j : Int)), planOf x, planOf y], rfl, upd_same, ⟨IsP.mono ((k2.trans k3).trans kq) _ _ q1, IsP.mono (k3.trans kq) _ _ q2, IsP.mono kq _ _ q3, trivial⟩, fun H4 v4 k4 q4 => post _ _ ((k12.trans k3).trans (kq.trans k4)) q4⟩
theorem ok_plan_value (B : Bt mg) (c_integer : Cal P w K mg base 1 "integer" (spInteger K)) (c_row : Cal P w K mg base 1 "row" (spRow K)) (D : Df K mg "plan_value" s_plan_value ["plan"]) : ∀ m, Cal P w K mg base (m + 2) "plan_value" (spPlanValue K m)
  | 0 => D.cal sc_plan_value (fun vs H Q E h => by obtain ⟨v, pl, rfl, _⟩ := h; rfl) (by
      rintro f cdv A outer s H vs Q E hr ⟨v, pl, rfl, hd, _⟩
      exact absurd hd (by omega))
  | m + 1 => D.cal sc_plan_value (fun vs H Q E h => by obtain ⟨v, pl, rfl, _⟩ := h; rfl) (b_plan_value B m c_integer c_row (ok_plan_value B c_integer c_row D m))
/-! ### number_value -/
def optP (o : Option Nat) : Plain := match o with
  | some k => nat k
  | none => .null
def spNumberValue (K : PySem.W.Frag) : Sp := fun vs H Q _ => ∃ o : Option Nat, vs = [optV o] ∧ ∀ H' u, Kp H H' → IsP K H' u (optP o) → Q u H'
theorem b_number_value {aN aU aA : Addr} (T : Ct K mg aN aU aA) (c_integer : Cal P w K mg base 1 "integer" (spInteger K)) : Bd P w K mg base N_number_value "number_value" s_number_value 1 (spNumberValue K) := by
  rintro f cdv A outer s H vs Q E hr ⟨o, rfl, post⟩
  refine ⟨_, pss_one (ps_ret (pe_ifExp (pt_cmpR op_isN (pv 0) (pe_non) (nomark _)) (C8.pe_gc (by rfl) T.k_NULL) (pe_c c_integer hr (by omega) (by rfl) (pa_cons (pv 0) pa_nil)))), ?_⟩
  cases o with
  | none => exact ⟨_, rfl, rfl, _, rfl, ifT rfl (post _ _ .refl ⟨aU, rfl, T.t_NULL _⟩)⟩
  | some k => exact ⟨_, rfl, rfl, _, rfl, ifF (decide_eq_false (by intro z; cases z)) ⟨_, rfl, (k : Int), rfl, fun H' u kk h => post _ _ kk h⟩⟩
end
end Fs

/-! The defs of Search. -/
namespace Fs
open PySem PySem.Spec PyProof.Rows L2 L2H
open R7286g.Spec (Plain Units Candidate startOf afterAnswer bestTest testsOf sumOf fewest Search outcomePlain proceed resultOf badReply toldOf Reply nat wrongOnes)
structure SrC (K : PySem.W.Frag) (C : Addr) : Prop where
  cl : Cls K C
  nP : NoAttr K C "planner"
  nL : NoAttr K C "left"
  nA : NoAttr K C "answers_there"
  nO : NoAttr K C "outcome"
abbrev srF (Pl L A : Addr) (ov : V) : List (Str × V) := [("planner", .ref Pl), ("left", .ref L), ("answers_there", .ref A), ("outcome", ov)]
section
variable {Pl L A L' : Addr} {ov ov' : V}
theorem sr_planner : (srF Pl L A ov).lookup ("planner" : Str) = some (.ref Pl) := lkA
theorem sr_left : (srF Pl L A ov).lookup ("left" : Str) = some (.ref L) := (lkB (by decide +kernel)).trans lkA
theorem sr_answers : (srF Pl L A ov).lookup ("answers_there" : Str) = some (.ref A) := (lkB (by decide +kernel)).trans ((lkB (by decide +kernel)).trans lkA)
theorem sr_outcome : (srF Pl L A ov).lookup ("outcome" : Str) = some ov := (lkB (by decide +kernel)).trans ((lkB (by decide +kernel)).trans ((lkB (by decide +kernel)).trans lkA))
theorem sr_none {m : Str} (h1 : (m == ("planner" : Str)) = false) (h2 : (m == ("left" : Str)) = false) (h3 : (m == ("answers_there" : Str)) = false) (h4 : (m == ("outcome" : Str)) = false) : (srF Pl L A ov).lookup m = none := (lkB h1).trans ((lkB h2).trans ((lkB h3).trans ((lkB h4).trans rfl)))
theorem sr_putL : putF "left" (.ref L') (srF Pl L A ov) = srF Pl L' A ov := (putB (by decide +kernel)).trans (congrArg _ putA)
theorem sr_putO : putF "outcome" ov' (srF Pl L A ov) = srF Pl L A ov' := (putB (by decide +kernel)).trans (congrArg _ ((putB (by decide +kernel)).trans (congrArg _ ((putB (by decide +kernel)).trans (congrArg _ putA)))))
theorem sr_new : putF "outcome" ov (putF "answers_there" (.ref A) (putF "left" (.ref L) (putF "planner" (.ref Pl) []))) = srF Pl L A ov := by
  have e1 : putF "left" (.ref L) (putF "planner" (.ref Pl) []) = ([("planner", .ref Pl), ("left", .ref L)] : List (Str × V)) := (putB (by decide +kernel)).trans rfl
  have e2 : putF "answers_there" (.ref A) ([("planner", .ref Pl), ("left", .ref L)] : List (Str × V)) = ([("planner", .ref Pl), ("left", .ref L), ("answers_there", .ref A)] : List (Str × V)) := (putB (by decide +kernel)).trans (congrArg _ ((putB (by decide +kernel)).trans rfl))
  have e3 : putF "outcome" ov ([("planner", .ref Pl), ("left", .ref L), ("answers_there", .ref A)] : List (Str × V)) = srF Pl L A ov := (putB (by decide +kernel)).trans (congrArg _ ((putB (by decide +kernel)).trans (congrArg _ ((putB (by decide +kernel)).trans rfl))))
  rw [e1, e2, e3]
end
def OutV (K : PySem.W.Frag) (H : Hp) (v : V) (o : Option R7286g.Spec.Outcome) : Prop := match o with
  | none => v = .non
  | some x => IsP K H v (outcomePlain (some x))
theorem OutV.mono {K : PySem.W.Frag} {F : Addr → Prop} {H H' : Hp} {v : V} {o : Option R7286g.Spec.Outcome} (h : OutV K H v o) (k : Keep F H H') : OutV K H' v o := by
  cases o with
  | none => exact h
  | some x => exact IsP.mono k _ _ h
structure SInv (s : Search) : Prop where
  opn : s.outcome = none → Lf s.left ∧ 2 ≤ s.left.length ∧ s.question = bestTest s.left ∧ s.answers.length + sumOf s.left ≤ 50
  cls : s.outcome ≠ none → s.question = none
structure SrAt (K : PySem.W.Frag) (CS : Addr) (H : Hp) (S A L Pl : Addr) (s : Search) : Prop where
  obj : ∃ dx ov, H S = some (.ins CS dx (srF Pl L A ov)) ∧ OutV K H ov s.outcome
  left : s.outcome = none → LeftAt H L s.left
  ans : s.outcome = none → AnsAt H A s.answers
  al : ∃ xs, H A = some (.lst xs)
  ll : ∃ xs, H L = some (.lst xs)
  inv : SInv s
theorem SrAt.keep {K : PySem.W.Frag} {CS S A L Pl : Addr} {F : Addr → Prop} {H H' : Hp} {s : Search} (h : SrAt K CS H S A L Pl s) (k : Keep F H H') (n1 : ¬ F S) (n2 : ¬ F A) (n3 : ¬ F L) : SrAt K CS H' S A L Pl s := by
  obtain ⟨dx, ov, e, o⟩ := h.obj
  obtain ⟨xs, e2⟩ := h.al
  obtain ⟨ys, e3⟩ := h.ll
  exact ⟨⟨dx, ov, k.all _ _ e n1, o.mono k⟩, fun q => (h.left q).mono k n3, fun q => (h.ans q).mono k n2, ⟨xs, k.all _ _ e2 n2⟩, ⟨ys, k.all _ _ e3 n3⟩, h.inv⟩
/-! ### the plain part -/
theorem proceed_inv {l : List Candidate} {as : List (Nat × Bool)} (lf : Lf l) (hs : as.length + sumOf l ≤ 50) : SInv (proceed l as) := by
  unfold proceed
  cases e : bestTest l with
  | none => exact ⟨(fun h => by cases h), fun _ => rfl⟩
  | some k => exact ⟨fun _ => ⟨lf, (bestTest_mem lf.asc e).2.1, e.symm, hs⟩, fun h => absurd rfl h⟩
theorem settle_inv (s : Search) (o : R7286g.Spec.Outcome) : SInv (s.settle o) := ⟨(fun h => by cases h), fun _ => rfl⟩
theorem receive_bool {s : Search} {k : Nat} (h : s.question = some k) (b : Bool) : s.receive (.value (.bool b)) = proceed (afterAnswer s.left k b) (s.answers ++ [(k, b)]) := by
  unfold Search.receive
  rw [h]
theorem receive_bad {s : Search} {k : Nat} (h : s.question = some k) {p : Plain} (n : ∀ b, p ≠ .bool b) : s.receive (.value p) = s.settle (.error (badReply k)) := by
  unfold Search.receive
  rw [h]
  cases p with
  | bool b => exact absurd rfl (n b)
  | _ => rfl
theorem receive_fail {s : Search} {k : Nat} (h : s.question = some k) (p : Plain) : s.receive (.failed p) = s.settle (.failed p) := by
  unfold Search.receive
  rw [h]
theorem msg_bad {k : Nat} (h : k < 10) : MsgOk (("test(" : Str) ++ (toString (k : Int) : String) ++ (") must return a boolean" : Str)) (badReply k).msg := by
  have all : ∀ k : Fin 10, ((("test(" : Str) ++ (toString ((k : Nat) : Int) : String) ++ (") must return a boolean" : Str)).cps.all (· < 128) && decide ((("test(" : Str) ++ (toString ((k : Nat) : Int) : String) ++ (") must return a boolean" : Str)).cps.size ≤ 1000) &&
      decide (strV (("test(" : Str) ++ (toString ((k : Nat) : Int) : String) ++ (") must return a boolean" : Str)) = unitsV (badReply k).msg)) = true := by decide +kernel
  have := all ⟨k, h⟩
  rw [Bool.and_eq_true, Bool.and_eq_true, decide_eq_true_iff, decide_eq_true_iff] at this
  exact ⟨this.1.1, this.1.2, this.2⟩
theorem msg_of (x : Str) (u : Units) (h : (x.cps.all (· < 128) && decide (x.cps.size ≤ 1000) && decide (strV x = unitsV u)) = true) : MsgOk x u := by
  rw [Bool.and_eq_true, Bool.and_eq_true, decide_eq_true_iff, decide_eq_true_iff] at h
  exact ⟨h.1.1, h.1.2, h.2⟩
theorem m_rejected : MsgOk "rejected" (R7286g.Spec.units "rejected") := msg_of _ _ (by decide +kernel)
theorem m_TypeError : MsgOk "TypeError" (R7286g.Spec.units "TypeError") := msg_of _ _ (by decide +kernel)
theorem m_RangeError : MsgOk "RangeError" (R7286g.Spec.units "RangeError") := msg_of _ _ (by decide +kernel)
theorem m_fulfilled : MsgOk "fulfilled" (R7286g.Spec.units "fulfilled") := msg_of _ _ (by decide +kernel)
theorem m_failed : MsgOk "failed" (R7286g.Spec.units "failed") := msg_of _ _ (by decide +kernel)
theorem m_stop : MsgOk "stop" (R7286g.Spec.units "stop") := msg_of _ _ (by decide +kernel)
theorem m_version : MsgOk "version" (R7286g.Spec.units "version") := msg_of _ _ (by decide +kernel)
theorem m_tests : MsgOk "tests" (R7286g.Spec.units "tests") := msg_of _ _ (by decide +kernel)
theorem m_wrong : MsgOk "wrong" (R7286g.Spec.units "wrong") := msg_of _ _ (by decide +kernel)
theorem m_wrongBad : MsgOk "wrongBad" (R7286g.Spec.units "wrongBad") := msg_of _ _ (by decide +kernel)
theorem m_wrongGood : MsgOk "wrongGood" (R7286g.Spec.units "wrongGood") := msg_of _ _ (by decide +kernel)
theorem m_answers : MsgOk "answers" (R7286g.Spec.units "answers") := msg_of _ _ (by decide +kernel)
section
variable {P : Program} {w : World} {K : PySem.W.Frag} {mg : Str → Option Value} {base : Heap} {CP CS : Addr}
/-! ### __init__ -/
def SetAt (K : PySem.W.Frag) (H : Hp) (v : V) (l : List Candidate) : Prop := (v = .non ∧ l = []) ∨ ∃ (t : Addr) (n p q : Nat), v = .ref t ∧ SqT K H t [.int n, .int p, .int q] ∧ n ≤ 1000 ∧ l = startOf n p q
def spSrNew (K : PySem.W.Frag) (CS : Addr) : Sp := fun vs H Q _ => ∃ (p dx Pl : Addr) (st ov : V) (l : List Candidate), vs = [.ref p, .ref Pl, st, ov] ∧ H p = some (.ins CS dx []) ∧ SetAt K H st l ∧
  ∀ H' L A, Keep (fun b => b = p) H H' → H L = none → H A = none → L ≠ A → H' p = some (.ins CS dx (srF Pl L A ov)) → LeftAt H' L l → AnsAt H' A [] → Q .non H'
theorem init_tail {Q : VK} {C p dx Pl : Addr} {ov : V} {l : List Candidate} {H H1 : Hp} {L A : Addr} (hp : H p = some (.ins C dx [])) (kL : Kp (upd H p (.ins C dx (putF "planner" (.ref Pl) []))) H1) (nL : H L = none) (lf : LeftAt H1 L l) (nLp : L ≠ p)
    (nA : (upd H1 p (.ins C dx (putF "left" (.ref L) (putF "planner" (.ref Pl) [])))) A = none)
    (post : ∀ H' L A, Keep (fun b => b = p) H H' → H L = none → H A = none → L ≠ A → H' p = some (.ins C dx (srF Pl L A ov)) → LeftAt H' L l → AnsAt H' A [] → Q .non H') :
    Q .non (upd (upd (upd (upd H1 p (.ins C dx (putF "left" (.ref L) (putF "planner" (.ref Pl) [])))) A (.lst [])) p (.ins C dx (putF "answers_there" (.ref A) (putF "left" (.ref L) (putF "planner" (.ref Pl) []))))) p (.ins C dx (putF "outcome" ov (putF "answers_there" (.ref A) (putF "left" (.ref L) (putF "planner" (.ref Pl) [])))))) := by
  have put : ∀ (H : Hp) (fs gs : List (Str × V)), H p = some (.ins C dx fs) → Keep (fun b => b = p) H (upd H p (.ins C dx gs)) := fun H fs gs e => Keep.put rfl e (by intro z; exact HO.noConfusion) (by intro z w; exact HO.noConfusion)
  have e1 : (upd H p (.ins C dx (putF "planner" (.ref Pl) []))) p = some (.ins C dx (putF "planner" (.ref Pl) [])) := upd_same
  have e2 := kat kL e1
  have k1 : Keep (fun b => b = p) H H1 := (put H _ _ hp).trans kL.to
  have k2 := k1.trans (put H1 _ (putF "left" (.ref L) (putF "planner" (.ref Pl) [])) e2)
  have nAp : A ≠ p := fun z => by rw [z, upd_same] at nA; cases nA
  have nA1 : H1 A = none := by rw [upd_ne nAp] at nA; exact nA
  have hA : H A = none := Keep.free k1 nA1 nAp
  obtain ⟨ts, eL, pr⟩ := id lf
  have nLA : L ≠ A := ne_of_none eL nA1
  have k3 : Keep (fun b => b = p) H (upd (upd H1 p (.ins C dx (putF "left" (.ref L) (putF "planner" (.ref Pl) [])))) A (.lst [])) := k2.trans (Keep.new nA)
  have e3 : (upd (upd H1 p (.ins C dx (putF "left" (.ref L) (putF "planner" (.ref Pl) [])))) A (.lst [])) p = some (.ins C dx (putF "left" (.ref L) (putF "planner" (.ref Pl) []))) := by rw [upd_ne nAp.symm, upd_same]
  have k4 := put _ _ (putF "answers_there" (.ref A) (putF "left" (.ref L) (putF "planner" (.ref Pl) []))) e3
  have k5 := put _ _ (putF "outcome" ov (putF "answers_there" (.ref A) (putF "left" (.ref L) (putF "planner" (.ref Pl) [])))) (upd_same (H := (upd (upd H1 p (.ins C dx (putF "left" (.ref L) (putF "planner" (.ref Pl) [])))) A (.lst []))) (a := p) (o := .ins C dx (putF "answers_there" (.ref A) (putF "left" (.ref L) (putF "planner" (.ref Pl) [])))))
  refine post _ L A (k3.trans (k4.trans k5)) nL hA nLA ?_ ?_ ?_
  · rw [upd_same, sr_new]
  · exact ((((lf.mono (put H1 _ _ e2) nLp).mono (Keep.new nA : Keep (fun b => b = p) _ _) nLp).mono k4 nLp).mono k5 nLp)
  · refine ⟨[], ?_, .nil⟩
    rw [upd_ne nAp, upd_ne nAp, upd_same]
theorem b_Search_new (C : SrC K CS) (c_first_left : Cal P w K mg base 1 "first_left" spFirst) : Bd P w K mg base N_Search_new "Search.__init__" s_Search_new 1 (spSrNew K CS) := by
  rintro f cdv A outer s H vs Q E hr ⟨p, dx, Pl, st, ov, l, rfl, hp, hst, post⟩
  refine ⟨_, pss_cons (ps_fld (pv 0) (pv 1) rfl)
    (pss_cons (ps_fld (pv 0) (pe_ifExp (pt_cmpR op_isN (pv 2) (pe_non) (nomark _)) (pe_lst pa_nil) (pe_c c_first_left hr (by omega) (by rfl) (pa_cons (pe_ix ix_seq (pv 2) (pe_int) (fun _ _ => rfl)) (pa_cons (pe_ix ix_seq (pv 2) (pe_int) (fun _ _ => rfl)) (pa_cons (pe_ix ix_seq (pv 2) (pe_int) (fun _ _ => rfl)) pa_nil))))) rfl)
    (pss_cons (ps_fld (pv 0) (pe_lst pa_nil) rfl)
    (pss_one (ps_fld (pv 0) (pv 3) rfl)))), ?_⟩
  refine ⟨_, rfl, _, rfl, p, CS, dx, [], rfl, hp, C.cl, C.nP, (by show 0 < 1000; decide), ?_⟩
  have e1 : (upd H p (.ins CS dx (putF "planner" (.ref Pl) []))) p = some (.ins CS dx (putF "planner" (.ref Pl) [])) := upd_same
  have k0 : Keep (fun b => b = p) H (upd H p (.ins CS dx (putF "planner" (.ref Pl) []))) := Keep.put rfl hp (by intro z; exact HO.noConfusion) (by intro z w; exact HO.noConfusion)
  rcases hst with ⟨rfl, rfl⟩ | ⟨t, n, pp, q, rfl, ht, hn, rfl⟩
  · refine ⟨_, rfl, rfl, _, rfl, ifT rfl ⟨Nat.zero_le _, fun L nL => ?_⟩⟩
    have kL : Kp (upd H p (.ins CS dx (putF "planner" (.ref Pl) []))) (upd (upd H p (.ins CS dx (putF "planner" (.ref Pl) []))) L (.lst [])) := Keep.new nL
    have nLp : L ≠ p := fun z => by rw [z, upd_same] at nL; cases nL
    refine ⟨_, rfl, p, CS, dx, _, rfl, kat kL e1, C.cl, C.nL, (by show 1 < 1000; decide), ?_⟩
    refine ⟨Nat.zero_le _, fun A nA => ?_⟩
    have nAp : A ≠ p := fun z => by rw [z, upd_same] at nA; cases nA
    refine ⟨_, rfl, p, CS, dx, _, rfl, (by rw [upd_ne nAp.symm, upd_same]), C.cl, C.nA, (by show 2 < 1000; decide), ?_⟩
    refine ⟨_, rfl, _, rfl, p, CS, dx, _, rfl, upd_same, C.cl, C.nO, (by show 3 < 1000; decide), ?_⟩
    exact init_tail hp kL (Keep.free k0 nL nLp) ⟨[], upd_same, .nil⟩ nLp nA post
  · refine ⟨_, rfl, rfl, _, rfl, ifF (decide_eq_false (by intro z; cases z)) ?_⟩
    have ht1 := k0.sqT ht
    refine ⟨_, rfl, .inr (.inl ⟨t, _, 0, _, rfl, rfl, ht1, atI_nat (j := 0) rfl, _, rfl, .inr (.inl ⟨t, _, 1, _, rfl, rfl, ht1, atI_nat (j := 1) rfl, _, rfl, .inr (.inl ⟨t, _, 2, _, rfl, rfl, ht1, atI_nat (j := 2) rfl, n, pp, q, rfl, hn, fun H1 L kL nL lf => ?_⟩)⟩)⟩)⟩
    have nLp : L ≠ p := fun z => by rw [z, upd_same] at nL; cases nL
    refine ⟨_, rfl, p, CS, dx, _, rfl, kat kL e1, C.cl, C.nL, (by show 1 < 1000; decide), ?_⟩
    refine ⟨Nat.zero_le _, fun A nA => ?_⟩
    have nAp : A ≠ p := fun z => by rw [z, upd_same] at nA; cases nA
    refine ⟨_, rfl, p, CS, dx, _, rfl, (by rw [upd_ne nAp.symm, upd_same]), C.cl, C.nA, (by show 2 < 1000; decide), ?_⟩
    refine ⟨_, rfl, _, rfl, p, CS, dx, _, rfl, upd_same, C.cl, C.nO, (by show 3 < 1000; decide), ?_⟩
    exact init_tail hp kL (Keep.free k0 nL nLp) lf nLp nA post
/-- where an exception is handled: no setting -/
def spSrNone (CS : Addr) : Sp := fun vs H Q _ => ∃ (p dx Pl : Addr) (ov : V), vs = [.ref p, .ref Pl, .non, ov] ∧ H p = some (.ins CS dx []) ∧
  ∀ H' L A, Keep (fun b => b = p) H H' → H L = none → H A = none → L ≠ A → H' p = some (.ins CS dx (srF Pl L A ov)) → LeftAt H' L [] → AnsAt H' A [] → Q .non H'
theorem b_Search_newH (C : SrC K CS) (c_first_leftH : CalH P w K mg base 1 "first_left" (fun _ _ _ _ => False)) : BdH P w K mg base N_Search_new "Search.__init__" s_Search_new 1 (spSrNone CS) := by
  rintro f cdv A outer s H vs Q E pp hot hr ⟨p, dx, Pl, ov, rfl, hp, post⟩
  have hc : HotC (cxH L2.CX0 P w K mg base N_Search_new "Search.__init__" (defScope s_Search_new) f cdv A outer s H E pp).nox := ⟨pp, hot, List.mem_singleton.mpr rfl⟩
  refine ⟨_, pss_cons (ps_fld (pv 0) (pv 1) rfl)
    (pss_cons (ps_fld (pv 0) (pe_ifExp (pt_cmpR op_isN (pv 2) (pe_non) (nomark _)) (pe_lst pa_nil) (pe_cH c_first_leftH hr (by omega) hc (by rfl) (pa_cons (pe_ix ix_seq (pv 2) (pe_int) (fun _ _ => rfl)) (pa_cons (pe_ix ix_seq (pv 2) (pe_int) (fun _ _ => rfl)) (pa_cons (pe_ix ix_seq (pv 2) (pe_int) (fun _ _ => rfl)) pa_nil))))) rfl)
    (pss_cons (ps_fld (pv 0) (pe_lst pa_nil) rfl)
    (pss_one (ps_fld (pv 0) (pv 3) rfl)))), ?_⟩
  refine ⟨_, rfl, _, rfl, p, CS, dx, [], rfl, hp, C.cl, C.nP, (by show 0 < 1000; decide), ?_⟩
  have e1 : (upd H p (.ins CS dx (putF "planner" (.ref Pl) []))) p = some (.ins CS dx (putF "planner" (.ref Pl) [])) := upd_same
  have k0 : Keep (fun b => b = p) H (upd H p (.ins CS dx (putF "planner" (.ref Pl) []))) := Keep.put rfl hp (by intro z; exact HO.noConfusion) (by intro z w; exact HO.noConfusion)
  refine ⟨_, rfl, rfl, _, rfl, ifT rfl ⟨Nat.zero_le _, fun L nL => ?_⟩⟩
  have kL : Kp (upd H p (.ins CS dx (putF "planner" (.ref Pl) []))) (upd (upd H p (.ins CS dx (putF "planner" (.ref Pl) []))) L (.lst [])) := Keep.new nL
  have nLp : L ≠ p := fun z => by rw [z, upd_same] at nL; cases nL
  refine ⟨_, rfl, p, CS, dx, _, rfl, kat kL e1, C.cl, C.nL, (by show 1 < 1000; decide), ?_⟩
  refine ⟨Nat.zero_le _, fun A nA => ?_⟩
  have nAp : A ≠ p := fun z => by rw [z, upd_same] at nA; cases nA
  refine ⟨_, rfl, p, CS, dx, _, rfl, (by rw [upd_ne nAp.symm, upd_same]), C.cl, C.nA, (by show 2 < 1000; decide), ?_⟩
  refine ⟨_, rfl, _, rfl, p, CS, dx, _, rfl, upd_same, C.cl, C.nO, (by show 3 < 1000; decide), ?_⟩
  exact init_tail hp kL (Keep.free k0 nL nLp) ⟨[], upd_same, .nil⟩ nLp nA post
/-! ### test -/
def spTest (P : Program) (w : World) (K : PySem.W.Frag) (CP CS : Addr) : Sp := fun vs H Q _ => ∃ (S A L Pl KN : Addr) (s : Search), vs = [.ref S] ∧ SrAt K CS H S A L Pl s ∧ PlAt CP H Pl KN ∧ MemoAt P w KN H ∧ ∀ H', Keep (fun b => b = KN) H H' → MemoAt P w KN H' → Q (optV s.question) H'
theorem b_Search_test (C : SrC K CS) (c_Planner_best_test : Met P w K mg base 105 CP "best_test" (spBest P w CP)) : Bd P w K mg base N_Search_test "Search.test" s_Search_test 105 (spTest P w K CP CS) := by
  rintro f cdv A0 outer s0 H vs Q E hr ⟨S, A, L, Pl, KN, s, rfl, sr, pl, mm, post⟩
  refine ⟨_, pss_one (ps_ret (pe_ifExp (pt_cmpR op_notN (pe_fld (pv 0) rfl) (pe_non) (nomark _)) (pe_non) (pe_m c_Planner_best_test hr (by omega) (pe_fld (pv 0) rfl) (by exact (pa_cons (pe_fld (pv 0) rfl) pa_nil))))), ?_⟩
  obtain ⟨dx, ov, eS, ho⟩ := sr.obj
  obtain ⟨dp, eP⟩ := id pl
  cases e : s.outcome with
  | none =>
    rw [e] at ho
    obtain rfl : ov = .non := ho
    obtain ⟨lf, h2, hq, _⟩ := sr.inv.opn e
    refine ⟨_, rfl, S, CS, dx, _, _, rfl, eS, C.cl, C.nO, sr_outcome, rfl, _, rfl, ifF rfl ?_⟩
    refine ⟨_, rfl, S, CS, dx, _, _, rfl, eS, C.cl, C.nP, sr_planner, Pl, dp, _, rfl, eP, (lkB (by decide +kernel)).trans rfl, _, rfl, S, CS, dx, _, _, rfl, eS, C.cl, C.nL, sr_left, Pl, KN, L, s.left, rfl, pl, mm, sr.left e, lf, fun H' k m => ?_⟩
    have z := post H' k m
    rw [hq] at z
    exact z
  | some o =>
    have hq := sr.inv.cls (by rw [e]; exact Option.some_ne_none _)
    rw [e] at ho
    have nn : ov ≠ .non := fun z => by
      rw [z] at ho
      obtain ⟨t, r, e2, _⟩ := isP_tag (show IsP K H .non (outcomePlain (some o)) from ho)
      cases e2
    refine ⟨_, rfl, S, CS, dx, _, _, rfl, eS, C.cl, C.nO, sr_outcome, rfl, _, rfl, ifT (by rw [decide_eq_false nn]; rfl) ?_⟩
    have z := post H .refl mm
    rw [hq] at z
    exact z
/-! ### fail -/
def spFail (K : PySem.W.Frag) (CS : Addr) : Sp := fun vs H Q _ => ∃ (S A L Pl : Addr) (s : Search) (v : V) (p : Plain), vs = [.ref S, v] ∧ SrAt K CS H S A L Pl s ∧ s.outcome = none ∧ IsP K H v p ∧ ∀ H', Keep (fun b => b = S) H H' → SrAt K CS H' S A L Pl (s.receive (.failed p)) → Q .non H'
theorem sr_settle {H H1 : Hp} {S A L Pl dx : Addr} {s : Search} {o : R7286g.Spec.Outcome} {ov v : V} (sr : SrAt K CS H S A L Pl s) (k : Kp H H1) (eS : H S = some (.ins CS dx (srF Pl L A ov))) (h : IsP K H1 v (outcomePlain (some o))) :
    Keep (fun b => b = S) H (upd H1 S (.ins CS dx (putF "outcome" v (srF Pl L A ov)))) ∧ SrAt K CS (upd H1 S (.ins CS dx (putF "outcome" v (srF Pl L A ov)))) S A L Pl (s.settle o) := by
  have kS : Keep (fun b => b = S) H1 (upd H1 S (.ins CS dx (putF "outcome" v (srF Pl L A ov)))) := Keep.put rfl (kat k eS) (by intro z; exact HO.noConfusion) (by intro z w; exact HO.noConfusion)
  have kk : Keep (fun b => b = S) H (upd H1 S (.ins CS dx (putF "outcome" v (srF Pl L A ov)))) := k.to.trans kS
  obtain ⟨xs, eA⟩ := sr.al
  obtain ⟨ys, eL⟩ := sr.ll
  have nA : A ≠ S := ne_of eA eS (by intro z; cases z)
  have nL : L ≠ S := ne_of eL eS (by intro z; cases z)
  exact ⟨kk, ⟨dx, v, by rw [upd_same, sr_putO], IsP.mono kS _ _ h⟩, (fun q => nomatch q), (fun q => nomatch q), ⟨xs, kk.all _ _ eA nA⟩, ⟨ys, kk.all _ _ eL nL⟩, settle_inv s o⟩
theorem b_Search_fail (C : SrC K CS) (c_text : Cal P w K mg base 2 "text" (spText K)) (c_row : Cal P w K mg base 1 "row" (spRow K)) : Bd P w K mg base N_Search_fail "Search.fail" s_Search_fail 2 (spFail K CS) := by
  rintro f cdv A0 outer s0 H vs Q E hr ⟨S, A, L, Pl, s, v, p, rfl, sr, hn, hv, post⟩
  refine ⟨_, pss_one (ps_fld (pv 0) (pe_c c_row hr (by omega) (by rfl) (pa_cons (pe_lst (pa_cons (pe_c c_text hr (by omega) (by rfl) (pa_cons (pe_str) pa_nil)) (pa_cons (pv 1) pa_nil))) pa_nil)) rfl), ?_⟩
  obtain ⟨dx, ov, eS, ho⟩ := sr.obj
  obtain ⟨lf, h2, hq, _⟩ := sr.inv.opn hn
  obtain ⟨k, r, e1, e2, _⟩ := bestTest_some lf.asc h2
  rw [e2] at hq
  refine ⟨"failed", _, rfl, m_failed.asc, m_failed.len, m_failed.eq, fun H1 u1 k1 h1 => ⟨_, rfl, two_le, fun q nq => ?_⟩⟩
  have kq : Kp H1 (upd H1 q (.lst [u1, v])) := Keep.new nq
  refine ⟨q, _, [.str (R7286g.Spec.units "failed"), p], rfl, upd_same, ⟨IsP.mono kq _ _ h1, IsP.mono (k1.trans kq) _ _ hv, trivial⟩, fun H2 u2 k2 h2 => ?_⟩
  have kk : Kp H H2 := (k1.trans kq).trans k2
  refine ⟨_, rfl, S, CS, dx, _, rfl, kat kk eS, C.cl, C.nO, (by show 4 < 1000; decide), ?_⟩
  have z := sr_settle (o := .failed p) sr kk eS h2
  rw [receive_fail hq] at post
  exact post _ z.1 z.2
end
end Fs

/-! Search.take, rejected. -/
namespace Fs
open PySem PySem.Spec PyProof.Rows L2 L2H
open R7286g.Spec (Plain Units Candidate startOf afterAnswer bestTest testsOf sumOf fewest Search outcomePlain proceed resultOf badReply toldOf Reply nat wrongOnes)
section
variable {P : Program} {w : World} {K : PySem.W.Frag} {mg : Str → Option Value} {base : Heap} {CP CS CR : Addr}
theorem sr_close {H1 : Hp} {S A L Pl dx : Addr} {ov v : V} {o : R7286g.Spec.Outcome} {s' : Search} (eS : H1 S = some (.ins CS dx (srF Pl L A ov))) (eA : ∃ xs, H1 A = some (.lst xs)) (eL : ∃ xs, H1 L = some (.lst xs)) (h : IsP K H1 v (outcomePlain (some o))) (ho : s'.outcome = some o) (inv : SInv s') :
    Keep (fun b => b = S) H1 (upd H1 S (.ins CS dx (putF "outcome" v (srF Pl L A ov)))) ∧ SrAt K CS (upd H1 S (.ins CS dx (putF "outcome" v (srF Pl L A ov)))) S A L Pl s' := by
  have kS : Keep (fun b => b = S) H1 (upd H1 S (.ins CS dx (putF "outcome" v (srF Pl L A ov)))) := Keep.put rfl eS (by intro z; exact HO.noConfusion) (by intro z w; exact HO.noConfusion)
  obtain ⟨xs, eA⟩ := eA
  obtain ⟨ys, eL⟩ := eL
  have nA : A ≠ S := ne_of eA eS (by intro z; cases z)
  have nL : L ≠ S := ne_of eL eS (by intro z; cases z)
  have no : s'.outcome ≠ none := by rw [ho]; exact Option.some_ne_none _
  exact ⟨kS, ⟨dx, v, by rw [upd_same, sr_putO], by rw [ho]; exact IsP.mono kS _ _ h⟩, (fun q => absurd q no), (fun q => absurd q no), ⟨xs, kS.all _ _ eA nA⟩, ⟨ys, kS.all _ _ eL nL⟩, inv⟩
theorem len_bad {k : Nat} (h : k < 10) : (("test(" : Str).length + ((toString (k : Int) : String) : Str).length ≤ 100) ∧ (("test(" : Str) ++ ((toString (k : Int) : String) : Str)).length + (") must return a boolean" : Str).length ≤ 100 ∧ (k : Int).natAbs.log2 < 1920 := by
  have all : ∀ k : Fin 10, (decide (("test(" : Str).length + ((toString ((k : Nat) : Int) : String) : Str).length ≤ 100) && decide ((("test(" : Str) ++ ((toString ((k : Nat) : Int) : String) : Str)).length + (") must return a boolean" : Str).length ≤ 100) && decide (((k : Nat) : Int).natAbs.log2 < 1920)) = true := by decide +kernel
  have := all ⟨k, h⟩
  rw [Bool.and_eq_true, Bool.and_eq_true, decide_eq_true_iff, decide_eq_true_iff, decide_eq_true_iff] at this
  exact ⟨this.1.1, this.1.2, this.2⟩
def spTakeS (P : Program) (w : World) (K : PySem.W.Frag) (CP CS : Addr) : Sp := fun vs H Q _ => ∃ (S A L Pl KN : Addr) (s : Search) (v : V) (p : Plain), vs = [.ref S, v] ∧ SrAt K CS H S A L Pl s ∧ s.outcome = none ∧ A ≠ L ∧ IsP K H v p ∧ PlAt CP H Pl KN ∧ MemoAt P w KN H ∧
  ∀ H' L', Keep (fun b => b = KN ∨ b = S ∨ b = A) H H' → MemoAt P w KN H' → SrAt K CS H' S A L' Pl (s.receive (.value p)) → (L' = L ∨ H L' = none) → Q .non H'
theorem b_Search_take (B : Bt mg) (C : SrC K CS) (c_left_by : Cal P w K mg base 1 "left_by" spLeftBy) (c_are_wrong : Cal P w K mg base 1 "are_wrong" spAreWrong) (c_text : Cal P w K mg base 2 "text" (spText K)) (c_row : Cal P w K mg base 1 "row" (spRow K)) (c_record : Cal P w K mg base 2 "record" (spRecord K))
    (c_integer : Cal P w K mg base 1 "integer" (spInteger K)) (c_Search_test : Met P w K mg base 106 CS "test" (spTest P w K CP CS)) : Bd P w K mg base N_Search_take "Search.take" s_Search_take 106 (spTakeS P w K CP CS) := by
  rintro f cdv A0 outer s0 H vs Q E hr ⟨S, A, L, Pl, KN, s, v, p, rfl, sr, hn, nAL, hv, pl, mm, post⟩
  refine ⟨_, pss_cons (ps_set (i := 2) sc_Search_take.nd rfl (Or.inl rfl) (pe_m0 c_Search_test hr (by omega) (pv 0)))
    (pss_cons (ps_if (pt_cmpR op_ne (pe_ix ix_seq (pv 1) (pe_int) (fun _ _ => rfl)) (pe_str) (nomark _)) (pss_cons (ps_set (i := 3) sc_Search_take.nd rfl (Or.inl rfl) (pe_op op_add_str (pe_op op_add_str (pe_str) (pe_callTy call_str_int (by rfl) B.str PyProof.Rows.boot_str (pa_cons (pv 2) pa_nil))) (pe_str)))
    (pss_cons (ps_fld (pv 0) (pe_c c_row hr (by omega) (by rfl) (pa_cons (pe_lst (pa_cons (pe_c c_text hr (by omega) (by rfl) (pa_cons (pe_str) pa_nil)) (pa_cons (pe_c c_text hr (by omega) (by rfl) (pa_cons (pe_str) pa_nil)) (pa_cons (pe_c c_text hr (by omega) (by rfl) (pa_cons (pv 3) pa_nil)) pa_nil)))) pa_nil)) rfl)
    (pss_one (ps_retN)))) pss_nil)
    (pss_cons (ps_expr (pe_bm PySem.F.plainAttrs_list PySem.F.slot_list_append PySem.F.type_list_append mt_append (pe_fld (pv 0) rfl) (pa_cons (pe_tup (pa_cons (pv 2) (pa_cons (pe_ix ix_seq (pv 1) (pe_int) (fun _ _ => rfl)) pa_nil))) pa_nil)))
    (pss_cons (ps_fld (pv 0) (pe_c c_left_by hr (by omega) (by rfl) (pa_cons (pe_fld (pv 0) rfl) (pa_cons (pv 2) (pa_cons (pe_ix ix_seq (pv 1) (pe_int) (fun _ _ => rfl)) pa_nil)))) rfl)
    (pss_one (ps_if (pt_cmpR op_eq (pe_callB call_len_seq (by rfl) B.len PySem.boot_len (pa_cons (pe_fld (pv 0) rfl) pa_nil)) (pe_int) (nomark _)) (pss_cons (ps_set (i := 4) sc_Search_take.nd rfl (Or.inl rfl) (pe_ix ix_seq (pe_ix ix_seq (pe_fld (pv 0) rfl) (pe_int) (fun _ _ => rfl)) (pe_int) (fun _ _ => rfl)))
    (pss_cons (ps_set (i := 5) sc_Search_take.nd rfl (Or.inl rfl) (pe_c c_row hr (by omega) (by rfl) (pa_cons (pe_lc (own := [("at", 8)]) (g := (gName 8)) (te := (tCl _ E0 (tCons (tVar 8) tNil))) rfl sc_Search_take.nd (pi_list (pe_c c_are_wrong hr (by omega) (by rfl) (pa_cons (pv 4) (pa_cons (pe_fld (pv 0) rfl) pa_nil)))) (blkOk_by (N := N_Search_take) (sc := defScope s_Search_take) (by decide +kernel)) (fun _ _ _ _ _ => by exact pg_name (i := 8) sc_Search_take.nd rfl (Or.inl rfl)) (fun _ _ _ _ _ => pts_nil) (fun _ _ _ _ _ => by exact pe_c c_integer hr (by omega) (by rfl) (pa_cons (pv 8) pa_nil))) pa_nil)))
    (pss_cons (ps_set (i := 6) sc_Search_take.nd rfl (Or.inl rfl) (pe_c c_integer hr (by omega) (by rfl) (pa_cons (pe_callB call_len_seq (by rfl) B.len PySem.boot_len (pa_cons (pe_fld (pv 0) rfl) pa_nil)) pa_nil)))
    (pss_cons (ps_set (i := 7) sc_Search_take.nd rfl (Or.inl rfl) (pe_c c_record hr (by omega) (by rfl) (pa_cons (pe_lst (pa_cons (pe_tup (pa_cons (pe_str) (pa_cons (pe_c c_integer hr (by omega) (by rfl) (pa_cons (pv 4) pa_nil)) pa_nil))) (pa_cons (pe_tup (pa_cons (pe_str) (pa_cons (pv 6) pa_nil))) (pa_cons (pe_tup (pa_cons (pe_str) (pa_cons (pv 5) pa_nil))) pa_nil)))) pa_nil)))
    (pss_one (ps_fld (pv 0) (pe_c c_row hr (by omega) (by rfl) (pa_cons (pe_lst (pa_cons (pe_c c_text hr (by omega) (by rfl) (pa_cons (pe_str) pa_nil)) (pa_cons (pv 7) pa_nil))) pa_nil)) rfl)))))) pss_nil))))), ?_⟩
  obtain ⟨dx, ov, eS, ho⟩ := sr.obj
  rw [hn] at ho
  obtain rfl : ov = .non := ho
  obtain ⟨lf, h2, hq, hs50⟩ := sr.inv.opn hn
  obtain ⟨k, kr, hk1, hk2, hk3, _⟩ := bestTest_some lf.asc h2
  rw [hk2] at hq
  have hk10 : k < 10 := by
    obtain ⟨c, hc, rfl⟩ := List.mem_map.mp hk3
    exact (lf.lo c (List.dropLast_subset _ hc)).2.2
  obtain ⟨xsA, eA⟩ := sr.al
  obtain ⟨xsL, eL⟩ := sr.ll
  have nSK : S ≠ KN := by
    obtain ⟨xs, e2, _⟩ := mm
    exact ne_of eS e2 fun z => by cases z
  have nAK : A ≠ KN := known_lst eA mm
  have nLK : L ≠ KN := known_lst eL mm
  have nAS : A ≠ S := ne_of eA eS (by intro z; cases z)
  have nLS : L ≠ S := ne_of eL eS (by intro z; cases z)
  refine ⟨_, rfl, S, dx, _, rfl, eS, sr_none (by decide +kernel) (by decide +kernel) (by decide +kernel) (by decide +kernel), S, A, L, Pl, KN, s, rfl, sr, pl, mm, fun H1 k1 m1 => ?_⟩
  have hov : optV (some k) = V.int (k : Int) := rfl
  rw [hq, hov]
  have sr1 := sr.keep k1 nSK nAK nLK
  have eS1 : H1 S = some (.ins CS dx (srF Pl L A .non)) := k1.all _ _ eS nSK
  have hv1 := IsP.mono k1 _ _ hv
  have kF1 : Keep (fun b => b = KN ∨ b = S ∨ b = A) H H1 := k1.mono fun _ _ _ f => .inl f
  by_cases hb : ∃ b, p = .bool b
  · obtain ⟨b, rfl⟩ := hb
    obtain ⟨t, rfl, ht⟩ := isP_bool hv1
    rw [receive_bool hq] at post
    refine ⟨_, rfl, .inr (.inl ⟨t, _, 0, _, rfl, rfl, ht, atI_nat (j := 0) rfl, rfl, _, rfl, ifF (ifEqStr _) ?_⟩)⟩
    obtain ⟨ys, eA1, pA⟩ := sr1.ans hn
    have ly : ys.length ≤ 50 := by rw [pA.length]; omega
    -- append
    refine ⟨_, rfl, S, CS, dx, _, _, rfl, eS1, C.cl, C.nA, sr_answers, .inl ⟨rfl, _, .of eA1⟩, _, rfl, _, rfl, .inr (.inl ⟨t, _, 1, _, rfl, rfl, ht, atI_nat (j := 1) rfl, two_le, fun u nu => ?_⟩)⟩
    have ku : Kp H1 (upd H1 u (.tup [.int k, .bl b])) := Keep.new nu
    have eu : upd H1 u (.tup [.int k, .bl b]) u = some (.tup [.int k, .bl b]) := upd_same
    have eA2 := kat ku eA1
    have eS2 := kat ku eS1
    have sr2 := sr1.keep ku (fun f => f) (fun f => f) (fun f => f)
    refine ⟨A, ys, _, rfl, rfl, eA2, Nat.lt_of_le_of_lt ly (by decide), ?_⟩
    generalize upd H1 u (.tup [.int k, .bl b]) = H2 at ku eu eA2 eS2 sr2
    have kA : Keep (fun b => b = A) H2 (upd H2 A (.lst (ys ++ [.ref u]))) := Keep.put rfl eA2 (by intro z; exact HO.noConfusion) (by intro z w; exact HO.noConfusion)
    have eA3 : upd H2 A (.lst (ys ++ [.ref u])) A = some (.lst (ys ++ [.ref u])) := upd_same
    generalize upd H2 A (.lst (ys ++ [.ref u])) = H3 at kA eA3
    have ans3 : AnsAt H3 A (s.answers ++ [(k, b)]) := ⟨_, eA3, Paired.snoc (pd_mono pA fun _ _ q => (q.mono ku).mono kA) ⟨u, rfl, kA.tup _ _ eu⟩⟩
    have eS3 : H3 S = some (.ins CS dx (srF Pl L A .non)) := kA.all _ _ eS2 nAS.symm
    have left3 : LeftAt H3 L s.left := (sr2.left hn).mono kA nAL.symm
    have ht3 := kA.sqT (ku.sqT ht)
    have kF3 : Keep (fun b => b = KN ∨ b = S ∨ b = A) H H3 := (kF1.trans ku.to).trans (kA.mono fun _ _ _ f => .inr (.inr f))
    have m3 : MemoAt P w KN H3 := (m1.kp ku).keep nAK.symm kA
    -- left
    refine ⟨_, rfl, S, CS, dx, _, _, rfl, eS3, C.cl, C.nL, sr_left, _, rfl, _, rfl, .inr (.inl ⟨t, _, 1, _, rfl, rfl, ht3, atI_nat (j := 1) rfl, L, k, b, s.left, rfl, left3, Nat.le_trans lf.len (by decide), fun H4 L' k4 n4 l4 => ?_⟩)⟩
    have eS4 := kat k4 eS3
    have eA4 := kat k4 eA3
    refine ⟨_, rfl, S, CS, dx, _, rfl, eS4, C.cl, C.nL, (by show 4 < 1000; decide), ?_⟩
    rw [sr_putL]
    obtain ⟨ts, eL4, pL⟩ := id l4
    have nL'S : L' ≠ S := ne_of eL4 eS4 (by intro z; cases z)
    have kS : Keep (fun b => b = S) H4 (upd H4 S (.ins CS dx (srF Pl L' A .non))) := Keep.put rfl eS4 (by intro z; exact HO.noConfusion) (by intro z w; exact HO.noConfusion)
    have eS5 : upd H4 S (.ins CS dx (srF Pl L' A .non)) S = some (.ins CS dx (srF Pl L' A .non)) := upd_same
    generalize upd H4 S (.ins CS dx (srF Pl L' A .non)) = H5 at kS eS5
    have l5 := l4.mono kS nL'S
    have eL5 : H5 L' = some (.lst ts) := kS.all _ _ eL4 nL'S
    have eA5 : H5 A = some (.lst (ys ++ [.ref u])) := kS.all _ _ eA4 nAS
    have ans5 : AnsAt H5 A (s.answers ++ [(k, b)]) := (ans3.kp k4).mono kS nAS
    have kF5 : Keep (fun b => b = KN ∨ b = S ∨ b = A) H H5 := (kF3.trans k4.to).trans (kS.mono fun _ _ _ f => .inr (.inl f))
    have m5 : MemoAt P w KN H5 := (m3.kp k4).keep nSK.symm kS
    have hL' : H L' = none := Classical.byContradiction fun z => by
      cases e : H L' with
      | none => exact z e
      | some o =>
        by_cases ff : L' = KN ∨ L' = S ∨ L' = A
        · rcases ff with ff | ff | ff
          · obtain ⟨xs, e2, _⟩ := m3
            rw [ff, e2] at n4
            cases n4
          · exact nL'S ff
          · rw [ff, eA3] at n4
            cases n4
        · rw [kF3.all _ _ e ff] at n4
          cases n4
    have lf' := lf.after k b
    have hne := test_ne_nil lf.asc hk3 b
    have hlt := test_sum_lt lf.asc hk3 b
    have pinv := proceed_inv (as := s.answers ++ [(k, b)]) lf' (by rw [List.length_append]; show s.answers.length + 1 + _ ≤ 50; omega)
    have lts : ts.length = (afterAnswer s.left k b).length := pL.length
    generalize s.answers ++ [(k, b)] = as' at ans5 pinv post
    have las : as'.length ≤ 100 := by
      obtain ⟨zs, e1, e2⟩ := ans5
      rw [eA5] at e1
      injection e1 with e1
      injection e1 with e1
      rw [← e2.length, ← e1, List.length_append]
      show ys.length + 1 ≤ 100
      omega
    generalize afterAnswer s.left k b = l' at lf' hne lts l5 pinv post pL
    refine ⟨_, rfl, S, CS, dx, _, _, rfl, eS5, C.cl, C.nL, sr_left, L', ts, rfl, .inl (.of eL5), rfl, _, rfl, ifB (fun h1 => ?_) fun h1 => ?_⟩
    · have h1 : V.int (ts.length : Int) = V.int 1 := of_decide_eq_true h1
      injection h1 with h1
      obtain ⟨c, rfl⟩ : ∃ c, l' = [c] := List.length_eq_one_iff.mp (by omega)
      have ep : proceed [c] as' = ⟨[c], as', none, some (.fulfilled (resultOf c.version as'))⟩ := by
        unfold proceed
        rw [bestTest_short (l := [c]) (Nat.le_refl 1)]
        rfl
      rw [ep] at post pinv
      cases pL with
      | cons fc rest =>
        cases rest
        obtain ⟨c1, rfl, ec⟩ := fc
        have ec5 := kS.tup _ _ ec
        refine ⟨_, rfl, S, CS, dx, _, _, rfl, eS5, C.cl, C.nL, sr_left, .inl ⟨L', _, 0, _, rfl, rfl, .of eL5, atI_nat (j := 0) rfl, .inr (.inl ⟨c1, _, 0, _, rfl, rfl, .of ec5, atI_nat (j := 0) rfl, ?_⟩)⟩⟩
        refine ⟨_, rfl, _, rfl, S, CS, dx, _, _, rfl, eS5, C.cl, C.nA, sr_answers, c.version, A, as', rfl, ans5, Nat.le_trans las (by decide), fun H6 r6 k6 n6 e6 => ⟨r6, rfl, ⟨_, .of e6⟩, fun D hD => ?_⟩⟩
        have lw : (wrongOnes c.version 0 as').length ≤ 100 := by
          rw [wrong_zip]
          refine Nat.le_trans (List.length_filterMap_le _ _) ?_
          rw [List.length_zipIdx]
          exact las
        refine lcA (F := fun _ => False) (cs := wrongOnes c.version 0 as') (Item := fun i x _ => ∃ n, (wrongOnes c.version 0 as')[i]? = some n ∧ x = V.int (n : Nat)) ?_ (fun n => nat n) (fun _ => True) (IsP K) (fun f => f) hD (lenL (by omega)) trivial (fun _ _ _ h => h) (fun _ _ _ _ k r => IsP.mono k _ _ r) (fun i n x H7 Qy hc it k7 _ go => ?_) fun H7 zs k7 _ e7 p7 => ?_
        · have wl := walk_list (F := fun _ => False) (SqL.of (K := K) e6) (fun f => f)
          rw [List.length_map] at wl
          refine ⟨wl.go, wl.stop, fun i x H H' hi k y => ⟨(wl.yld i x H H' hi k y).1, ?_⟩⟩
          have z := (wl.yld i x H H' hi k y).2
          rw [List.getElem?_map] at z
          cases e : (wrongOnes c.version 0 as')[i]? with
          | none => rw [e] at z; cases z
          | some n =>
            rw [e] at z
            exact ⟨n, rfl, (Option.some.inj z).symm⟩
        · obtain ⟨n', hn', rfl⟩ := it
          obtain rfl : n = n' := by
            rw [hc] at hn'
            exact Option.some.inj hn'
          exact ⟨rfl, _, rfl, (n : Int), rfl, fun H8 u8 k8 h8 => go _ _ k8 trivial h8⟩
        · refine ⟨D, zs, _, rfl, e7, isPs_of p7, fun H8 u8 k8 h8 => ?_⟩
          have k58 : Kp H5 H8 := (k6.trans k7).trans k8
          have eS8 := kat k58 eS5
          have eA8 := kat k58 eA5
          refine ⟨_, rfl, S, CS, dx, _, _, rfl, eS8, C.cl, C.nA, sr_answers, A, _, rfl, .inl (.of eA8), ((ys ++ [V.ref u]).length : Int), rfl, fun H9 u9 k9 h9 => ?_⟩
          have elen : (ys ++ [V.ref u]).length = as'.length := by
            obtain ⟨zs, e1, e2⟩ := ans5
            rw [eA5] at e1
            injection e1 with e1
            injection e1 with e1
            rw [e1]
            exact e2.length
          rw [elen] at h9
          -- the record
          refine ⟨_, rfl, (c.version : Int), rfl, fun Ha ua ka ha => ⟨two_le, fun ta nta => ?_⟩⟩
          have kta : Kp Ha (upd Ha ta (.tup [.str "version", ua])) := Keep.new nta
          have eta : upd Ha ta (.tup [.str "version", ua]) ta = some (.tup [.str "version", ua]) := upd_same
          generalize upd Ha ta (.tup [.str "version", ua]) = Hb at kta eta
          refine ⟨_, rfl, two_le, fun tb ntb => ?_⟩
          have ktb : Kp Hb (upd Hb tb (.tup [.str "tests", u9])) := Keep.new ntb
          have etb : upd Hb tb (.tup [.str "tests", u9]) tb = some (.tup [.str "tests", u9]) := upd_same
          generalize upd Hb tb (.tup [.str "tests", u9]) = Hc at ktb etb
          refine ⟨_, rfl, two_le, fun tc ntc => ⟨three_le, fun lr nlr => ?_⟩⟩
          have ktc : Kp Hc (upd Hc tc (.tup [.str "wrong", u8])) := Keep.new ntc
          have etc : upd Hc tc (.tup [.str "wrong", u8]) tc = some (.tup [.str "wrong", u8]) := upd_same
          generalize upd Hc tc (.tup [.str "wrong", u8]) = Hd at ktc etc nlr
          have klr : Kp Hd (upd Hd lr (.lst [.ref ta, .ref tb, .ref tc])) := Keep.new nlr
          have elr : upd Hd lr (.lst [.ref ta, .ref tb, .ref tc]) lr = some (.lst [.ref ta, .ref tb, .ref tc]) := upd_same
          generalize upd Hd lr (.lst [.ref ta, .ref tb, .ref tc]) = He at klr elr
          have kbe : Kp Hb He := (ktb.trans ktc).trans klr
          have kce : Kp Hc He := ktc.trans klr
          have k9e : Kp H9 He := (ka.trans kta).trans kbe
          refine ⟨lr, _, [(R7286g.Spec.units "version", nat c.version), (R7286g.Spec.units "tests", nat as'.length), (R7286g.Spec.units "wrong", .arr ((wrongOnes c.version 0 as').map nat))], rfl, elr, ?_, (by show 3 ≤ 1000; decide), fun Hf uf kf hf => ?_⟩
          · refine .cons ⟨ta, "version", ua, rfl, kbe.tup _ _ eta, m_version.asc, m_version.len, m_version.eq, IsP.mono (kta.trans kbe) _ _ ha⟩ (.cons ⟨tb, "tests", u9, rfl, kce.tup _ _ etb, m_tests.asc, m_tests.len, m_tests.eq, IsP.mono k9e _ _ h9⟩ (.cons ⟨tc, "wrong", u8, rfl, klr.tup _ _ etc, m_wrong.asc, m_wrong.len, m_wrong.eq, IsP.mono (k9.trans k9e) _ _ h8⟩ .nil))
          -- the outcome
          refine ⟨"fulfilled", _, rfl, m_fulfilled.asc, m_fulfilled.len, m_fulfilled.eq, fun Hg ug kg hg => ⟨_, rfl, two_le, fun q nq => ?_⟩⟩
          have kq : Kp Hg (upd Hg q (.lst [ug, uf])) := Keep.new nq
          refine ⟨q, _, [.str (R7286g.Spec.units "fulfilled"), resultOf c.version as'], rfl, upd_same, ⟨IsP.mono kq _ _ hg, IsP.mono (kg.trans kq) _ _ hf, trivial⟩, fun Hh uh kh hh => ?_⟩
          have k5h : Kp H5 Hh := ((k58.trans (k9.trans k9e)).trans kf).trans ((kg.trans kq).trans kh)
          refine ⟨_, rfl, S, CS, dx, _, rfl, kat k5h eS5, C.cl, C.nO, (by show 4 < 1000; decide), ?_⟩
          have z := sr_close (o := .fulfilled (resultOf c.version as')) (s' := ⟨[c], as', none, some (.fulfilled (resultOf c.version as'))⟩) (kat k5h eS5) ⟨_, kat k5h eA5⟩ ⟨_, kat k5h eL5⟩ hh rfl pinv
          exact post _ L' ((kF5.trans k5h.to).trans (z.1.mono fun _ _ _ f => .inr (.inl f))) ((m5.kp k5h).keep nSK.symm z.1) z.2 (.inr hL')
    · have h1 : ¬ V.int (ts.length : Int) = V.int 1 := of_decide_eq_false h1
      have hl2 : 2 ≤ l'.length := by
        have : l'.length ≠ 0 := fun z => hne (List.length_eq_zero_iff.mp z)
        have : ts.length ≠ 1 := fun z => h1 (by rw [z]; rfl)
        omega
      have ep : proceed l' as' = ⟨l', as', bestTest l', none⟩ := by
        unfold proceed
        cases e : bestTest l' with
        | none => have := bestTest_none lf'.asc e; omega
        | some k => rfl
      rw [ep] at post pinv
      exact post H5 L' kF5 m5 ⟨⟨dx, .non, eS5, rfl⟩, fun _ => l5, fun _ => ans5, ⟨_, eA5⟩, ⟨_, eL5⟩, pinv⟩ (.inr hL')
  · have nb : ∀ b, p ≠ .bool b := fun b z => hb ⟨b, z⟩
    rw [receive_bad hq nb] at post
    obtain ⟨t, r, rfl, ht⟩ := isP_tag hv1
    refine ⟨_, rfl, .inr (.inl ⟨t, _, 0, _, rfl, rfl, ht, atI_nat (j := 0) rfl, rfl, _, rfl, ifT (ifNeStr (tag_ne_bool hv1 nb)) ?_⟩)⟩
    have lb := len_bad hk10
    have mb := msg_bad hk10
    refine ⟨_, rfl, (k : Int), rfl, lb.2.2, _, _, rfl, rfl, lenL (Nat.le_trans lb.1 (by decide)), _, _, rfl, rfl, lenL (Nat.le_trans lb.2.1 (by decide)), ?_⟩
    refine ⟨"rejected", _, rfl, m_rejected.asc, m_rejected.len, m_rejected.eq, fun H2 u2 k2 h2 => ⟨"TypeError", _, rfl, m_TypeError.asc, m_TypeError.len, m_TypeError.eq, fun H3 u3 k3 h3 => ⟨_, rfl, _, _, rfl, mb.asc, mb.len, mb.eq, fun H4 u4 k4 h4 => ⟨three_le, fun q nq => ?_⟩⟩⟩⟩
    have kq : Kp H4 (upd H4 q (.lst [u2, u3, u4])) := Keep.new nq
    refine ⟨q, _, [.str (R7286g.Spec.units "rejected"), .str (R7286g.Spec.units "TypeError"), .str (badReply k).msg], rfl, upd_same, ⟨IsP.mono ((k3.trans k4).trans kq) _ _ h2, IsP.mono (k4.trans kq) _ _ h3, IsP.mono kq _ _ h4, trivial⟩, fun H5 u5 k5 h5 => ?_⟩
    have kk : Kp H1 H5 := (k2.trans k3).trans ((k4.trans kq).trans k5)
    refine ⟨_, rfl, S, CS, dx, _, rfl, kat kk eS1, C.cl, C.nO, (by show 4 < 1000; decide), ?_⟩
    have z := sr_settle (o := .error (badReply k)) sr1 kk eS1 h5
    exact post _ L (kF1.trans (z.1.mono fun _ _ _ f => .inr (.inl f))) (m1.keep nSK.symm z.1) z.2 (.inl rfl)
end
end Fs

/-! rejected, to which the refusal is handed. -/
namespace Fs
open PySem PySem.Spec PyProof.Rows L2 L2H
open R7286g.Spec (Plain Units Candidate Search outcomePlain Err)
section
variable {P : Program} {w : World} {K : PySem.W.Frag} {mg : Str → Option Value} {base : Heap} {CP CS CR : Addr}
/-- what a search that was just made looks like: its objects are new -/
structure SrNew (K : PySem.W.Frag) (CS : Addr) (H H' : Hp) (S A L Pl : Addr) (s : Search) : Prop where
  at_ : SrAt K CS H' S A L Pl s
  nS : H S = none
  nA : H A = none
  nL : H L = none
  aL : A ≠ L
theorem SrNew.back {H0 H H' : Hp} {S A L Pl : Addr} {s : Search} (h : SrNew K CS H H' S A L Pl s) (k : Kp H0 H) : SrNew K CS H0 H' S A L Pl s :=
  ⟨h.at_, Kp.free k h.nS, Kp.free k h.nA, Kp.free k h.nL, h.aL⟩
theorem made_kp {H H1 : Hp} {x dx : Addr} {C : Addr} {o1 o2 : HO} (h1 : H x = none) (h2 : H dx = none) (ne : dx ≠ x) (k : Keep (fun b => b = x) (upd (upd H dx o1) x o2) H1) : Kp H H1 := by
  have k0 : Kp H (upd (upd H dx o1) x o2) := (Keep.new h2).snoc (by rw [upd_ne ne.symm]; exact h1)
  exact k0.away h1 k
theorem made_none {H : Hp} {x dx b : Addr} {o1 o2 : HO} (h : (upd (upd H dx o1) x o2) b = none) : H b = none := by
  by_cases e : b = x
  · rw [e, upd_same] at h
    cases h
  · rw [upd_ne e] at h
    by_cases e2 : b = dx
    · rw [e2, upd_same] at h
      cases h
    · rw [upd_ne e2] at h
      exact h
def spRejR (K : PySem.W.Frag) (CS CR a : Addr) (cls : Value) (d : Option Addr) (fo : Prop) : Sp := fun vs H Q _ => ∃ (Pl dd : Addr) (e : Err) (m : Str), vs = [.ref Pl, .ref a] ∧ cls = .ref CR ∧ d = some dd ∧ fo ∧ XdAt H dd (Rust.classOf e.cls) m ∧ MsgOk m e.msg ∧
  ∀ H' S A L, Kp H H' → SrNew K CS H H' S A L Pl (R7286g.Spec.rejected e) → Q (.ref S) H'
abbrev spRej (K : PySem.W.Frag) (CS CR : Addr) : Addr × Obj → Sp := fun p => spRejR K CS CR p.1 p.2.cls p.2.dict (∃ vs, p.2.data = .fields vs)
theorem b_rejected {aN aU aA : Addr} (T : Ct K mg aN aU aA) (R : RfB K mg CR) (c_textH : CalH P w K mg base 2 "text" (spText K)) (c_rowH : CalH P w K mg base 1 "row" (spRow K)) (c_Search_newH : MakH P w K mg base 2 "Search" CS (spSrNone CS)) :
    BdP P w K mg base N_rejected "rejected" s_rejected 3 (spRej K CS CR) := by
  rintro f cdv A0 outer s0 H vs Q E ⟨a, oe⟩ hot hr ⟨Pl, dd, e, m, rfl, hcls, hdict, hf, ⟨fs, ed, lk, lm⟩, mo, post⟩
  have hc : HotC (cxH L2.CX0 P w K mg base N_rejected "rejected" (defScope s_rejected) f cdv A0 outer s0 H E (a, oe)).nox := ⟨(a, oe), hot, List.mem_singleton.mpr rfl⟩
  refine ⟨_, pss_cons (ps_set (i := 2) sc_rejected.nd rfl (Or.inl rfl) (pe_ifExp (pt_cmpR op_eq (pe_xp R.c.xf (by exact R.nK) (List.mem_singleton.mpr rfl) (by exact hcls) (by exact hdict) hf (pv 1)) (C8.pe_gc (by rfl) T.k_WRONG_KIND_desk) (nomark _)) (pe_str) (pe_str)))
    (pss_one (ps_ret (pe_kH c_Search_newH hr (by omega) hc (by rfl) (pa_cons (pv 0) (pa_cons (pe_non) (pa_cons (pe_cH c_rowH hr (by omega) hc (by rfl) (pa_cons (pe_lst (pa_cons (pe_cH c_textH hr (by omega) hc (by rfl) (pa_cons (pe_str) pa_nil)) (pa_cons (pe_cH c_textH hr (by omega) hc (by rfl) (pa_cons (pv 2) pa_nil)) (pa_cons (pe_cH c_textH hr (by omega) hc (by rfl) (pa_cons (pe_xp R.c.xf (by exact R.nM) (List.mem_singleton.mpr rfl) (by exact hcls) (by exact hdict) hf (pv 1)) pa_nil)) pa_nil)))) pa_nil)) pa_nil)))))), ?_⟩
  have done : ∀ (wd : Str) (u : Units), MsgOk wd u → (.str u : Plain) = R7286g.Spec.text (R7286g.Spec.className e.cls) → True := fun _ _ _ _ => trivial
  have fin : ∀ (wd : Str), MsgOk wd (R7286g.Spec.units (R7286g.Spec.className e.cls)) → tRet (tMk CS (spSrNone CS) (tCons (tVar 0) (tCons (tC .non) (tCons (tCl (spRow K) E0 (tCons (tLst (tCons (tCl (spText K) E0 (tCons (tC (.str "rejected")) tNil)) (tCons (tCl (spText K) E0 (tCons (tVar 2) tNil)) (tCons (tCl (spText K) E0 (tCons (tXp a dd "message" (tVar 1)) tNil)) tNil)))) tNil)) tNil)))) { nx := fun _ H' => Q .non H', rt := Q } [some (.ref Pl), some (.ref a), some (.str wd)] H := fun wd mw => by
    refine ⟨_, rfl, "rejected", _, rfl, m_rejected.asc, m_rejected.len, m_rejected.eq, fun H1 u1 k1 h1 => ⟨_, rfl, wd, _, rfl, mw.asc, mw.len, mw.eq, fun H2 u2 k2 h2 => ?_⟩⟩
    have ed2 : H2 dd = some (.xd fs) := kat (k1.trans k2) ed
    refine ⟨_, rfl, rfl, fs, _, ed2, lm, m, _, rfl, mo.asc, mo.len, mo.eq, fun H3 u3 k3 h3 => ⟨three_le, fun q nq => ?_⟩⟩
    have kq : Kp H3 (upd H3 q (.lst [u1, u2, u3])) := Keep.new nq
    refine ⟨q, _, [.str (R7286g.Spec.units "rejected"), .str (R7286g.Spec.units (R7286g.Spec.className e.cls)), .str e.msg], rfl, upd_same, ⟨IsP.mono ((k2.trans k3).trans kq) _ _ h1, IsP.mono (k3.trans kq) _ _ h2, IsP.mono kq _ _ h3, trivial⟩, fun H4 u4 k4 h4 => ?_⟩
    have k04 : Kp H H4 := ((k1.trans k2).trans k3).trans (kq.trans k4)
    intro x dx nx ndx ne
    refine ⟨x, dx, Pl, u4, rfl, upd_same, fun H5 L A k5 nL nA nLA e5 l5 a5 => ⟨rfl, ?_⟩⟩
    have k45 : Kp H4 H5 := made_kp (C := CS) nx ndx ne k5
    obtain ⟨ys, eA5, _⟩ := id a5
    obtain ⟨zs, eL5, _⟩ := id l5
    refine post H5 x A L (k04.trans k45) ⟨⟨⟨dx, u4, e5, IsP.mono k45 _ _ h4⟩, (fun q => by cases q), (fun q => by cases q), ⟨_, eA5⟩, ⟨_, eL5⟩, ⟨(fun q => by cases q), fun _ => rfl⟩⟩, Kp.free k04 nx, Kp.free k04 (made_none nA), Kp.free k04 (made_none nL), nLA.symm⟩
  refine ⟨_, rfl, rfl, fs, _, ed, lk, rfl, _, rfl, ?_⟩
  cases ec : e.cls with
  | typeError =>
    rw [ec] at fin
    refine ifT (by rfl) ?_
    exact fin _ m_TypeError
  | rangeError =>
    rw [ec] at fin
    refine ifF (by rfl) ?_
    exact fin _ m_RangeError
end
end Fs

/-! The desk: its state; begun. -/
namespace Fs
open PySem PySem.Spec PyProof.Rows L2 L2H
open R7286g.Spec (Plain Units Candidate Search outcomePlain Err Reply replyOf repliesOf begun begunWithValue proceed startOf gameArg listOf)
theorem takesN {X : Cx} : L2N.Takes X (fun _ _ _ _ => False) := fun _ _ x => by
  obtain ⟨_, _, _, _, _, _, _, _, _, _, _, _, _, _, _, _, z⟩ := x
  exact z.elim
def tXd (C : Addr) (cls : Value) (d : Option Addr) (t : Addr → TS) : TS := fun D σ H => cls = .ref C ∧ ∃ dd, d = some dd ∧ t dd D σ H
theorem pss_xd {X : Cx} {C : Addr} {cls : Value} {d : Option Addr} {t : Addr → TS} {sts : List Stmt} (h : ∀ dd, cls = .ref C → d = some dd → PSs X sts (t dd)) : PSs X sts (tXd C cls d t) :=
  ⟨fun pins s σ H D I ⟨h1, dd, h2, q⟩ => (h dd h1 h2).run pins s σ H D I q⟩
theorem pe_spc {X : Cx} {e : Expr} {sp sp' : Sp} {E : XK} {t : TA} (h : sp = sp') (p : PE X e (tCl sp E t)) : PE X e (tCl sp' E t) := by
  rw [← h]
  exact p
theorem hot1_suite {X : Cx} {a : Addr} {oe : Obj} {cls : Value} {d : Option Addr} {pn : List (Addr × Obj)} (hz : L2N.Zn cls d oe) (hf : ∃ vs, oe.data = .fields vs) : Hot1 (X.suite a ((a, oe) :: pn)).A (a, oe) := by
  obtain ⟨vs, hd⟩ := hf
  exact ⟨rfl, vs, hd, hz.2.2 vs hd⟩
section
variable {P : Program} {w : World} {K : PySem.W.Frag} {mg : Str → Option Value} {base : Heap} {CP CS CD CR : Addr}
theorem rej_cast {a dd : Addr} {oe : Obj} {cls : Value} {d : Option Addr} (hz : L2N.Zn cls d oe) (hf : ∃ vs, oe.data = .fields vs) (hcl : cls = .ref CR) (hd : d = some dd) : spRej K CS CR (a, oe) = spRejR K CS CR a (.ref CR) (some dd) True := by
  show spRejR K CS CR a oe.cls oe.dict (∃ vs, oe.data = .fields vs) = _
  rw [hz.1, hz.2.1, hcl, hd, eq_true hf]
/-- the class Desk -/
structure DkC (K : PySem.W.Frag) (C : Addr) : Prop where
  cl : Cls K C
  nP : NoAttr K C "planner"
  nS : NoAttr K C "searches"
abbrev dkF (Pl SD : Addr) : List (Str × V) := [("planner", .ref Pl), ("searches", .ref SD)]
theorem dk_planner {Pl SD : Addr} : (dkF Pl SD).lookup ("planner" : Str) = some (.ref Pl) := lkA
theorem dk_searches {Pl SD : Addr} : (dkF Pl SD).lookup ("searches" : Str) = some (.ref SD) := (lkB (by decide +kernel)).trans lkA
theorem dk_none {Pl SD : Addr} {m : Str} (h1 : (m == ("planner" : Str)) = false) (h2 : (m == ("searches" : Str)) = false) : (dkF Pl SD).lookup m = none := (lkB h1).trans ((lkB h2).trans rfl)
theorem dk_new {Pl SD : Addr} : putF "searches" (.ref SD) (putF "planner" (.ref Pl) []) = dkF Pl SD := (putB (by decide +kernel)).trans rfl
/-! ### begun, the plain part -/
def rstep (s : Search) (r : Reply) : Search := if s.outcome.isSome then s else s.receive r
theorem fold_some : ∀ (rs : List Reply) {s : Search}, s.outcome.isSome = true → rs.foldl rstep s = s
  | [], s, h => rfl
  | r :: rs, s, h => by
    rw [List.foldl_cons, rstep, if_pos h]
    exact fold_some rs h
theorem run_fold : ∀ (rs : List Reply) (s : Search), s.run rs = rs.foldl rstep s
  | [], s => rfl
  | r :: rs, s => by
    rw [Search.run, List.foldl_cons]
    by_cases h : s.outcome.isSome = true
    · rw [if_pos h, rstep, if_pos h, fold_some rs h]
    · rw [if_neg h, rstep, if_neg h, run_fold rs]
def begunOf (door : Nat) (x y z u : Plain) : Search := if door = 9 then begun x y z else if door = 10 then (begun x y z).run (repliesOf u) else begunWithValue x y z
def spBegun (P : Program) (w : World) (K : PySem.W.Frag) (CP CS CD : Addr) : Sp := fun vs H Q _ => ∃ (Dk Pl KN SD own : Addr) (door : Nat) (dx : Addr) (v0 v1 v2 v3 : V) (r : List V) (x y z u : Plain), vs = [.ref Dk, .int door, .ref own] ∧ H Dk = some (.ins CD dx (dkF Pl SD)) ∧ PlAt CP H Pl KN ∧ MemoAt P w KN H ∧
  H own = some (.lst (v0 :: v1 :: v2 :: v3 :: r)) ∧ IsP K H v1 x ∧ IsP K H v2 y ∧ IsP K H v3 z ∧ (door = 9 ∨ (door = 10 ∧ (∃ v4 r', r = v4 :: r' ∧ IsP K H v4 u ∧ R7286g.Spec.isList u = true)) ∨ door = 11) ∧
  ∀ H' S A L, Keep (fun b => b = KN) H H' → MemoAt P w KN H' → SrNew K CS H H' S A L Pl (begunOf door x y z u) → Q (.ref S) H'
theorem begun_ok {x y z : Plain} {n p q : Nat} (h : settingR x y z = .ok (n, p, q)) : begun x y z = proceed (startOf n p q) [] ∧ begunWithValue x y z = R7286g.Spec.rejected (R7286g.Spec.wrong "test must be a function") := by
  unfold begun begunWithValue
  rw [game_setting, h]
  exact ⟨rfl, rfl⟩
theorem begun_err {x y z : Plain} {e : Err} (h : settingR x y z = .error e) : begun x y z = R7286g.Spec.rejected e ∧ begunWithValue x y z = R7286g.Spec.rejected e := by
  unfold begun begunWithValue
  rw [game_setting, h]
  exact ⟨rfl, rfl⟩
theorem begunOf_err {x y z u : Plain} {e : Err} {door : Nat} (h : settingR x y z = .error e) : begunOf door x y z u = R7286g.Spec.rejected e := by
  unfold begunOf
  rw [(begun_err h).1, (begun_err h).2]
  split
  · rfl
  · split
    · rw [run_fold]
      exact fold_some _ rfl
    · rfl
theorem cut_13 (v0 v1 v2 v3 : V) (r : List V) : cutV (v0 :: v1 :: v2 :: v3 :: r) (some 1) (some 4) = [v1, v2, v3] := by
  have h := cut_mid (v0 :: v1 :: v2 :: v3 :: r) 1 3 (by simp only [List.length_cons]; omega)
  exact h
/-- a search within begun: its objects are new to H; H1 is the heap behind its making -/
structure SrIn (P : Program) (w : World) (K : PySem.W.Frag) (CS KN Pl : Addr) (H H' : Hp) (S A L : Addr) (s : Search) : Prop where
  nw : SrNew K CS H H' S A L Pl s
  k : Keep (fun b => b = KN) H H'
  m : MemoAt P w KN H'
theorem SrIn.step {KN Pl : Addr} {H H1 H2 : Hp} {S A L L' : Addr} {s s' : Search} (h : SrIn P w K CS KN Pl H H1 S A L s) (k : Keep (fun b => b = KN ∨ b = S ∨ b = A) H1 H2) (m : MemoAt P w KN H2) (sr : SrAt K CS H2 S A L' Pl s') (hL : L' = L ∨ H1 L' = none) : SrIn P w K CS KN Pl H H2 S A L' s' := by
  have k2 : Keep (fun b => b = KN) H H2 := h.k.off k fun b g n => by
    rcases g with g | g | g
    · exact g
    · rw [g] at n; exact absurd h.nw.nS n
    · rw [g] at n; exact absurd h.nw.nA n
  obtain ⟨xs, eA⟩ := h.nw.at_.al
  refine ⟨⟨sr, h.nw.nS, h.nw.nA, ?_, ?_⟩, k2, m⟩
  · rcases hL with rfl | hL
    · exact h.nw.nL
    · refine Keep.free h.k hL fun z => ?_
      obtain ⟨ys, e, _⟩ := h.m
      rw [z, e] at hL
      cases hL
  · rcases hL with rfl | hL
    · exact h.nw.aL
    · exact ne_of_none eA hL
end
end Fs

/-! begun. -/
namespace Fs
open PySem PySem.Spec PyProof.Rows L2 L2H
open R7286g.Spec (Plain Units Candidate Search outcomePlain Err Reply replyOf repliesOf begun begunWithValue proceed startOf gameArg listOf sumOf)
section
variable {P : Program} {w : World} {K : PySem.W.Frag} {mg : Str → Option Value} {base : Heap} {CP CS CD CR : Addr}
def isNull (p : Plain) : Bool := match p with
  | .null => true
  | _ => false
theorem eqTag_null {r : List V} {p : Plain} (nb : ∀ i, p ≠ .big i) (hz : (p = .null → r = [])) : (decide (tagOf p = ("null" : Str)) && r.isEmpty) = isNull p := by
  have ne : ∀ a : Str, (a == ("null" : Str)) = false → decide (a = ("null" : Str)) = false := fun a h => decide_eq_false fun z => by
    rw [z] at h
    exact absurd h (by decide +kernel)
  have fin : ∀ a : Str, (a == ("null" : Str)) = false → tagOf p = a → isNull p = false → (decide (tagOf p = ("null" : Str)) && r.isEmpty) = isNull p := fun a h e q => by
    rw [e, ne a h, q]
    rfl
  cases p with
  | null => rw [hz rfl]; decide +kernel
  | undef => exact fin "nothing" (by decide +kernel) rfl rfl
  | bool b => exact fin "boolean" (by decide +kernel) rfl rfl
  | num x => exact fin "integer" (by decide +kernel) rfl rfl
  | str u => exact fin "text" (by decide +kernel) rfl rfl
  | arr xs => exact fin "list" (by decide +kernel) rfl rfl
  | obj fs => exact fin "record" (by decide +kernel) rfl rfl
  | big i => exact absurd rfl (nb i)
theorem isP_tag2 {H : Hp} {v : V} {p : Plain} (h : IsP K H v p) : ∃ t r, v = .ref t ∧ SqT K H t (.str (tagOf p) :: r) ∧ (p = .null → r = []) := by
  by_cases e : p = .null
  · subst e
    obtain ⟨t, e, h⟩ := h
    exact ⟨t, [], e, h, fun _ => rfl⟩
  · obtain ⟨t, r, h1, h2⟩ := isP_tag h
    exact ⟨t, r, h1, h2, fun z => absurd z e⟩
theorem reply_null {p : Plain} (h : isNull p = true) : replyOf p = .failed (.str (R7286g.Spec.units "stop")) := by
  cases p with
  | null => rfl
  | _ => cases h
theorem reply_other {p : Plain} (h : isNull p = false) : replyOf p = .value p := by
  cases p with
  | null => cases h
  | _ => rfl
theorem b_Desk_begun (B : Bt mg) {aN aU aA : Addr} (T : Ct K mg aN aU aA) (R : RfB K mg CR) (eR : PySem.W.exmOne K (.ref CR) (.ref CR) = some true) (C : DkC K CD) (Cs : SrC K CS) (c_setting_of : CalX P w K mg base 4 "setting_of" (spSetting K CR)) (c_need_kind : CalX P w K mg base 3 "need_kind" (spNeed CR 1))
    (c_Search_new : Mak P w K mg base 2 "Search" CS (spSrNew K CS)) (c_Search_fail : Met P w K mg base 3 CS "fail" (spFail K CS)) (c_Search_take : Met P w K mg base 107 CS "take" (spTakeS P w K CP CS)) (c_text : Cal P w K mg base 2 "text" (spText K)) (c_rejected : CalP P w K mg base 4 "rejected" (spRej K CS CR)) :
    Bd P w K mg base N_Desk_begun "Desk.begun" s_Desk_begun 107 (spBegun P w K CP CS CD) := by
  rintro f cdv A0 outer s0 H vs Q E hr ⟨Dk, Pl, KN, SD, own, door, dx, v0, v1, v2, v3, r, x, y, z, u, rfl, eD, pl, mm, eO, h1, h2, h3, hdoor, post⟩
  refine ⟨_, pss_cons (L2N.ps_try_as (i := 4) (tb := fun W => tSeq (tAsg (tClS (spSetting K CR) (WE W) (tCons (tSl (rSlL K) (tVar 2) (tPart (tC (.int 1))) (tPart (tC (.int 4)))) tNil)) (gName 3)) (tDrop (tClS (spNeed CR 1) (WE W) (tCons (tOp rNe (tVar 1) (tC (.int 11))) (tCons (tC (.str "test must be a function")) tNil))))) (ts := fun a cls d => tXd CR cls d fun dd => tRet (tCl (spRejR K CS CR a (.ref CR) (some dd) True) E0 (tCons (tFld K (tVar 0) "planner") (tCons (tVar 4) tNil)))) (Wout := fun _ _ _ _ => False) rfl rfl sc_Desk_begun.nd rfl rfl ⟨rfl, by decide, Or.inl R.gC⟩ takesN (fun W pn xe tk _ => by exact (pss_cons (ps_set (i := 3) sc_Desk_begun.nd rfl (Or.inl rfl) (pe_cT c_setting_of hr (by omega) (by rfl) tk (pa_cons (pe_slice sl_list (pv 2) (po_some (pe_int)) (po_some (pe_int))) pa_nil)))
    (pss_one (ps_expr (pe_cT c_need_kind hr (by omega) (by rfl) tk (pa_cons (pe_cmpR op_ne (pv 1) (pe_int) (nomark _)) (pa_cons (pe_str) pa_nil))))))) (fun a oe cls d pn hz hf => pss_xd fun dd hcl hd => by exact (pss_one (ps_ret (pe_spc (rej_cast hz hf hcl hd) (pe_cP c_rejected (roomH_mark hr _) (by omega) (hot1_suite hz hf) (List.mem_cons_self ..) (by rfl) (by exact (pa_cons (pe_fld (pv 0) rfl) (pa_cons (pv 4) pa_nil)))))))))
    (pss_cons (ps_set (i := 5) sc_Desk_begun.nd rfl (Or.inl rfl) (pe_k c_Search_new hr (by omega) (by rfl) (pa_cons (pe_fld (pv 0) rfl) (pa_cons (pv 3) (pa_cons (pe_non) pa_nil)))))
    (C8.pss_cut (ps_for PassesOwn.never rfl (pi_seq (pe_ifExp (pt_cmpR op_eq (pv 1) (pe_int) (nomark _)) (pe_ix ix_seq (pe_ix ix_seq (pv 2) (pe_int) (fun _ _ => rfl)) (pe_int) (fun _ _ => rfl)) (pe_lst pa_nil))) (pg_name (i := 6) sc_Desk_begun.nd rfl (Or.inl rfl)) (pss_one (ps_if ((pw_and (pt_cmpR op_isN (pe_fld (pv 5) rfl) (pe_non) (nomark _)) (pw_and1 (pt_cmpR (op_eqTag hr) (pv 6) (C8.pe_gc (by rfl) T.k_NULL) (nomark _)))).pt) (pss_one (ps_expr (pe_m c_Search_fail hr (by omega) (pv 5) (by exact (pa_cons (pe_c c_text hr (by omega) (by rfl) (pa_cons (pe_str) pa_nil)) pa_nil))))) (pss_one (ps_if (pt_cmpR op_isN (pe_fld (pv 5) rfl) (pe_non) (nomark _)) (pss_one (ps_expr (pe_m c_Search_take hr (by omega) (pv 5) (by exact (pa_cons (pv 6) pa_nil))))) pss_nil)))))
    (pss_cons (ps_if ((pw_and (pt_cmpR op_eq (pv 1) (pe_int) (nomark _)) (pw_and1 (pt_cmpR op_isN (pe_fld (pv 5) rfl) (pe_non) (nomark _)))).pt) (pss_one (ps_expr (pe_m c_Search_take hr (by omega) (pv 5) (by exact (pa_cons (C8.pe_gc (by rfl) T.k_NOTHING) pa_nil))))) pss_nil)
    (pss_one (ps_ret (pv 5)))))), ?_⟩
  -- the suite
  have suite : ∀ (H1 : Hp) (v3 : Option V) (e : Err) (d a : Addr) (m : Str), Kp H H1 → XdAt H1 d (Rust.classOf e.cls) m → MsgOk m e.msg → begunOf door x y z u = R7286g.Spec.rejected e →
      tRet (tCl (spRejR K CS CR a (.ref CR) (some d) True) E0 (tCons (tFld K (tVar 0) "planner") (tCons (tVar 4) tNil))) { nx := fun _ _ => False, rt := Q } [some (.ref Dk), some (.int door), some (.ref own), v3, some (.ref a), none, none] H1 := fun H1 v3 e d a m k hx mo hb => by
    refine ⟨_, rfl, Dk, CD, dx, _, _, rfl, kat k eD, C.cl, C.nP, dk_planner, _, rfl, Pl, d, e, m, rfl, rfl, rfl, trivial, hx, mo, fun H' S A L k' sn => ?_⟩
    rw [← hb] at sn
    exact post H' S A L (Kp.to (k.trans k')) (mm.kp (k.trans k')) (sn.back k)
  refine ⟨_, rfl, 1, rfl, 4, rfl, own, _, rfl, .of eO, fun g hg => ?_⟩
  rw [cut_13]
  have kg : Kp H (upd H g (.lst [v1, v2, v3])) := Keep.new hg
  refine ⟨g, v1, v2, v3, [], x, y, z, rfl, upd_same, IsP.mono kg _ _ h1, IsP.mono kg _ _ h2, IsP.mono kg _ _ h3, fun n p q es hn1 hn2 hp hq H2 t k2 et => ?_, fun e es d H' m k _ hx mo => ?_⟩
  rotate_left
  · exact ⟨true, eR, fun _ a na => ⟨rfl, d, rfl, suite H' none e d a m (kg.trans k) hx mo (begunOf_err es)⟩, fun q => nomatch q⟩
  have k02 : Kp H H2 := kg.trans k2
  refine ⟨_, rfl, rfl, _, _, rfl, fun hd => ?_, fun hd d H' k hx => ?_⟩
  rotate_left
  · have hd : (!decide (V.int (door : Int) = V.int 11)) = false := hd
    have hd11 : door = 11 := by
      have : V.int (door : Int) = V.int 11 := by simpa using hd
      injection this with this
      omega
    refine ⟨true, eR, fun _ a na => ⟨rfl, d, rfl, suite H' (some (.ref t)) (R7286g.Spec.wrong "test must be a function") d a _ (k02.trans k) hx msg_function ?_⟩, fun q => nomatch q⟩
    unfold begunOf
    rw [if_neg (by omega), if_neg (by omega)]
    exact (begun_ok es).2
  have hd : (!decide (V.int (door : Int) = V.int 11)) = true := hd
  have hd11 : door ≠ 11 := fun z => by
    rw [z] at hd
    exact absurd hd (by decide)
  -- the search
  refine ⟨_, rfl, Dk, CD, dx, _, _, rfl, kat k02 eD, C.cl, C.nP, dk_planner, _, rfl, ?_⟩
  intro S ds nS nds nds'
  have kmk : Kp H2 (upd (upd H2 ds (.own S)) S (.ins CS ds [])) := (Keep.new nds).snoc (by rw [upd_ne nds'.symm]; exact nS)
  refine ⟨S, ds, Pl, .ref t, .non, startOf n p q, rfl, upd_same, .inr ⟨t, n, p, q, rfl, .of (kmk.tup _ _ et), by omega, rfl⟩, fun H3 L A k3 nL nA nLA e3 l3 a3 => ⟨rfl, ?_⟩⟩
  have k23 : Kp H2 H3 := made_kp (C := CS) nS nds nds' k3
  have k03 : Kp H H3 := k02.trans k23
  have lf := Lf.start (n := n) (p := p) (q := q) hn2 hp hq
  have hlen : 2 ≤ (startOf n p q).length := by
    rw [R7286g.Spec.startOf, List.length_map, List.length_range]
    exact hn1
  have ep : proceed (startOf n p q) [] = ⟨startOf n p q, [], R7286g.Spec.bestTest (startOf n p q), none⟩ := by
    unfold proceed
    cases e : R7286g.Spec.bestTest (startOf n p q) with
    | none => have := bestTest_none lf.asc e; omega
    | some k => rfl
  have pinv := proceed_inv (as := []) lf (by have := lf.sum; show 0 + _ ≤ 50; omega)
  have bo := begun_ok es
  obtain ⟨s1, hs1⟩ : ∃ s1, proceed (startOf n p q) [] = s1 := ⟨_, rfl⟩
  have in3 : SrIn P w K CS KN Pl H H3 S A L s1 := by
    obtain ⟨ysA, eA, _⟩ := id a3
    obtain ⟨ysL, eL, _⟩ := id l3
    refine ⟨⟨⟨⟨ds, .non, e3, ?_⟩, fun _ => ?_, fun _ => ?_, ⟨_, eA⟩, ⟨_, eL⟩, ?_⟩, Kp.free k02 nS, Kp.free k02 (made_none nA), Kp.free k02 (made_none nL), nLA.symm⟩, k03.to, mm.kp k03⟩
    · rw [← hs1, ep]
      rfl
    · rw [← hs1, ep]
      exact l3
    · rw [← hs1, ep]
      exact a3
    · rw [← hs1]
      exact pinv
  rw [hs1] at bo
  -- the replies
  refine ⟨fun σ' H' => ∃ (L' : Addr) (v6 : Option V), σ' = [some (.ref Dk), some (.int door), some (.ref own), some (.ref t), none, some (.ref S), v6] ∧ SrIn P w K CS KN Pl H H' S A L' (if door = 10 then ((listOf u).map replyOf).foldl rstep s1 else s1), ?_, ?_⟩
  · by_cases h10 : door = 10
    · rw [if_pos h10]
      obtain ⟨v4, r', rfl, hu, hul⟩ : ∃ v4 r', r = v4 :: r' ∧ IsP K H v4 u ∧ R7286g.Spec.isList u = true := by
        rcases hdoor with hh | ⟨_, hh⟩ | hh
        · omega
        · exact hh
        · omega
      obtain ⟨us, rfl⟩ : ∃ us, u = .arr us := by
        cases u with
        | arr us => exact ⟨us, rfl⟩
        | _ => cases hul
      obtain ⟨tu, au, ws, rfl, htu, hau, hus⟩ := isP_arr (IsP.mono k03 _ _ hu)
      have elist : listOf (.arr us) = us := rfl
      rw [elist]
      refine ⟨_, rfl, rfl, _, rfl, ifT (decide_eq_true (by rw [h10]; rfl)) ⟨_, rfl, .inl ⟨own, _, 4, _, rfl, rfl, .of (kat k03 eO), atI_nat (j := 4) rfl, .inr (.inl ⟨tu, _, 1, _, rfl, rfl, htu, atI_nat (j := 1) rfl, au, rfl, .inr ⟨⟨_, hau⟩, ?_⟩⟩)⟩⟩⟩
      refine for_tup (K := K) (a := au) (xs := ws) (fun i σ H' => ∃ (L' : Addr) (v6 : Option V), σ = [some (.ref Dk), some (.int door), some (.ref own), some (.ref t), none, some (.ref S), v6] ∧ Keep (fun b => b = KN ∨ b = S ∨ b = A) H3 H' ∧ SrIn P w K CS KN Pl H H' S A L' (((us.take i).map replyOf).foldl rstep s1))
        ⟨L, none, rfl, .refl, in3⟩ (fun i σ H' _ ⟨_, _, _, kk, _⟩ => kk.sqT hau) ?_ ?_
      · rintro i v σ H4 hi ⟨L', v6, rfl, k4, in4⟩
        obtain ⟨pr, hpr, hv⟩ := isPs_get hus hi
        have es : ((us.take (i + 1)).map replyOf).foldl rstep s1 = rstep (((us.take i).map replyOf).foldl rstep s1) (replyOf pr) := by
          rw [take_snoc hpr, List.map_append, List.foldl_append]
          rfl
        rw [es]
        generalize ((us.take i).map replyOf).foldl rstep s1 = si at in4
        have hv4 := IsP.mono k4 _ _ hv
        obtain ⟨tv, rv, rfl, htv, hnull⟩ := isP_tag2 hv4
        obtain ⟨dS, ov, eS, ho⟩ := in4.nw.at_.obj
        have nbig : ∀ i, pr ≠ .big i := fun i z => by
          rw [z] at hv4
          exact hv4
        have eN := eqTag_null (r := rv) nbig hnull
        have lkf : (srF Pl L' A ov).lookup ("fail" : Str) = none := sr_none (by decide +kernel) (by decide +kernel) (by decide +kernel) (by decide +kernel)
        have lkt : (srF Pl L' A ov).lookup ("take" : Str) = none := sr_none (by decide +kernel) (by decide +kernel) (by decide +kernel) (by decide +kernel)
        cases eo : si.outcome with
        | none =>
          rw [eo] at ho
          obtain rfl : ov = .non := ho
          have er : rstep si (replyOf pr) = si.receive (replyOf pr) := by rw [rstep, eo]; rfl
          rw [er]
          refine ⟨_, rfl, S, CS, dS, _, _, rfl, eS, Cs.cl, Cs.nO, sr_outcome, rfl, _, rfl, ifT rfl ?_⟩
          refine ⟨_, rfl, tv, aU, _, _, rv, rfl, rfl, htv, T.t_NULL _, _, rfl, ifB (fun qn => ?_) fun qn => ?_⟩
          · rw [eN] at qn
            rw [reply_null qn]
            refine ⟨_, rfl, S, dS, _, rfl, eS, lkf, "stop", _, rfl, m_stop.asc, m_stop.len, m_stop.eq, fun H5 u5 k5 h5 => ?_⟩
            refine ⟨S, A, L', Pl, si, u5, _, rfl, in4.nw.at_.keep k5 (fun f => f) (fun f => f) (fun f => f), eo, h5, fun H6 k6 sr6 => ?_⟩
            have kk : Keep (fun b => b = KN ∨ b = S ∨ b = A) H4 H6 := (Kp.to k5).trans (k6.mono fun _ _ _ f => .inr (.inl f))
            have nSK : KN ≠ S := fun z => by
              obtain ⟨xs, e, _⟩ := in4.m
              rw [z, eS] at e
              cases e
            exact ⟨L', _, rfl, k4.trans kk, in4.step kk ((in4.m.kp k5).keep nSK k6) sr6 (.inl rfl)⟩
          · rw [eN] at qn
            rw [reply_other qn]
            refine ⟨_, rfl, S, CS, dS, _, _, rfl, eS, Cs.cl, Cs.nO, sr_outcome, rfl, _, rfl, ifT rfl ?_⟩
            refine ⟨_, rfl, S, dS, _, rfl, eS, lkt, _, rfl, S, A, L', Pl, KN, si, .ref tv, pr, rfl, in4.nw.at_, eo, in4.nw.aL, hv4, pl.keep in4.k (known_pl pl mm), in4.m, fun H6 L6 k6 m6 sr6 hL6 => ?_⟩
            exact ⟨L6, _, rfl, k4.trans k6, in4.step k6 m6 sr6 hL6⟩
        | some o =>
          have er : rstep si (replyOf pr) = si := by rw [rstep, eo]; rfl
          rw [er]
          rw [eo] at ho
          have nn : ov ≠ .non := fun z => by
            rw [z] at ho
            obtain ⟨t, r, e2, _⟩ := isP_tag (show IsP K H4 .non (outcomePlain (some o)) from ho)
            cases e2
          exact ⟨_, rfl, S, CS, dS, _, _, rfl, eS, Cs.cl, Cs.nO, sr_outcome, rfl, _, rfl, ifF (decide_eq_false nn) ⟨_, rfl, S, CS, dS, _, _, rfl, eS, Cs.cl, Cs.nO, sr_outcome, rfl, _, rfl, ifF (decide_eq_false nn) ⟨L', _, rfl, k4, in4⟩⟩⟩
      · rintro σ H4 ⟨L', v6, rfl, k4, in4⟩
        have e5 : us.take ws.length = us := by rw [isPs_len hus, List.take_length]
        rw [e5] at in4
        exact ⟨L', v6, rfl, in4⟩
    · rw [if_neg h10]
      refine ⟨_, rfl, rfl, _, rfl, ifF (decide_eq_false (fun z => h10 (by injection z with z; omega))) ⟨Nat.zero_le _, fun l nl => ⟨l, rfl, .inl ⟨⟨[], .of upd_same⟩, ?_⟩⟩⟩⟩
      have kl : Kp H3 (upd H3 l (.lst [])) := Keep.new nl
      refine for_list (K := K) (a := l) (xs := []) (fun i σ H' => σ = [some (.ref Dk), some (.int door), some (.ref own), some (.ref t), none, some (.ref S), none] ∧ H' = upd H3 l (.lst [])) ⟨rfl, rfl⟩ (fun i σ H' _ ⟨_, z⟩ => by rw [z]; exact .of upd_same) (fun i v σ H' hi _ => by simp at hi) ?_
      rintro σ H' ⟨rfl, rfl⟩
      exact ⟨L, none, rfl, in3.step kl.to (in3.m.kp kl) (in3.nw.at_.keep kl (fun f => f) (fun f => f) (fun f => f)) (.inl rfl)⟩
  rintro σ' H4 ⟨L', v6, rfl, in4⟩
  obtain ⟨dS, ov, eS, ho⟩ := in4.nw.at_.obj
  refine ⟨_, rfl, rfl, _, rfl, ifB (fun q10 => ?_) fun q10 => ?_⟩
  · have h10 : door = 10 := by
      have q10 : V.int (door : Int) = V.int 10 := of_decide_eq_true q10
      injection q10 with q10
      omega
    rw [if_pos h10] at in4 ho
    have eb : begunOf door x y z u = rstep (((listOf u).map replyOf).foldl rstep s1) (.value .undef) := by
      unfold begunOf
      rw [if_neg (by omega), if_pos h10, bo.1, run_fold]
      unfold repliesOf
      rw [List.foldl_append]
      rfl
    rw [eb] at post
    generalize ((listOf u).map replyOf).foldl rstep s1 = si at in4 ho post
    have lkt : (srF Pl L' A ov).lookup ("take" : Str) = none := sr_none (by decide +kernel) (by decide +kernel) (by decide +kernel) (by decide +kernel)
    cases eo : si.outcome with
    | none =>
      rw [eo] at ho
      obtain rfl : ov = .non := ho
      have er : rstep si (.value .undef) = si.receive (.value .undef) := by rw [rstep, eo]; rfl
      rw [er] at post
      refine ⟨_, rfl, S, CS, dS, _, _, rfl, eS, Cs.cl, Cs.nO, sr_outcome, rfl, _, rfl, ifT rfl ?_⟩
      refine ⟨_, rfl, S, dS, _, rfl, eS, lkt, S, A, L', Pl, KN, si, .ref aN, .undef, rfl, in4.nw.at_, eo, in4.nw.aL, ⟨aN, rfl, T.t_NOTHING _⟩, pl.keep in4.k (known_pl pl mm), in4.m, fun H6 L6 k6 m6 sr6 hL6 => ?_⟩
      have in6 := in4.step k6 m6 sr6 hL6
      exact ⟨_, rfl, post _ S A L6 in6.k in6.m in6.nw⟩
    | some o =>
      have er : rstep si (.value .undef) = si := by rw [rstep, eo]; rfl
      rw [er] at post
      rw [eo] at ho
      have nn : ov ≠ .non := fun z => by
        rw [z] at ho
        obtain ⟨t, r, e2, _⟩ := isP_tag (show IsP K H4 .non (outcomePlain (some o)) from ho)
        cases e2
      exact ⟨_, rfl, S, CS, dS, _, _, rfl, eS, Cs.cl, Cs.nO, sr_outcome, rfl, _, rfl, ifF (decide_eq_false nn) ⟨_, rfl, post _ S A L' in4.k in4.m in4.nw⟩⟩
  · have h10 : door ≠ 10 := fun z => by
      have q10 : ¬ V.int (door : Int) = V.int 10 := of_decide_eq_false q10
      exact q10 (by rw [z]; rfl)
    rw [if_neg h10] at in4
    have h9 : door = 9 := by
      rcases hdoor with hh | hh | hh
      · exact hh
      · omega
      · omega
    have eb : begunOf door x y z u = s1 := by
      unfold begunOf
      rw [if_pos h9, bo.1]
    rw [eb] at post
    exact ifF rfl ⟨_, rfl, post _ S A L' in4.k in4.m in4.nw⟩
end
end Fs

/-! planning_door. -/
namespace Fs
open PySem PySem.Spec PyProof.Rows L2 L2H
open R7286g.Spec (Plain Units Candidate Err Res andThen startOf fewest sumOf bestPlan leastByWeight planArg planIn planError Plan planOf nat record)
def gameL (n p q : Nat) : List Candidate := startOf n p q
def errP (o : Option (Nat × List Bool)) : Plain := match o with
  | some m => record [("version", nat m.1), ("answers", .arr (m.2.map Plain.bool))]
  | none => .null
def planR (door n p q : Nat) (u : Plain) : Res Plain :=
  if door = 0 then .ok (nat (fewest (startOf n p q))) else if door = 6 then .ok (nat (leastByWeight (startOf n p q)))
  else if door = 7 then (if fewest (startOf n p q) ≤ 6 then .ok (planOf (bestPlan 6 (startOf n p q))) else R7286g.Spec.bad "the best plan has more than 6 tests in a row")
  else andThen (planArg n u) fun pl => .ok (errP (planError pl (startOf n p q)))
theorem bestPlan_depth : ∀ (d : Nat) (l : List Candidate), (bestPlan d l).depth ≤ d
  | 0, l => Nat.le_refl _
  | d + 1, l => by
    rw [bestPlan]
    cases R7286g.Spec.bestTest l with
    | none => exact Nat.zero_le _
    | some k =>
      have h1 := bestPlan_depth d (R7286g.Spec.afterAnswer l k true)
      have h2 := bestPlan_depth d (R7286g.Spec.afterAnswer l k false)
      show max _ _ + 1 ≤ d + 1
      omega
section
variable {P : Program} {w : World} {K : PySem.W.Frag} {mg : Str → Option Value} {base : Heap} {CP CS CD CR : Addr}
theorem planIn_depth : ∀ {d n : Nat} {p : Plain} {pl : Plan} {v : V} {H : Hp}, IsP K H v p → planIn d n p = some pl → pl.depth ≤ d
  | d, n, p, pl, v, H, hp, h => by
    rcases planIn_inv hp h with ⟨j, _, rfl⟩ | ⟨e, k, x, y, j, p1, p2, rfl, rfl, e1, e2, e3, rfl⟩
    · exact Nat.zero_le _
    · obtain ⟨t, a, ys, rfl, ht, hy, hs⟩ := isP_arr hp
      obtain ⟨y0, y1, y2, rfl, h0, h1, h2⟩ := isPs_three hs
      have d1 := planIn_depth h1 e2
      have d2 := planIn_depth h2 e3
      show max _ _ + 1 ≤ e + 1
      omega
termination_by d => d
def spPlanning (P : Program) (w : World) (K : PySem.W.Frag) (CP CD CR : Addr) : Sp := fun vs H Q E => ∃ (Dk Pl KN SD own t dx : Addr) (door n p q : Nat) (ys : List V) (u : Plain), vs = [.ref Dk, .int door, .ref t, .ref own] ∧ H Dk = some (.ins CD dx (dkF Pl SD)) ∧ PlAt CP H Pl KN ∧ MemoAt P w KN H ∧
  H t = some (.tup [.int n, .int p, .int q]) ∧ 2 ≤ n ∧ n ≤ 10 ∧ p ≤ 2 ∧ q ≤ 2 ∧ H own = some (.lst ys) ∧ (door = 0 ∨ door = 6 ∨ door = 7 ∨ (door = 8 ∧ ∃ v, ys[3]? = some v ∧ IsP K H v u)) ∧
  (∀ x, planR door n p q u = .ok x → ∀ H' r, Keep (fun b => b = KN) H H' → MemoAt P w KN H' → IsP K H' r x → Q r H') ∧ (∀ e, planR door n p q u = .error e → Out CR E (fun b => b = KN) (MemoAt P w KN) H e)
theorem b_Desk_planning_door (B : Bt mg) {aN aU aA : Addr} (T : Ct K mg aN aU aA) (C : DkC K CD) (c_first_left : Cal P w K mg base 1 "first_left" spFirst) (c_integer : Cal P w K mg base 1 "integer" (spInteger K)) (c_boolean : Cal P w K mg base 1 "boolean" (spBoolean K)) (c_row : Cal P w K mg base 1 "row" (spRow K)) (c_record : Cal P w K mg base 2 "record" (spRecord K))
    (c_Planner_fewest : Met P w K mg base 104 CP "fewest" (spFew P w CP 51)) (c_Planner_best_plan : Met P w K mg base 113 CP "best_plan" (spPlan P w CP 7)) (c_least_by_weight : Cal P w K mg base 62 "least_by_weight" spLeast) (c_counterexample : Cal P w K mg base 9 "counterexample" (spCounter 7)) (c_plan_of : Cal P w K mg base 8 "plan_of" (spPlanOf K 7))
    (c_plan_value : Cal P w K mg base 9 "plan_value" (spPlanValue K 7)) (c_is_plan : Cal P w K mg base 9 "is_plan" (spIsPlan K 7)) (c_need_kind : CalX P w K mg base 3 "need_kind" (spNeed CR 1)) (c_need_range : CalX P w K mg base 3 "need_range" (spNeed CR 2)) :
    BdX P w K mg base N_Desk_planning_door "Desk.planning_door" s_Desk_planning_door 113 (spPlanning P w K CP CD CR) := by
  rintro f cdv A0 outer s0 H vs Q E hr ⟨Dk, Pl, KN, SD, own, t, dx, door, n, p, q, ys, u, rfl, eD, pl, mm, et, hn1, hn2, hp, hq, eO, hdoor, good, bad⟩
  refine ⟨_, pss_cons (ps_set (i := 4) sc_Desk_planning_door.nd rfl (Or.inl rfl) (pe_c c_first_left hr (by omega) (by rfl) (pa_cons (pe_ix ix_seq (pv 2) (pe_int) (fun _ _ => rfl)) (pa_cons (pe_ix ix_seq (pv 2) (pe_int) (fun _ _ => rfl)) (pa_cons (pe_ix ix_seq (pv 2) (pe_int) (fun _ _ => rfl)) pa_nil)))))
    (pss_cons (ps_if (pt_cmpR op_eq (pv 1) (pe_int) (nomark _)) (pss_one (ps_ret (pe_c c_integer hr (by omega) (by rfl) (pa_cons (pe_m c_Planner_fewest hr (by omega) (pe_fld (pv 0) rfl) (by exact (pa_cons (pv 4) pa_nil))) pa_nil)))) pss_nil)
    (pss_cons (ps_if (pt_cmpR op_eq (pv 1) (pe_int) (nomark _)) (pss_one (ps_ret (pe_c c_integer hr (by omega) (by rfl) (pa_cons (pe_c c_least_by_weight hr (by omega) (by rfl) (pa_cons (pe_ix ix_seq (pv 2) (pe_int) (fun _ _ => rfl)) (pa_cons (pe_ix ix_seq (pv 2) (pe_int) (fun _ _ => rfl)) (pa_cons (pe_ix ix_seq (pv 2) (pe_int) (fun _ _ => rfl)) pa_nil)))) pa_nil)))) pss_nil)
    (pss_cons (ps_if (pt_cmpR op_eq (pv 1) (pe_int) (nomark _)) (pss_cons (ps_set (i := 5) sc_Desk_planning_door.nd rfl (Or.inl rfl) (pe_cmpR op_le (pe_m c_Planner_fewest hr (by omega) (pe_fld (pv 0) rfl) (by exact (pa_cons (pv 4) pa_nil))) (C8.pe_gc (by rfl) T.k_DEEPEST) (nomark _)))
    (pss_cons (ps_expr (pe_cX (E := E) c_need_range hr (by omega) (by rfl) (L2N.takes_of rfl rfl rfl rfl) (fun _ _ _ _ h => h) (pa_cons (pv 5) (pa_cons (pe_str) pa_nil))))
    (pss_one (ps_ret (pe_c c_plan_value hr (by omega) (by rfl) (pa_cons (pe_m c_Planner_best_plan hr (by omega) (pe_fld (pv 0) rfl) (by exact (pa_cons (pv 4) pa_nil))) pa_nil)))))) pss_nil)
    (pss_cons (ps_set (i := 6) sc_Desk_planning_door.nd rfl (Or.inl rfl) (pe_str))
    (pss_cons (ps_expr (pe_cX (E := E) c_need_kind hr (by omega) (by rfl) (L2N.takes_of rfl rfl rfl rfl) (fun _ _ _ _ h => h) (pa_cons (pe_c c_is_plan hr (by omega) (by rfl) (pa_cons (pe_ix ix_seq (pv 3) (pe_int) (fun _ _ => rfl)) (pa_cons (pe_ix ix_seq (pv 2) (pe_int) (fun _ _ => rfl)) (pa_cons (C8.pe_gc (by rfl) T.k_DEEPEST) pa_nil)))) (pa_cons (pv 6) pa_nil))))
    (pss_cons (ps_set (i := 7) sc_Desk_planning_door.nd rfl (Or.inl rfl) (pe_c c_counterexample hr (by omega) (by rfl) (pa_cons (pv 4) (pa_cons (pe_c c_plan_of hr (by omega) (by rfl) (pa_cons (pe_ix ix_seq (pv 3) (pe_int) (fun _ _ => rfl)) pa_nil)) (pa_cons (pe_lst pa_nil) pa_nil)))))
    (pss_cons (ps_if (pt_cmpR op_isN (pv 7) (pe_non) (nomark _)) (pss_one (ps_ret (C8.pe_gc (by rfl) T.k_NULL))) pss_nil)
    (pss_one (ps_ret (pe_c c_record hr (by omega) (by rfl) (pa_cons (pe_lst (pa_cons (pe_tup (pa_cons (pe_str) (pa_cons (pe_c c_integer hr (by omega) (by rfl) (pa_cons (pe_ix ix_seq (pv 7) (pe_int) (fun _ _ => rfl)) pa_nil)) pa_nil))) (pa_cons (pe_tup (pa_cons (pe_str) (pa_cons (pe_c c_row hr (by omega) (by rfl) (pa_cons (pe_lc (own := [("one", 8)]) (g := (gName 8)) (te := (tCl _ E0 (tCons (tVar 8) tNil))) rfl sc_Desk_planning_door.nd (pi_list (pe_ix ix_seq (pv 7) (pe_int) (fun _ _ => rfl))) (blkOk_by (N := N_Desk_planning_door) (sc := defScope s_Desk_planning_door) (by decide +kernel)) (fun _ _ _ _ _ => by exact pg_name (i := 8) sc_Desk_planning_door.nd rfl (Or.inl rfl)) (fun _ _ _ _ _ => pts_nil) (fun _ _ _ _ _ => by exact pe_c c_boolean hr (by omega) (by rfl) (pa_cons (pv 8) pa_nil))) pa_nil)) pa_nil))) pa_nil))) pa_nil))))))))))), ?_⟩
  obtain ⟨dp, ePl⟩ := id pl
  have lf := Lf.start (n := n) (p := p) (q := q) hn2 hp hq
  have hne : startOf n p q ≠ [] := fun z => by
    have := congrArg List.length z
    rw [R7286g.Spec.startOf, List.length_map, List.length_range] at this
    simp at this
    omega
  have lkf : ([("known", .ref KN)] : List (Str × V)).lookup ("fewest" : Str) = none := (lkB (by decide +kernel)).trans rfl
  have lkp : ([("known", .ref KN)] : List (Str × V)).lookup ("best_plan" : Str) = none := (lkB (by decide +kernel)).trans rfl
  refine ⟨_, rfl, .inr (.inl ⟨t, _, 0, _, rfl, rfl, .of et, atI_nat (j := 0) rfl, _, rfl, .inr (.inl ⟨t, _, 1, _, rfl, rfl, .of et, atI_nat (j := 1) rfl, _, rfl, .inr (.inl ⟨t, _, 2, _, rfl, rfl, .of et, atI_nat (j := 2) rfl, n, p, q, rfl, by omega, fun H1 l k1 nl l1 => ?_⟩)⟩)⟩)⟩
  have eD1 := kat k1 eD
  have eP1 := kat k1 ePl
  have m1 := mm.kp k1
  have pl1 : PlAt CP H1 Pl KN := ⟨dp, eP1⟩
  have nlK : l ≠ KN := known_lst l1.choose_spec.1 m1
  have nDK : Dk ≠ KN := by
    obtain ⟨xs, e2, _⟩ := mm
    exact ne_of eD e2 fun z => by cases z
  have nPK := known_pl pl mm
  refine ⟨_, rfl, rfl, _, rfl, ifB (fun h0 => ?_) fun h0 => ?_⟩
  · have h0 : door = 0 := by
      have h0 : V.int (door : Int) = V.int 0 := of_decide_eq_true h0
      injection h0 with h0
      omega
    refine ⟨_, rfl, Dk, CD, dx, _, _, rfl, eD1, C.cl, C.nP, dk_planner, Pl, dp, _, rfl, eP1, lkf, _, rfl, Pl, KN, l, _, rfl, pl1, m1, l1, lf, by have := lf.sum; omega, fun H2 k2 m2 => ⟨_, rfl, fun H3 r k3 h3 => ?_⟩⟩
    exact good _ (by unfold planR; rw [if_pos h0]; rfl) H3 r (k1.to.trans (k2.trans k3.to)) (m2.kp k3) h3
  have h0 : door ≠ 0 := fun z => (of_decide_eq_false h0 : ¬ V.int (door : Int) = V.int 0) (by rw [z]; rfl)
  refine ⟨_, rfl, rfl, _, rfl, ifB (fun h6 => ?_) fun h6 => ?_⟩
  · have h6 : door = 6 := by
      have h6 : V.int (door : Int) = V.int 6 := of_decide_eq_true h6
      injection h6 with h6
      omega
    have et1 := kat k1 et
    refine ⟨_, rfl, .inr (.inl ⟨t, _, 0, _, rfl, rfl, .of et1, atI_nat (j := 0) rfl, _, rfl, .inr (.inl ⟨t, _, 1, _, rfl, rfl, .of et1, atI_nat (j := 1) rfl, _, rfl, .inr (.inl ⟨t, _, 2, _, rfl, rfl, .of et1, atI_nat (j := 2) rfl, n, p, q, rfl, hn2, hp, hq, fun H2 k2 => ⟨_, rfl, fun H3 r k3 h3 => ?_⟩⟩)⟩)⟩)⟩
    exact good _ (by unfold planR; rw [if_neg h0, if_pos h6]; rfl) H3 r (Kp.to (k1.trans (k2.trans k3))) (m1.kp (k2.trans k3)) h3
  have h6 : door ≠ 6 := fun z => (of_decide_eq_false h6 : ¬ V.int (door : Int) = V.int 6) (by rw [z]; rfl)
  refine ⟨_, rfl, rfl, _, rfl, ifB (fun h7 => ?_) fun h7 => ?_⟩
  · have h7 : door = 7 := by
      have h7 : V.int (door : Int) = V.int 7 := of_decide_eq_true h7
      injection h7 with h7
      omega
    have er : planR door n p q u = if fewest (startOf n p q) ≤ 6 then .ok (planOf (bestPlan 6 (startOf n p q))) else R7286g.Spec.bad "the best plan has more than 6 tests in a row" := by
      unfold planR
      rw [if_neg h0, if_neg h6, if_pos h7]
    refine ⟨_, rfl, Dk, CD, dx, _, _, rfl, eD1, C.cl, C.nP, dk_planner, Pl, dp, _, rfl, eP1, lkf, _, rfl, Pl, KN, l, _, rfl, pl1, m1, l1, lf, by have := lf.sum; omega, fun H2 k2 m2 => ?_⟩
    refine ⟨_, _, rfl, rfl, ?_⟩
    refine ⟨_, rfl, decide (((fewest (startOf n p q) : Nat) : Int) ≤ 6), _, rfl, fun hg => ?_, fun hg d H' k hx => ?_⟩
    · have hg : ((fewest (startOf n p q) : Nat) : Int) ≤ 6 := of_decide_eq_true hg
      have hg : fewest (startOf n p q) ≤ 6 := by omega
      rw [if_pos hg] at er
      refine ⟨_, rfl, Dk, CD, dx, _, _, rfl, k2.all _ _ eD1 nDK, C.cl, C.nP, dk_planner, Pl, dp, _, rfl, k2.all _ _ eP1 nPK, lkp, _, rfl, Pl, KN, l, _, 6, rfl, ⟨dp, k2.all _ _ eP1 nPK⟩, m2, l1.mono k2 nlK, lf, hne, hg, by omega, fun H3 v3 k3 m3 p3 => ?_⟩
      refine ⟨v3, bestPlan 6 (startOf n p q), rfl, Nat.lt_succ_of_le (bestPlan_depth 6 _), p3, fun H4 r k4 h4 => ?_⟩
      exact good _ er H4 r (k1.to.trans (k2.trans (k3.trans k4.to))) (m3.kp k4) h4
    · have hg : ¬ ((fewest (startOf n p q) : Nat) : Int) ≤ 6 := of_decide_eq_false hg
      rw [if_neg (by omega)] at er
      exact bad _ er d H' _ (k1.to.trans (k2.trans k.to)) (m2.kp k) hx msg_best
  have h7 : door ≠ 7 := fun z => (of_decide_eq_false h7 : ¬ V.int (door : Int) = V.int 7) (by rw [z]; rfl)
  obtain ⟨h8, v, hv, hu⟩ : door = 8 ∧ ∃ v, ys[3]? = some v ∧ IsP K H v u := by
    rcases hdoor with h | h | h | h
    · omega
    · omega
    · omega
    · exact h
  have er : planR door n p q u = andThen (planArg n u) fun pl => .ok (errP (planError pl (startOf n p q))) := by
    unfold planR
    rw [if_neg h0, if_neg h6, if_neg h7]
  have eO1 := kat k1 eO
  have hu1 := IsP.mono k1 _ _ hu
  have et1 := kat k1 et
  refine ⟨_, rfl, .inl ⟨own, ys, 3, v, rfl, rfl, .of eO1, atI_nat (j := 3) hv, _, rfl, .inr (.inl ⟨t, _, 0, _, rfl, rfl, .of et1, atI_nat (j := 0) rfl, v, n, 6, u, rfl, by omega, hn1, hu1, _, rfl, (planIn 6 n u).isSome, _, rfl, fun hg => ?_, fun hg d H' k hx => ?_⟩)⟩⟩
  rotate_left
  · cases e : planIn 6 n u with
    | some pl => rw [e] at hg; cases hg
    | none =>
      refine bad R7286g.Spec.noPlan ?_ d H' _ (Kp.to (k1.trans k)) (m1.kp k) hx msg_plan
      rw [er]
      unfold planArg
      show andThen (match planIn 6 n u with | some p => .ok p | none => .error R7286g.Spec.noPlan) _ = _
      rw [e]
      rfl
  cases e : planIn 6 n u with
  | none => rw [e] at hg; cases hg
  | some plan =>
  have er2 : planR door n p q u = .ok (errP (planError plan (startOf n p q))) := by
    rw [er]
    unfold planArg
    show andThen (match planIn 6 n u with | some p => .ok p | none => .error R7286g.Spec.noPlan) _ = _
    rw [e]
    rfl
  have hdep := planIn_depth hu1 e
  refine ⟨_, rfl, _, rfl, .inl ⟨own, ys, 3, v, rfl, rfl, .of eO1, atI_nat (j := 3) hv, v, n, 6, u, plan, rfl, by omega, hu1, e, fun H2 pv k2 hpv => ⟨Nat.zero_le _, fun al nal => ?_⟩⟩⟩
  have kal : Kp H2 (upd H2 al (.lst [])) := Keep.new nal
  refine ⟨l, al, pv, startOf n p q, plan, [], rfl, by omega, by show 0 + plan.depth ≤ 1000; omega, l1.kp (k2.trans kal), Nat.le_trans lf.len (by decide), hpv.mono kal, upd_same, fun H3 fv k3 ho => ?_⟩
  have k13 : Kp H1 H3 := k2.trans (kal.trans k3)
  have k03 : Kp H H3 := k1.trans k13
  cases ee : planError plan (startOf n p q) with
  | none =>
    rw [ee] at ho
    obtain rfl : fv = .non := ho
    rw [ee] at er2
    exact ⟨_, rfl, rfl, _, rfl, ifT rfl (good _ er2 H3 _ k03.to (mm.kp k03) ⟨aU, rfl, T.t_NULL _⟩)⟩
  | some m =>
    rw [ee] at ho er2
    obtain ⟨ft, fa, rfl, eft, efa⟩ := ho
    refine ⟨_, rfl, rfl, _, rfl, ifF (decide_eq_false (by intro z; cases z)) ?_⟩
    refine ⟨_, rfl, .inr (.inl ⟨ft, _, 0, _, rfl, rfl, .of eft, atI_nat (j := 0) rfl, (m.1 : Int), rfl, fun H4 u4 k4 h4 => ⟨two_le, fun ta nta => ?_⟩⟩)⟩
    have kta : Kp H4 (upd H4 ta (.tup [.str "version", u4])) := Keep.new nta
    have eta : upd H4 ta (.tup [.str "version", u4]) ta = some (.tup [.str "version", u4]) := upd_same
    generalize upd H4 ta (.tup [.str "version", u4]) = H5 at kta eta
    have efa5 : H5 fa = some (.lst (m.2.map V.bl)) := kat (k4.trans kta) efa
    refine ⟨_, rfl, .inr (.inl ⟨ft, _, 1, _, rfl, rfl, .of (kat (k4.trans kta) eft), atI_nat (j := 1) rfl, fa, rfl, ⟨_, .of efa5⟩, fun D hD => ?_⟩)⟩
    refine lcA (F := fun _ => False) (cs := m.2) (Item := fun i x _ => ∃ b, m.2[i]? = some b ∧ x = V.bl b) ?_ Plain.bool (fun _ => True) (IsP K) (fun f => f) hD ?_ trivial (fun _ _ _ h => h) (fun _ _ _ _ k r => IsP.mono k _ _ r) (fun i b x H6 Qy hc it k6 _ go => ?_) fun H6 zs k6 _ e6 p6 => ?_
    · have wl := walk_list (F := fun _ => False) (SqL.of (K := K) efa5) (fun f => f)
      rw [List.length_map] at wl
      refine ⟨wl.go, wl.stop, fun i x H H' hi k y => ⟨(wl.yld i x H H' hi k y).1, ?_⟩⟩
      have z := (wl.yld i x H H' hi k y).2
      rw [List.getElem?_map] at z
      cases e : m.2[i]? with
      | none => rw [e] at z; cases z
      | some b =>
        rw [e] at z
        exact ⟨b, rfl, (Option.some.inj z).symm⟩
    · have len : ∀ (pl : Plan) (l : List Candidate) (m : Nat × List Bool), planError pl l = some m → m.2.length ≤ pl.depth := by
        intro pl
        induction pl with
        | tell v =>
          intro l m h
          have h : (l.find? fun c => c.version != v).map (fun c => (c.version, ([] : List Bool))) = some m := h
          cases e : l.find? fun c => c.version != v with
          | none => rw [e] at h; cases h
          | some c =>
            rw [e] at h
            obtain rfl : (c.version, ([] : List Bool)) = m := Option.some.inj h
            exact Nat.zero_le _
        | test k x y ihx ihy =>
          intro l m h
          have h : (match planError x (R7286g.Spec.afterAnswer l k true) with | some e => some (e.1, true :: e.2) | none => (planError y (R7286g.Spec.afterAnswer l k false)).map fun e => (e.1, false :: e.2)) = some m := h
          show _ ≤ max x.depth y.depth + 1
          cases e1 : planError x (R7286g.Spec.afterAnswer l k true) with
          | some e =>
            rw [e1] at h
            obtain rfl : (e.1, true :: e.2) = m := Option.some.inj h
            have := ihx _ _ e1
            show e.2.length + 1 ≤ _
            omega
          | none =>
            rw [e1] at h
            cases e2 : planError y (R7286g.Spec.afterAnswer l k false) with
            | none => rw [e2] at h; cases h
            | some e =>
              rw [e2] at h
              obtain rfl : (e.1, false :: e.2) = m := Option.some.inj h
              have := ihy _ _ e2
              show e.2.length + 1 ≤ _
              omega
      exact lenL (by have := len _ _ _ ee; omega)
    · obtain ⟨b', hb', rfl⟩ := it
      obtain rfl : b = b' := by
        rw [hc] at hb'
        exact Option.some.inj hb'
      exact ⟨rfl, _, rfl, b, rfl, fun H7 u7 k7 h7 => go _ _ k7 trivial h7⟩
    · refine ⟨D, zs, _, rfl, e6, isPs_of p6, fun H7 u7 k7 h7 => ⟨two_le, fun tb ntb => ⟨two_le, fun lr nlr => ?_⟩⟩⟩
      have ktb : Kp H7 (upd H7 tb (.tup [.str "answers", u7])) := Keep.new ntb
      have etb : upd H7 tb (.tup [.str "answers", u7]) tb = some (.tup [.str "answers", u7]) := upd_same
      generalize upd H7 tb (.tup [.str "answers", u7]) = H8 at ktb etb nlr
      have klr : Kp H8 (upd H8 lr (.lst [.ref ta, .ref tb])) := Keep.new nlr
      have k58 : Kp H5 (upd H8 lr (.lst [.ref ta, .ref tb])) := ((k6.trans k7).trans ktb).trans klr
      refine ⟨lr, _, [(R7286g.Spec.units "version", nat m.1), (R7286g.Spec.units "answers", .arr (m.2.map Plain.bool))], rfl, upd_same, ?_, (by show 2 ≤ 1000; decide), fun H9 u9 k9 h9 => ?_⟩
      · exact .cons ⟨ta, "version", u4, rfl, k58.tup _ _ eta, m_version.asc, m_version.len, m_version.eq, IsP.mono (kta.trans k58) _ _ h4⟩ (.cons ⟨tb, "answers", u7, rfl, klr.tup _ _ etb, m_answers.asc, m_answers.len, m_answers.eq, IsP.mono (ktb.trans klr) _ _ h7⟩ .nil)
      · have k09 : Kp H H9 := (k03.trans (k4.trans kta)).trans (k58.trans k9)
        exact good _ er2 H9 u9 k09.to (mm.kp k09) h9
end
end Fs

/-! answers_door. -/
namespace Fs
open PySem PySem.Spec PyProof.Rows L2 L2H
open R7286g.Spec (Plain Units Candidate Err Res andThen startOf fewest sumOf bestTest answersArg afterAnswer afterAnswers candidateOf versionArg testedArg someLeft worstAnswer wrongOnes nat record rangeIn)
def ansR (door n p q : Nat) (u t : Plain) : Res Plain := andThen (answersArg n u) fun as =>
  if door = 3 then .ok (.arr ((afterAnswers (startOf n p q) as).map (candidateOf p q)))
  else if door = 5 then andThen (versionArg n t) fun v => .ok (if (afterAnswers (startOf n p q) as).any fun c => c.version == v then .arr ((wrongOnes v 0 as).map nat) else .null)
  else if door = 1 then andThen (someLeft (n, afterAnswers (startOf n p q) as)) fun e => .ok (nat (fewest e.2))
  else if door = 2 then andThen (someLeft (n, afterAnswers (startOf n p q) as)) fun e => .ok (optP (bestTest e.2))
  else andThen (testedArg n t) fun k => andThen (someLeft (n, afterAnswers (startOf n p q) as)) fun e => .ok (.bool (worstAnswer e.2 k))
theorem Lf.afters {l : List Candidate} (h : Lf l) : ∀ as : List (Nat × Bool), Lf (afterAnswers l as)
  | [] => h
  | a :: as => (h.after a.1 a.2).afters as
theorem afters_bound {n p q : Nat} : ∀ (as : List (Nat × Bool)) {l : List Candidate}, (∀ c ∈ l, c.bad ≤ p ∧ c.good ≤ q) → ∀ c ∈ afterAnswers l as, c.bad ≤ p ∧ c.good ≤ q
  | [], l, h, c, hc => h c hc
  | a :: as, l, h, c, hc => afters_bound (n := n) as (l := afterAnswer l a.1 a.2) (fun c hc => by
      obtain ⟨c0, h0, e⟩ := List.mem_filterMap.mp hc
      have h1 := h c0 h0
      unfold Candidate.after at e
      split at e
      · cases e
        exact h1
      · split at e
        · split at e
          · cases e
          · cases e
            exact ⟨by show c0.bad - 1 ≤ p; omega, h1.2⟩
        · split at e
          · cases e
          · cases e
            exact ⟨h1.1, by show c0.good - 1 ≤ q; omega⟩) c hc
section
variable {P : Program} {w : World} {K : PySem.W.Frag} {mg : Str → Option Value} {base : Heap} {CP CS CD CR : Addr}
def spAnswersDoor (P : Program) (w : World) (K : PySem.W.Frag) (CP CD CR : Addr) : Sp := fun vs H Q E => ∃ (Dk Pl KN SD own t dx : Addr) (door n p q : Nat) (ys : List V) (v3 : V) (u tt : Plain), vs = [.ref Dk, .int door, .ref t, .ref own] ∧ H Dk = some (.ins CD dx (dkF Pl SD)) ∧ PlAt CP H Pl KN ∧ MemoAt P w KN H ∧
  H t = some (.tup [.int n, .int p, .int q]) ∧ 2 ≤ n ∧ n ≤ 10 ∧ p ≤ 2 ∧ q ≤ 2 ∧ H own = some (.lst ys) ∧ ys[3]? = some v3 ∧ IsP K H v3 u ∧ 1 ≤ door ∧ door ≤ 5 ∧ (4 ≤ door → ∃ v4, ys[4]? = some v4 ∧ IsP K H v4 tt) ∧
  (∀ x, ansR door n p q u tt = .ok x → ∀ H' r, Keep (fun b => b = KN) H H' → MemoAt P w KN H' → IsP K H' r x → Q r H') ∧ (∀ e, ansR door n p q u tt = .error e → Out CR E (fun b => b = KN) (MemoAt P w KN) H e)
theorem door_eq {a b : Nat} (h : decide (V.int (a : Int) = V.int (b : Int)) = true) : a = b := by
  have h : V.int (a : Int) = V.int (b : Int) := of_decide_eq_true h
  injection h with h
  omega
theorem door_ne {a b : Nat} (h : decide (V.int (a : Int) = V.int (b : Int)) = false) : a ≠ b := fun z => (of_decide_eq_false h : ¬ V.int (a : Int) = V.int (b : Int)) (by rw [z])
theorem b_Desk_answers_door (B : Bt mg) {aN aU aA : Addr} (T : Ct K mg aN aU aA) (C : DkC K CD) (c_first_left : Cal P w K mg base 1 "first_left" spFirst) (c_left_by : Cal P w K mg base 1 "left_by" spLeftBy) (c_left_behind : Cal P w K mg base 2 "left_behind" spLeftBehind) (c_are_wrong : Cal P w K mg base 1 "are_wrong" spAreWrong) (c_integer : Cal P w K mg base 1 "integer" (spInteger K)) (c_boolean : Cal P w K mg base 1 "boolean" (spBoolean K)) (c_row : Cal P w K mg base 1 "row" (spRow K)) (c_record : Cal P w K mg base 2 "record" (spRecord K))
    (c_number_value : Cal P w K mg base 2 "number_value" (spNumberValue K)) (c_number_in : Cal P w K mg base 1 "number_in" (spNumberIn K)) (c_Planner_fewest : Met P w K mg base 104 CP "fewest" (spFew P w CP 51)) (c_Planner_best_test : Met P w K mg base 105 CP "best_test" (spBest P w CP))
    (c_answers_of : CalX P w K mg base 4 "answers_of" (spAnsOf K CR)) (c_need_range : CalX P w K mg base 3 "need_range" (spNeed CR 2)) :
    BdX P w K mg base N_Desk_answers_door "Desk.answers_door" s_Desk_answers_door 113 (spAnswersDoor P w K CP CD CR) := by
  rintro f cdv A0 outer s0 H vs Q E hr ⟨Dk, Pl, KN, SD, own, t, dx, door, n, p, q, ys, v3, u, tt, rfl, eD, pl, mm, et, hn1, hn2, hp, hq, eO, hv3, hu, hd1, hd5, hv4, good, bad⟩
  refine ⟨_, pss_cons (ps_asg (pv 2) (pg_tup rfl (pgs_cons (pg_name (i := 4) sc_Desk_answers_door.nd rfl (Or.inl rfl)) (pgs_cons (pg_name (i := 5) sc_Desk_answers_door.nd rfl (Or.inr rfl)) (pgs_cons (pg_name (i := 6) sc_Desk_answers_door.nd rfl (Or.inr rfl)) pgs_nil)))))
    (pss_cons (ps_set (i := 7) sc_Desk_answers_door.nd rfl (Or.inl rfl) (pe_cX (E := E) c_answers_of hr (by omega) (by rfl) (L2N.takes_of rfl rfl rfl rfl) (fun _ _ _ _ h => h) (pa_cons (pe_ix ix_seq (pv 3) (pe_int) (fun _ _ => rfl)) (pa_cons (pv 4) pa_nil))))
    (C8.pss_cut (ps_if (pt_cmpR op_eq (pv 1) (pe_int) (nomark _)) (pss_one (ps_expr (pe_cX (E := E) c_need_range hr (by omega) (by rfl) (L2N.takes_of rfl rfl rfl rfl) (fun _ _ _ _ h => h) (pa_cons (pe_c c_number_in hr (by omega) (by rfl) (pa_cons (pe_ix ix_seq (pv 3) (pe_int) (fun _ _ => rfl)) (pa_cons (pe_int) (pa_cons (pe_op op_sub (pv 4) (pe_int)) pa_nil)))) (pa_cons (pe_str) pa_nil))))) pss_nil)
    (C8.pss_cut (ps_if (pt_cmpR op_eq (pv 1) (pe_int) (nomark _)) (pss_one (ps_expr (pe_cX (E := E) c_need_range hr (by omega) (by rfl) (L2N.takes_of rfl rfl rfl rfl) (fun _ _ _ _ h => h) (pa_cons (pe_c c_number_in hr (by omega) (by rfl) (pa_cons (pe_ix ix_seq (pv 3) (pe_int) (fun _ _ => rfl)) (pa_cons (pe_int) (pa_cons (pe_op op_sub (pv 4) (pe_int)) pa_nil)))) (pa_cons (pe_str) pa_nil))))) pss_nil)
    (pss_cons (ps_set (i := 8) sc_Desk_answers_door.nd rfl (Or.inl rfl) (pe_c c_left_behind hr (by omega) (by rfl) (pa_cons (pe_c c_first_left hr (by omega) (by rfl) (pa_cons (pv 4) (pa_cons (pv 5) (pa_cons (pv 6) pa_nil)))) (pa_cons (pv 7) pa_nil))))
    (pss_cons (ps_if (pt_cmpR op_eq (pv 1) (pe_int) (nomark _)) (pss_cons (ps_setLc (i := 9) (own := [("one", 12), ("more", 13), ("other", 14)]) (g := (gTup K 3 (gCons (gName 12) (gCons (gName 13) (gCons (gName 14) gNil))))) (te := (tLst (tCons (tTup (tCons (tC _) (tCons (tCl _ E0 (tCons (tVar 12) tNil)) tNil))) (tCons (tTup (tCons (tC _) (tCons (tCl _ E0 (tCons (tOp _ (tVar 5) (tVar 13)) tNil)) tNil))) (tCons (tTup (tCons (tC _) (tCons (tCl _ E0 (tCons (tOp _ (tVar 6) (tVar 14)) tNil)) tNil))) tNil))))) rfl sc_Desk_answers_door.nd rfl rfl (sw_true rfl rfl rfl (by decide +kernel)) (pi_list (pv 8)) (blkOk_by (N := N_Desk_answers_door) (sc := defScope s_Desk_answers_door) (by decide +kernel)) (fun _ _ _ _ _ => by exact pg_tup rfl (pgs_cons (pg_name (i := 12) sc_Desk_answers_door.nd rfl (Or.inl rfl)) (pgs_cons (pg_name (i := 13) sc_Desk_answers_door.nd rfl (Or.inl rfl)) (pgs_cons (pg_name (i := 14) sc_Desk_answers_door.nd rfl (Or.inl rfl)) pgs_nil)))) (fun _ _ _ _ _ => pts_nil) (fun _ _ _ _ _ => by exact pe_lst (pa_cons (pe_tup (pa_cons (pe_str) (pa_cons (pe_c c_integer hr (by omega) (by rfl) (pa_cons (pv 12) pa_nil)) pa_nil))) (pa_cons (pe_tup (pa_cons (pe_str) (pa_cons (pe_c c_integer hr (by omega) (by rfl) (pa_cons (pe_op op_sub (pv 5) (pv 13)) pa_nil)) pa_nil))) (pa_cons (pe_tup (pa_cons (pe_str) (pa_cons (pe_c c_integer hr (by omega) (by rfl) (pa_cons (pe_op op_sub (pv 6) (pv 14)) pa_nil)) pa_nil))) pa_nil)))))
    (pss_one (ps_ret (pe_c c_row hr (by omega) (by rfl) (pa_cons (pe_lc (own := [("pairs", 15)]) (g := (gName 15)) (te := (tCl _ E0 (tCons (tVar 15) tNil))) rfl sc_Desk_answers_door.nd (pi_list (pv 9)) (blkOk_by (N := N_Desk_answers_door) (sc := defScope s_Desk_answers_door) (by decide +kernel)) (fun _ _ _ _ _ => by exact pg_name (i := 15) sc_Desk_answers_door.nd rfl (Or.inl rfl)) (fun _ _ _ _ _ => pts_nil) (fun _ _ _ _ _ => by exact pe_c c_record hr (by omega) (by rfl) (pa_cons (pv 15) pa_nil))) pa_nil))))) pss_nil)
    (pss_cons (ps_if (pt_cmpR op_eq (pv 1) (pe_int) (nomark _)) (pss_cons (ps_set (i := 10) sc_Desk_answers_door.nd rfl (Or.inl rfl) (pe_ix ix_seq (pe_ix ix_seq (pv 3) (pe_int) (fun _ _ => rfl)) (pe_int) (fun _ _ => rfl)))
    (pss_cons (ps_if (pt_cmpR op_notIn_seq (pv 10) (pe_lc (own := [("one", 12)]) (g := (gName 12)) (te := (tOp (rIx K) (tVar 12) (tC (.int 0)))) rfl sc_Desk_answers_door.nd (pi_list (pv 8)) (blkOk_by (N := N_Desk_answers_door) (sc := defScope s_Desk_answers_door) (by decide +kernel)) (fun _ _ _ _ _ => by exact pg_name (i := 12) sc_Desk_answers_door.nd rfl (Or.inl rfl)) (fun _ _ _ _ _ => pts_nil) (fun _ _ _ _ _ => by exact pe_ix ix_seq (pv 12) (pe_int) (fun _ _ => rfl))) (by with_unfolding_all rfl)) (pss_one (ps_ret (C8.pe_gc (by rfl) T.k_NULL))) pss_nil)
    (pss_one (ps_ret (pe_c c_row hr (by omega) (by rfl) (pa_cons (pe_lc (own := [("at", 16)]) (g := (gName 16)) (te := (tCl _ E0 (tCons (tVar 16) tNil))) rfl sc_Desk_answers_door.nd (pi_list (pe_c c_are_wrong hr (by omega) (by rfl) (pa_cons (pv 10) (pa_cons (pv 7) pa_nil)))) (blkOk_by (N := N_Desk_answers_door) (sc := defScope s_Desk_answers_door) (by decide +kernel)) (fun _ _ _ _ _ => by exact pg_name (i := 16) sc_Desk_answers_door.nd rfl (Or.inl rfl)) (fun _ _ _ _ _ => pts_nil) (fun _ _ _ _ _ => by exact pe_c c_integer hr (by omega) (by rfl) (pa_cons (pv 16) pa_nil))) pa_nil)))))) pss_nil)
    (pss_cons (ps_expr (pe_cX (E := E) c_need_range hr (by omega) (by rfl) (L2N.takes_of rfl rfl rfl rfl) (fun _ _ _ _ h => h) (pa_cons (pe_cmpR op_gt (pe_callB call_len_seq (by rfl) B.len PySem.boot_len (pa_cons (pv 8) pa_nil)) (pe_int) (nomark _)) (pa_cons (pe_str) pa_nil))))
    (pss_cons (ps_if (pt_cmpR op_eq (pv 1) (pe_int) (nomark _)) (pss_one (ps_ret (pe_c c_integer hr (by omega) (by rfl) (pa_cons (pe_m c_Planner_fewest hr (by omega) (pe_fld (pv 0) rfl) (by exact (pa_cons (pv 8) pa_nil))) pa_nil)))) pss_nil)
    (pss_cons (ps_if (pt_cmpR op_eq (pv 1) (pe_int) (nomark _)) (pss_one (ps_ret (pe_c c_number_value hr (by omega) (by rfl) (pa_cons (pe_m c_Planner_best_test hr (by omega) (pe_fld (pv 0) rfl) (by exact (pa_cons (pv 8) pa_nil))) pa_nil)))) pss_nil)
    (pss_cons (ps_set (i := 11) sc_Desk_answers_door.nd rfl (Or.inl rfl) (pe_m c_Planner_fewest hr (by omega) (pe_fld (pv 0) rfl) (by exact (pa_cons (pe_c c_left_by hr (by omega) (by rfl) (pa_cons (pv 8) (pa_cons (pe_ix ix_seq (pe_ix ix_seq (pv 3) (pe_int) (fun _ _ => rfl)) (pe_int) (fun _ _ => rfl)) (pa_cons (pe_bl) pa_nil)))) pa_nil))))
    (pss_one (ps_ret (pe_c c_boolean hr (by omega) (by rfl) (pa_cons (pe_cmpR op_ge (pv 11) (pe_m c_Planner_fewest hr (by omega) (pe_fld (pv 0) rfl) (by exact (pa_cons (pe_c c_left_by hr (by omega) (by rfl) (pa_cons (pv 8) (pa_cons (pe_ix ix_seq (pe_ix ix_seq (pv 3) (pe_int) (fun _ _ => rfl)) (pe_int) (fun _ _ => rfl)) (pa_cons (pe_bl) pa_nil)))) pa_nil))) (nomark _)) pa_nil)))))))))))))), ?_⟩
  obtain ⟨dp, ePl⟩ := id pl
  have lkf : ([("known", .ref KN)] : List (Str × V)).lookup ("fewest" : Str) = none := (lkB (by decide +kernel)).trans rfl
  have lkt : ([("known", .ref KN)] : List (Str × V)).lookup ("best_test" : Str) = none := (lkB (by decide +kernel)).trans rfl
  have nDK : Dk ≠ KN := by
    obtain ⟨xs, e2, _⟩ := mm
    exact ne_of eD e2 fun z => by cases z
  have nPK := known_pl pl mm
  -- versions, bad, good = setting; answers_there
  refine ⟨_, rfl, t, _, rfl, .of et, rfl, _, _, rfl, _, _, rfl, _, _, rfl, rfl, ?_⟩
  refine ⟨_, rfl, .inl ⟨own, ys, 3, v3, rfl, rfl, .of eO, atI_nat (j := 3) hv3, _, rfl, v3, n, u, rfl, hn1, hu, fun as eas las H1 aa k1 na ans1 => ?_, fun e ee d H' m k _ hx mo => ?_⟩⟩
  rotate_left
  · refine bad e ?_ d H' m (Kp.to k) (mm.kp k) hx mo
    unfold ansR
    rw [ee]
    rfl
  have eR : ansR door n p q u tt = (if door = 3 then .ok (.arr ((afterAnswers (startOf n p q) as).map (candidateOf p q)))
      else if door = 5 then andThen (versionArg n tt) fun v => .ok (if (afterAnswers (startOf n p q) as).any fun c => c.version == v then .arr ((wrongOnes v 0 as).map nat) else .null)
      else if door = 1 then andThen (someLeft (n, afterAnswers (startOf n p q) as)) fun e => .ok (nat (fewest e.2))
      else if door = 2 then andThen (someLeft (n, afterAnswers (startOf n p q) as)) fun e => .ok (optP (bestTest e.2))
      else andThen (testedArg n tt) fun k => andThen (someLeft (n, afterAnswers (startOf n p q) as)) fun e => .ok (.bool (worstAnswer e.2 k))) := by
    unfold ansR
    rw [eas]
    rfl
  have eO1 := kat k1 eO
  have eD1 := kat k1 eD
  have eP1 := kat k1 ePl
  have et1 := kat k1 et
  have m1 := mm.kp k1
  -- the two tests
  refine ⟨fun σ' H' => σ' = [some (.ref Dk), some (.int door), some (.ref t), some (.ref own), some (.int n), some (.int p), some (.int q), some (.ref aa), none, none, none, none, none, none, none, none, none] ∧ H' = H1 ∧ (door = 4 → ∃ k, rangeIn 0 (n - 2) tt = some k), ?_, ?_⟩
  · refine ⟨_, rfl, rfl, _, rfl, ifB (fun h4 => ?_) fun h4 => ⟨rfl, rfl, fun z => absurd z (door_ne h4)⟩⟩
    have h4 : door = 4 := door_eq h4
    obtain ⟨v4, hv4, ht4⟩ := hv4 (by omega)
    have ht4 := IsP.mono k1 _ _ ht4
    refine ⟨_, rfl, .inl ⟨own, ys, 4, v4, rfl, rfl, .of eO1, atI_nat (j := 4) hv4, _, rfl, _, _, rfl, rfl, v4, tt, 0, ((n - 2 : Nat) : Int), ?_, ht4, numIn tt 0 ((n - 2 : Nat) : Int), _, rfl, fun hg => ⟨rfl, rfl, fun _ => range_yes ht4 0 (n - 2) hg⟩, fun hg d H' k hx => ?_⟩⟩
    · show [v4, V.int 0, V.int ((n : Int) - 2)] = _
      have e : (n : Int) - 2 = ((n - 2 : Nat) : Int) := by omega
      rw [e]
    · refine bad (R7286g.Spec.beyond "tested must be an integer from 0 to versions - 2") ?_ d H' _ (Kp.to (k1.trans k)) (m1.kp k) hx msg_tested
      rw [eR, if_neg (by omega), if_neg (by omega), if_neg (by omega), if_neg (by omega)]
      unfold testedArg
      rw [range_no ht4 0 (n - 2) hg]
      rfl
  rintro σ' H1 ⟨rfl, rfl, t4⟩
  refine ⟨fun σ' H' => σ' = [some (.ref Dk), some (.int door), some (.ref t), some (.ref own), some (.int n), some (.int p), some (.int q), some (.ref aa), none, none, none, none, none, none, none, none, none] ∧ H' = H1 ∧ (door = 5 → ∃ k, rangeIn 0 (n - 1) tt = some k), ?_, ?_⟩
  · refine ⟨_, rfl, rfl, _, rfl, ifB (fun h4 => ?_) fun h4 => ⟨rfl, rfl, fun z => absurd z (door_ne h4)⟩⟩
    have h4 : door = 5 := door_eq h4
    obtain ⟨v4, hv4, ht4⟩ := hv4 (by omega)
    have ht4 := IsP.mono k1 _ _ ht4
    refine ⟨_, rfl, .inl ⟨own, ys, 4, v4, rfl, rfl, .of eO1, atI_nat (j := 4) hv4, _, rfl, _, _, rfl, rfl, v4, tt, 0, ((n - 1 : Nat) : Int), ?_, ht4, numIn tt 0 ((n - 1 : Nat) : Int), _, rfl, fun hg => ⟨rfl, rfl, fun _ => range_yes ht4 0 (n - 1) hg⟩, fun hg d H' k hx => ?_⟩⟩
    · show [v4, V.int 0, V.int ((n : Int) - 1)] = _
      have e : (n : Int) - 1 = ((n - 1 : Nat) : Int) := by omega
      rw [e]
    · refine bad (R7286g.Spec.beyond "version must be an integer from 0 to versions - 1") ?_ d H' _ (Kp.to (k1.trans k)) (m1.kp k) hx msg_version
      rw [eR, if_neg (by omega), if_pos h4]
      unfold versionArg
      rw [range_no ht4 0 (n - 1) hg]
      rfl
  rintro σ' H1 ⟨rfl, rfl, t5⟩
  -- left
  refine ⟨_, rfl, _, rfl, _, rfl, n, p, q, rfl, by omega, fun H2 l0 k2 n2 l2 => ?_⟩
  refine ⟨_, rfl, l0, aa, _, as, rfl, l2, ans1.kp k2, by rw [startOf, List.length_map, List.length_range]; omega, fun H3 l k3 l3 => ?_⟩
  have k13 : Kp H1 H3 := k2.trans k3
  have k03 : Kp H H3 := k1.trans k13
  have lf : Lf (afterAnswers (startOf n p q) as) := (Lf.start (n := n) (p := p) (q := q) hn2 hp hq).afters as
  have bnd : ∀ c ∈ afterAnswers (startOf n p q) as, c.bad ≤ p ∧ c.good ≤ q := afters_bound (n := n) as fun c hc => by
    obtain ⟨v, _, rfl⟩ := List.mem_map.mp hc
    exact ⟨Nat.le_refl _, Nat.le_refl _⟩
  obtain ⟨ts, eL, pr⟩ := id l3
  have m3 := mm.kp k03
  have nlK : l ≠ KN := known_lst eL m3
  have eD3 := kat k13 eD1
  have eP3 := kat k13 eP1
  have ans3 := ans1.kp k13
  generalize afterAnswers (startOf n p q) as = ll at l3 pr lf bnd eR
  have lts : ts.length = ll.length := pr.length
  have l10 := lf.len
  have walkL : Walk (Itl K l) (fun _ => False) H3 ll.length fun i x _ => ts[i]? = some x := by rw [← lts]; exact walk_list (.of eL) fun f => f
  refine ⟨_, rfl, rfl, _, rfl, ifB (fun h3 => ?_) fun h3 => ?_⟩
  · have h3 : door = 3 := door_eq h3
    rw [if_pos h3] at eR
    refine ⟨_, rfl, l, rfl, ⟨_, .of eL⟩, fun D hD => ?_⟩
    refine lcI (F := fun _ => False) (cs := ll) walkL (fun c => ([(R7286g.Spec.units "version", nat c.version), (R7286g.Spec.units "wrongBad", nat (p - c.bad)), (R7286g.Spec.units "wrongGood", nat (q - c.good))] : List (Units × Plain))) (fun _ _ => True) (fun H y fs => ∃ (a : Addr) (vs : List V), y = .ref a ∧ H a = some (.lst vs) ∧ a ≠ D ∧ vs.length ≤ 1000 ∧ Paired (RecIn K H) vs fs) (fun f => f) hD (lenL (by omega)) trivial (fun _ _ _ _ h => h)
      (fun H H' y b k ⟨a, vs, e, ea, ne, hl, pp⟩ => ⟨a, vs, e, k.all _ _ ea (fun z => z.elim (fun f => f) ne), ne, hl, pd_mono pp fun _ _ r => r.mono k⟩) (fun i c x H4 Qy hc it k4 _ ⟨acc, eacc⟩ go => ?_) fun H4 zs k4 _ e4 p4 => ?_
    · obtain ⟨c2, hc2, uc, rfl, euc⟩ := pd_get pr it
      obtain rfl : c = c2 := by
        rw [hc] at hc2
        exact Option.some.inj hc2
      have hb := bnd c (mem_of_get hc)
      refine ⟨uc, _, rfl, .of (k4.tup _ _ euc), rfl, _, _, rfl, _, _, rfl, _, _, rfl, rfl, rfl, ?_⟩
      refine ⟨_, rfl, (c.version : Int), rfl, fun H5 u5 k5 h5 => ⟨two_le, fun ta nta => ?_⟩⟩
      have kta : Kp H5 (upd H5 ta (.tup [.str "version", u5])) := Keep.new nta
      have eta : upd H5 ta (.tup [.str "version", u5]) ta = some (.tup [.str "version", u5]) := upd_same
      generalize upd H5 ta (.tup [.str "version", u5]) = H6 at kta eta
      refine ⟨_, rfl, _, rfl, _, _, rfl, rfl, (p : Int) - c.bad, rfl, fun H7 u7 k7 h7 => ⟨two_le, fun tb ntb => ?_⟩⟩
      have ktb : Kp H7 (upd H7 tb (.tup [.str "wrongBad", u7])) := Keep.new ntb
      have etb : upd H7 tb (.tup [.str "wrongBad", u7]) tb = some (.tup [.str "wrongBad", u7]) := upd_same
      generalize upd H7 tb (.tup [.str "wrongBad", u7]) = H8 at ktb etb
      refine ⟨_, rfl, _, rfl, _, _, rfl, rfl, (q : Int) - c.good, rfl, fun H9 u9 k9 h9 => ⟨two_le, fun tc ntc => ⟨three_le, fun lr nlr => ?_⟩⟩⟩
      have ktc : Kp H9 (upd H9 tc (.tup [.str "wrongGood", u9])) := Keep.new ntc
      have etc : upd H9 tc (.tup [.str "wrongGood", u9]) tc = some (.tup [.str "wrongGood", u9]) := upd_same
      generalize upd H9 tc (.tup [.str "wrongGood", u9]) = Ha at ktc etc nlr
      have klr : Kp Ha (upd Ha lr (.lst [.ref ta, .ref tb, .ref tc])) := Keep.new nlr
      have kbc : Kp H8 (upd Ha lr (.lst [.ref ta, .ref tb, .ref tc])) := (k9.trans ktc).trans klr
      have kac : Kp H6 (upd Ha lr (.lst [.ref ta, .ref tb, .ref tc])) := (k7.trans ktb).trans kbc
      have e1 : (p : Int) - c.bad = ((p - c.bad : Nat) : Int) := by omega
      have e2 : (q : Int) - c.good = ((q - c.good : Nat) : Int) := by omega
      rw [e1] at h7
      rw [e2] at h9
      have kall : Kp H4 (upd Ha lr (.lst [.ref ta, .ref tb, .ref tc])) := (k5.trans kta).trans kac
      have nD : lr ≠ D := (ne_of_none (kat ((((k5.trans kta).trans k7).trans ktb).trans (k9.trans ktc)) eacc) nlr).symm
      exact go _ _ kall trivial ⟨lr, _, rfl, upd_same, nD, (by show 3 ≤ 1000; decide), .cons ⟨ta, "version", u5, rfl, kac.tup _ _ eta, m_version.asc, m_version.len, m_version.eq, IsP.mono (kta.trans kac) _ _ h5⟩ (.cons ⟨tb, "wrongBad", u7, rfl, kbc.tup _ _ etb, m_wrongBad.asc, m_wrongBad.len, m_wrongBad.eq, IsP.mono (ktb.trans kbc) _ _ h7⟩ (.cons ⟨tc, "wrongGood", u9, rfl, klr.tup _ _ etc, m_wrongGood.asc, m_wrongGood.len, m_wrongGood.eq, IsP.mono (ktc.trans klr) _ _ h9⟩ .nil))⟩
    · -- record each
      refine ⟨_, rfl, D, rfl, ⟨_, .of e4⟩, fun D2 hD2 => ?_⟩
      have nDD : D ≠ D2 := ne_of_none e4 hD2
      have elz : zs.length = (ll.map fun c => ([(R7286g.Spec.units "version", nat c.version), (R7286g.Spec.units "wrongBad", nat (p - c.bad)), (R7286g.Spec.units "wrongGood", nat (q - c.good))] : List (Units × Plain))).length := p4.length
      refine lcA (F := fun _ => False) (cs := ll.map fun c => ([(R7286g.Spec.units "version", nat c.version), (R7286g.Spec.units "wrongBad", nat (p - c.bad)), (R7286g.Spec.units "wrongGood", nat (q - c.good))] : List (Units × Plain))) (by rw [← elz]; exact walk_list (.of e4) fun f => f) (fun fs => Plain.obj fs) (fun _ => True) (IsP K) (fun f => f) hD2 (lenL (by rw [List.length_map]; omega)) trivial (fun _ _ _ h => h)
        (fun _ _ _ _ k r => IsP.mono k _ _ r) (fun i fs x H5 Qy hc it k5 _ go => ?_) fun H5 ws k5 _ e5 p5 => ?_
      · obtain ⟨fs2, hfs2, a, vs, rfl, ea, _, hl, pp⟩ := pd_get p4 it
        obtain rfl : fs = fs2 := by
          rw [hc] at hfs2
          exact Option.some.inj hfs2
        refine ⟨rfl, _, rfl, a, vs, fs, rfl, kat k5 ea, pd_mono pp fun _ _ r => r.mono k5, hl, fun H6 u6 k6 h6 => go _ _ k6 trivial h6⟩
      · rw [List.map_map] at p5
        refine ⟨D2, ws, _, rfl, e5, isPs_of p5, fun H6 u6 k6 h6 => ?_⟩
        have kk : Kp H H6 := ((k03.trans k4).trans k5).trans k6
        exact good _ eR H6 u6 kk.to (mm.kp kk) h6
  have h3 : door ≠ 3 := door_ne h3
  rw [if_neg h3] at eR
  refine ⟨_, rfl, rfl, _, rfl, ifB (fun h5 => ?_) fun h5 => ?_⟩
  · have h5 : door = 5 := door_eq h5
    rw [if_pos h5] at eR
    obtain ⟨v4, hv4, ht4⟩ := hv4 (by omega)
    obtain ⟨v, ev⟩ := t5 h5
    have ht4 := IsP.mono k03 _ _ ht4
    have ett := (range_some ev).1 _ _ _ ht4
    have evA : versionArg n tt = .ok v := by
      unfold versionArg
      rw [ev]
    rw [evA] at eR
    rw [ett] at ht4
    obtain ⟨tv, rfl, htv⟩ := isP_int ht4
    have eR : ansR door n p q u tt = .ok (if ll.any fun c => c.version == v then .arr ((wrongOnes v 0 as).map nat) else .null) := eR
    refine ⟨_, rfl, .inl ⟨own, ys, 4, _, rfl, rfl, .of (kat k13 eO1), atI_nat (j := 4) hv4, .inr (.inl ⟨tv, _, 1, _, rfl, rfl, htv, atI_nat (j := 1) rfl, ?_⟩)⟩⟩
    refine ⟨_, rfl, _, rfl, l, rfl, ⟨_, .of eL⟩, fun D hD => ?_⟩
    refine lcA (F := fun _ => False) (cs := ll) walkL (fun c => c.version) (fun _ => True) (fun _ y b => y = V.int (b : Nat)) (fun f => f) hD (lenL (by omega)) trivial (fun _ _ _ h => h) (fun _ _ _ _ _ r => r) (fun i c x H4 Qy hc it k4 _ go => ?_) fun H4 zs k4 _ e4 p4 => ?_
    · obtain ⟨c2, hc2, uc, rfl, euc⟩ := pd_get pr it
      obtain rfl : c = c2 := by
        rw [hc] at hc2
        exact Option.some.inj hc2
      exact ⟨rfl, _, rfl, .inr (.inl ⟨uc, _, 0, _, rfl, rfl, .of (k4.tup _ _ euc), atI_nat (j := 0) rfl, go _ _ .refl trivial rfl⟩)⟩
    · have ez := pd_eq p4
      have ein : inV (.int (v : Int)) zs = ll.any fun c => c.version == v := by
        rw [ez, List.map_map]
        unfold inV
        rw [List.any_map]
        congr 1
        funext c
        show ((c.version : Int) == (v : Int)) = (c.version == v)
        by_cases h : c.version = v
        · rw [h, beq_self_eq_true, beq_self_eq_true]
        · rw [beq_eq_false_iff_ne.mpr h, beq_eq_false_iff_ne.mpr (by omega)]
      have efl : zs.all flatV = true := by
        rw [ez, List.map_map, List.all_map]
        exact List.all_eq_true.mpr fun _ _ => rfl
      have k04 : Kp H H4 := k03.trans k4
      refine ⟨D, zs, rfl, .inl (.of e4), rfl, efl, _, rfl, ?_⟩
      show if (!inV (.int (v : Int)) zs) = true then _ else _
      rw [ein]
      cases ea : ll.any fun c => c.version == v with
      | false =>
        rw [ea] at eR
        exact ifT rfl (good _ eR H4 _ k04.to (mm.kp k04) ⟨aU, rfl, T.t_NULL _⟩)
      | true =>
        rw [ea] at eR
        refine ifF rfl ?_
        refine ⟨_, rfl, _, rfl, v, aa, as, rfl, ans3.kp k4, Nat.le_trans las (by decide), fun H6 r6 k6 n6 e6 => ⟨r6, rfl, ⟨_, .of e6⟩, fun D3 hD3 => ?_⟩⟩
        have lw : (wrongOnes v 0 as).length ≤ 100 := by
          rw [wrong_zip]
          refine Nat.le_trans (List.length_filterMap_le _ _) ?_
          rw [List.length_zipIdx]
          omega
        refine lcA (F := fun _ => False) (cs := wrongOnes v 0 as) (Item := fun i x _ => ∃ n, (wrongOnes v 0 as)[i]? = some n ∧ x = V.int (n : Nat)) ?_ (fun n => nat n) (fun _ => True) (IsP K) (fun f => f) hD3 (lenL (by omega)) trivial (fun _ _ _ h => h) (fun _ _ _ _ k r => IsP.mono k _ _ r) (fun i n x H7 Qy hc it k7 _ go => ?_) fun H7 zs k7 _ e7 p7 => ?_
        · have wl := walk_list (F := fun _ => False) (SqL.of (K := K) e6) (fun f => f)
          rw [List.length_map] at wl
          refine ⟨wl.go, wl.stop, fun i x H H' hi k y => ⟨(wl.yld i x H H' hi k y).1, ?_⟩⟩
          have z := (wl.yld i x H H' hi k y).2
          rw [List.getElem?_map] at z
          cases e : (wrongOnes v 0 as)[i]? with
          | none => rw [e] at z; cases z
          | some n =>
            rw [e] at z
            exact ⟨n, rfl, (Option.some.inj z).symm⟩
        · obtain ⟨n', hn', rfl⟩ := it
          obtain rfl : n = n' := by
            rw [hc] at hn'
            exact Option.some.inj hn'
          exact ⟨rfl, _, rfl, (n : Int), rfl, fun H8 u8 k8 h8 => go _ _ k8 trivial h8⟩
        · refine ⟨D3, zs, _, rfl, e7, isPs_of p7, fun H8 u8 k8 h8 => ?_⟩
          have k08 : Kp H H8 := (k04.trans k6).trans (k7.trans k8)
          exact good _ eR H8 u8 k08.to (mm.kp k08) h8
  have h5 : door ≠ 5 := door_ne h5
  rw [if_neg h5] at eR
  -- some version is left
  refine ⟨_, rfl, l, ts, rfl, .inl (.of eL), _, _, rfl, rfl, decide ((0 : Int) < (ts.length : Int)), _, rfl, fun hg => ?_, fun hg d H' k hx => ?_⟩
  rotate_left
  · have hg : ¬ (0 : Int) < (ts.length : Int) := of_decide_eq_false hg
    have e0 : ll = [] := List.length_eq_zero_iff.mp (by omega)
    have es : someLeft (n, ll) = .error R7286g.Spec.noVersion := by
      unfold someLeft
      rw [e0]
      rfl
    refine bad R7286g.Spec.noVersion ?_ d H' _ (Kp.to (k03.trans k)) (m3.kp k) hx msg_noVersion
    rw [eR, es]
    by_cases h1 : door = 1
    · rw [if_pos h1]
      rfl
    · rw [if_neg h1]
      by_cases h2 : door = 2
      · rw [if_pos h2]
        rfl
      · rw [if_neg h2]
        obtain ⟨k, ek⟩ := t4 (by omega)
        have : testedArg n tt = .ok k := by
          unfold testedArg
          rw [ek]
        rw [this]
        rfl
  have hg : (0 : Int) < (ts.length : Int) := of_decide_eq_true hg
  have hnl : ll ≠ [] := fun z => by
    rw [z] at lts
    rw [lts] at hg
    exact absurd hg (by decide)
  have es : someLeft (n, ll) = .ok (n, ll) := by
    unfold someLeft
    show (if ll.isEmpty = true then _ else _) = _
    rw [if_neg (by rw [List.isEmpty_eq_false_iff.mpr hnl]; decide)]
  rw [es] at eR
  refine ⟨_, rfl, rfl, _, rfl, ifB (fun h1 => ?_) fun h1 => ?_⟩
  · have h1 : door = 1 := door_eq h1
    rw [if_pos h1] at eR
    refine ⟨_, rfl, Dk, CD, dx, _, _, rfl, eD3, C.cl, C.nP, dk_planner, Pl, dp, _, rfl, eP3, lkf, _, rfl, Pl, KN, l, ll, rfl, ⟨dp, eP3⟩, m3, l3, lf, by have := lf.sum; omega, fun H4 k4 m4 => ⟨_, rfl, fun H5 r5 k5 h5 => ?_⟩⟩
    exact good _ eR H5 r5 (k03.to.trans (k4.trans k5.to)) (m4.kp k5) h5
  have h1 : door ≠ 1 := door_ne h1
  rw [if_neg h1] at eR
  refine ⟨_, rfl, rfl, _, rfl, ifB (fun h2 => ?_) fun h2 => ?_⟩
  · have h2 : door = 2 := door_eq h2
    rw [if_pos h2] at eR
    refine ⟨_, rfl, Dk, CD, dx, _, _, rfl, eD3, C.cl, C.nP, dk_planner, Pl, dp, _, rfl, eP3, lkt, _, rfl, Pl, KN, l, ll, rfl, ⟨dp, eP3⟩, m3, l3, lf, fun H4 k4 m4 => ⟨_, rfl, fun H5 r5 k5 h5 => ?_⟩⟩
    exact good _ eR H5 r5 (k03.to.trans (k4.trans k5.to)) (m4.kp k5) h5
  have h2 : door ≠ 2 := door_ne h2
  rw [if_neg h2] at eR
  have hd4 : door = 4 := by omega
  obtain ⟨v4, hv4, ht4⟩ := hv4 (by omega)
  obtain ⟨k, ek⟩ := t4 hd4
  have ht4 := IsP.mono k03 _ _ ht4
  have ett := (range_some ek).1 _ _ _ ht4
  have ekA : testedArg n tt = .ok k := by
    unfold testedArg
    rw [ek]
  rw [ekA] at eR
  have eR : ansR door n p q u tt = .ok (.bool (worstAnswer ll k)) := eR
  rw [ett] at ht4
  obtain ⟨tv, rfl, htv⟩ := isP_int ht4
  have eO3 := kat k13 eO1
  refine ⟨_, rfl, Dk, CD, dx, _, _, rfl, eD3, C.cl, C.nP, dk_planner, Pl, dp, _, rfl, eP3, lkf, _, rfl, _, rfl, .inl ⟨own, ys, 4, _, rfl, rfl, .of eO3, atI_nat (j := 4) hv4, .inr (.inl ⟨tv, _, 1, _, rfl, rfl, htv, atI_nat (j := 1) rfl, l, k, true, ll, rfl, l3, by omega, fun H4 r4 k4 n4 l4 => ?_⟩)⟩⟩
  refine ⟨Pl, KN, r4, _, rfl, ⟨dp, kat k4 eP3⟩, m3.kp k4, l4, lf.after k true, by have := (lf.after k true).sum; omega, fun H5 k5 m5 => ?_⟩
  have k35 : Keep (fun b => b = KN) H3 H5 := k4.to.trans k5
  have nOK : own ≠ KN := known_lst eO3 m3
  refine ⟨_, rfl, _, rfl, Dk, CD, dx, _, _, rfl, k35.all _ _ eD3 nDK, C.cl, C.nP, dk_planner, Pl, dp, _, rfl, k35.all _ _ eP3 nPK, lkf, _, rfl, _, rfl, .inl ⟨own, ys, 4, _, rfl, rfl, .of (k35.all _ _ eO3 nOK), atI_nat (j := 4) hv4, .inr (.inl ⟨tv, _, 1, _, rfl, rfl, k35.sqT htv, atI_nat (j := 1) rfl, l, k, false, ll, rfl, l3.mono k35 nlK, by omega, fun H6 r6 k6 n6 l6 => ?_⟩)⟩⟩
  refine ⟨Pl, KN, r6, _, rfl, ⟨dp, kat k6 (k35.all _ _ eP3 nPK)⟩, m5.kp k6, l6, lf.after k false, by have := (lf.after k false).sum; omega, fun H7 k7 m7 => ?_⟩
  refine ⟨_, _, rfl, rfl, _, rfl, fun H8 r8 k8 h8 => ?_⟩
  have ew : decide (((fewest (afterAnswer ll k false) : Nat) : Int) ≤ ((fewest (afterAnswer ll k true) : Nat) : Int)) = worstAnswer ll k := by
    unfold worstAnswer
    exact decide_eq_decide.mpr (by omega)
  rw [ew] at h8
  exact good _ eR H8 r8 (k03.to.trans (k35.trans (k6.to.trans (k7.trans k8.to)))) (m7.kp k8) h8
end
end Fs

/-! The desk's state; Desk.__init__, search_door. -/
namespace Fs
open PySem PySem.Spec PyProof.Rows L2 L2H
open R7286g.Spec (Plain Units Search outcomePlain setSearch step hasSearch hasOpen execute creates begun begunWithValue repliesOf Reply nat isList)
abbrev SW := R7286g.Spec.World
structure DeskAt (P : Program) (w : World) (K : PySem.W.Frag) (CP CS CD : Addr) (H : Hp) (Dk Pl KN SD : Addr) (kvs : List (Key × V)) (sl : Nat → Addr × Addr × Addr) (W : SW) : Prop where
  desk : ∃ dx, H Dk = some (.ins CD dx (dkF Pl SD))
  pl : PlAt CP H Pl KN
  mm : MemoAt P w KN H
  sd : H SD = some (.dK kvs)
  kl : kvs.length ≤ W.created
  wl : W.searches.length = 3
  sr : ∀ p s, W.searches.getD p none = some s → valV kvs (.inl ((p : Nat) : Int)) = some (.ref (sl p).1) ∧ SrAt K CS H (sl p).1 (sl p).2.1 (sl p).2.2 Pl s ∧ (sl p).2.1 ≠ (sl p).2.2
  sep : ∀ p q s t, p ≠ q → W.searches.getD p none = some s → W.searches.getD q none = some t → (sl p).1 ≠ (sl q).1 ∧ (sl p).2.1 ≠ (sl q).2.1 ∧ (sl p).2.1 ≠ (sl q).2.2
def DkAt (P : Program) (w : World) (K : PySem.W.Frag) (CP CS CD : Addr) (H : Hp) (Dk : Addr) (W : SW) : Prop := ∃ Pl KN SD kvs sl, DeskAt P w K CP CS CD H Dk Pl KN SD kvs sl W
section
variable {P : Program} {w : World} {K : PySem.W.Frag} {mg : Str → Option Value} {base : Heap} {CP CS CD CR : Addr} {H H' : Hp} {Dk Pl KN SD : Addr} {kvs : List (Key × V)} {sl : Nat → Addr × Addr × Addr} {W : SW}
theorem DeskAt.keep (D : DeskAt P w K CP CS CD H Dk Pl KN SD kvs sl W) (k : Keep (fun b => b = KN) H H') (m : MemoAt P w KN H') : DeskAt P w K CP CS CD H' Dk Pl KN SD kvs sl W := by
  obtain ⟨dx, eD⟩ := D.desk
  obtain ⟨xs, eK, _⟩ := D.mm
  have nK : ∀ {b : Addr} {o : HO}, H b = some o → o ≠ dN P w KN xs → b ≠ KN := fun e n => ne_of e eK n
  refine ⟨⟨dx, k.all _ _ eD (nK eD (by intro z; cases z))⟩, D.pl.keep k (known_pl D.pl D.mm), m, k.all _ _ D.sd (nK D.sd (by intro z; cases z)), D.kl, D.wl, fun p s e => ?_, D.sep⟩
  obtain ⟨h1, h2, h3⟩ := D.sr p s e
  obtain ⟨dS, ov, eS, _⟩ := h2.obj
  obtain ⟨ya, eA⟩ := h2.al
  obtain ⟨yl, eL⟩ := h2.ll
  exact ⟨h1, h2.keep k (nK eS (by intro z; cases z)) (nK eA (by intro z; cases z)) (nK eL (by intro z; cases z)), h3⟩
theorem getD_set {α : Type} (l : List (Option α)) {p : Nat} (h : p < l.length) (x : Option α) (q : Nat) : (l.set p x).getD q none = if q = p then x else l.getD q none := by
  rw [List.getD_eq_getElem?_getD, List.getD_eq_getElem?_getD, List.getElem?_set]
  by_cases e : p = q
  · subst e
    rw [if_pos rfl, if_pos rfl, if_pos h]
    rfl
  · rw [if_neg e, if_neg (fun z => e z.symm)]
theorem putK_le (kvs : List (Key × V)) (k : Key) (v : V) : (putK kvs k v).length ≤ kvs.length + 1 := by
  unfold putK
  split
  · rw [List.length_map]
    omega
  · rw [List.length_append]
    exact Nat.le_refl _
/-- a new search is put in its slot -/
theorem DeskAt.put (D : DeskAt P w K CP CS CD H Dk Pl KN SD kvs sl W) {p : Nat} (hp : p < 3) {H1 : Hp} {S A L : Addr} {s : Search} (k : Keep (fun b => b = KN) H H1) (m : MemoAt P w KN H1) (sn : SrNew K CS H H1 S A L Pl s) :
    DeskAt P w K CP CS CD (upd H1 SD (.dK (putK kvs (.inl (p : Int)) (.ref S)))) Dk Pl KN SD (putK kvs (.inl (p : Int)) (.ref S)) (fun q => if q = p then (S, A, L) else sl q) { setSearch W p s with created := W.created + 1 } := by
  have D1 := D.keep k m
  obtain ⟨dx, eD⟩ := D1.desk
  have eSD := D1.sd
  have kS : Keep (fun b => b = SD) H1 (upd H1 SD (.dK (putK kvs (.inl (p : Int)) (.ref S)))) := Keep.put rfl eSD (by intro z; exact HO.noConfusion) (by intro z w; exact HO.noConfusion)
  have nn : ∀ {b : Addr} {o : HO}, H1 b = some o → o ≠ .dK kvs → b ≠ SD := fun e n => ne_of e eSD n
  obtain ⟨dp, ePl⟩ := D1.pl
  have hpl : p < W.searches.length := by rw [D.wl]; exact hp
  have gs : ∀ q, (W.searches.set p (some s)).getD q none = if q = p then some s else W.searches.getD q none := fun q => getD_set _ hpl _ q
  have nSD : ∀ {b : Addr}, H b = none → b ≠ SD := fun e z => by rw [z, D.sd] at e; cases e
  refine ⟨⟨dx, kS.all _ _ eD (nn eD (by intro z; cases z))⟩, ⟨dp, kS.all _ _ ePl (nn ePl (by intro z; cases z))⟩, D1.mm.keep (by
      obtain ⟨xs, eK, _⟩ := D1.mm
      exact nn eK (by intro z; cases z)) kS, upd_same, Nat.le_trans (putK_le _ _ _) (Nat.succ_le_succ D.kl), (by show (W.searches.set p (some s)).length = 3; rw [List.length_set]; exact D.wl), fun q t e => ?_, fun q r t u n e1 e2 => ?_⟩
  · have e : (W.searches.set p (some s)).getD q none = some t := e
    rw [gs] at e
    by_cases h : q = p
    · subst h
      rw [if_pos rfl] at e
      obtain rfl : s = t := Option.some.inj e
      show valV _ _ = some (.ref (if q = q then (S, A, L) else sl q).1) ∧ SrAt K CS _ (if q = q then (S, A, L) else sl q).1 (if q = q then (S, A, L) else sl q).2.1 (if q = q then (S, A, L) else sl q).2.2 Pl s ∧ (if q = q then (S, A, L) else sl q).2.1 ≠ (if q = q then (S, A, L) else sl q).2.2
      rw [if_pos rfl]
      refine ⟨by rw [valV_put, if_pos rfl], sn.at_.keep kS (nSD sn.nS) (nSD sn.nA) (nSD sn.nL), sn.aL⟩
    · rw [if_neg h] at e
      obtain ⟨h1, h2, h3⟩ := D1.sr q t e
      obtain ⟨dS, ov, eS, _⟩ := h2.obj
      obtain ⟨ya, eA⟩ := h2.al
      obtain ⟨yl, eL⟩ := h2.ll
      show valV _ _ = some (.ref (if q = p then (S, A, L) else sl q).1) ∧ SrAt K CS _ (if q = p then (S, A, L) else sl q).1 (if q = p then (S, A, L) else sl q).2.1 (if q = p then (S, A, L) else sl q).2.2 Pl t ∧ (if q = p then (S, A, L) else sl q).2.1 ≠ (if q = p then (S, A, L) else sl q).2.2
      rw [if_neg h]
      refine ⟨?_, h2.keep kS (nn eS (by intro z; cases z)) (nn eA (by intro z; cases z)) (nn eL (by intro z; cases z)), h3⟩
      rw [valV_put, if_neg (fun z => h (by injection z with z; exact Int.ofNat.inj z))]
      exact h1
  · have e1 : (W.searches.set p (some s)).getD q none = some t := e1
    have e2 : (W.searches.set p (some s)).getD r none = some u := e2
    rw [gs] at e1 e2
    show (if q = p then (S, A, L) else sl q).1 ≠ (if r = p then (S, A, L) else sl r).1 ∧ (if q = p then (S, A, L) else sl q).2.1 ≠ (if r = p then (S, A, L) else sl r).2.1 ∧ (if q = p then (S, A, L) else sl q).2.1 ≠ (if r = p then (S, A, L) else sl r).2.2
    by_cases hq : q = p
    · have hr : r ≠ p := fun z => n (hq.trans z.symm)
      rw [if_neg hr] at e2
      rw [if_pos hq, if_neg hr]
      obtain ⟨h1, h2, h3⟩ := D.sr r u e2
      obtain ⟨dS, ov, eS, _⟩ := h2.obj
      obtain ⟨ya, eA⟩ := h2.al
      obtain ⟨yl, eL⟩ := h2.ll
      exact ⟨(ne_of_none eS sn.nS).symm, (ne_of_none eA sn.nA).symm, (ne_of_none eL sn.nA).symm⟩
    · rw [if_neg hq] at e1
      rw [if_neg hq]
      by_cases hr : r = p
      · rw [if_pos hr]
        obtain ⟨h1, h2, h3⟩ := D.sr q t e1
        obtain ⟨dS, ov, eS, _⟩ := h2.obj
        obtain ⟨ya, eA⟩ := h2.al
        exact ⟨ne_of_none eS sn.nS, ne_of_none eA sn.nA, ne_of_none eA sn.nL⟩
      · rw [if_neg hr] at e2
        rw [if_neg hr]
        exact D.sep q r t u n e1 e2
/-- a search goes on in its slot -/
theorem DeskAt.move (D : DeskAt P w K CP CS CD H Dk Pl KN SD kvs sl W) {p : Nat} (hp : p < 3) {s s' : Search} {L' : Addr} (e0 : W.searches.getD p none = some s) (k : Keep (fun b => b = KN ∨ b = (sl p).1 ∨ b = (sl p).2.1) H H') (m : MemoAt P w KN H') (sr : SrAt K CS H' (sl p).1 (sl p).2.1 L' Pl s') (hL : L' = (sl p).2.2 ∨ H L' = none) :
    DeskAt P w K CP CS CD H' Dk Pl KN SD kvs (fun q => if q = p then ((sl p).1, (sl p).2.1, L') else sl q) (setSearch W p s') := by
  obtain ⟨_, sp0, aL0⟩ := D.sr p s e0
  obtain ⟨dS, ov, eS, _⟩ := sp0.obj
  obtain ⟨ya, eA⟩ := sp0.al
  obtain ⟨dx, eD⟩ := D.desk
  obtain ⟨dp, ePl⟩ := D.pl
  obtain ⟨xs, eK, _⟩ := D.mm
  have hpl : p < W.searches.length := by rw [D.wl]; exact hp
  have gs : ∀ q, (W.searches.set p (some s')).getD q none = if q = p then some s' else W.searches.getD q none := fun q => getD_set _ hpl _ q
  have stay : ∀ {b : Addr} {o : HO}, H b = some o → o ≠ dN P w KN xs → b ≠ (sl p).1 → b ≠ (sl p).2.1 → ¬ (b = KN ∨ b = (sl p).1 ∨ b = (sl p).2.1) := fun e n1 n2 n3 z => by
    rcases z with z | z | z
    · exact ne_of e eK n1 z
    · exact n2 z
    · exact n3 z
  have aL' : (sl p).2.1 ≠ L' := by
    rcases hL with z | z
    · rw [z]; exact aL0
    · exact ne_of_none eA z
  refine ⟨⟨dx, k.all _ _ eD (stay eD (by intro z; cases z) (ne_of eD eS (by intro z; cases z)) (ne_of eD eA (by intro z; cases z)))⟩, ⟨dp, k.all _ _ ePl (stay ePl (by intro z; cases z) (ne_of ePl eS (by intro z; cases z)) (ne_of ePl eA (by intro z; cases z)))⟩, m, k.all _ _ D.sd (stay D.sd (by intro z; cases z) (ne_of D.sd eS (by intro z; cases z)) (ne_of D.sd eA (by intro z; cases z))), D.kl, (by show (W.searches.set p (some s')).length = 3; rw [List.length_set]; exact D.wl), fun q t e => ?_, fun q r t u n e1 e2 => ?_⟩
  · have e : (W.searches.set p (some s')).getD q none = some t := e
    rw [gs] at e
    show valV _ _ = some (.ref (if q = p then ((sl p).1, (sl p).2.1, L') else sl q).1) ∧ SrAt K CS _ (if q = p then ((sl p).1, (sl p).2.1, L') else sl q).1 (if q = p then ((sl p).1, (sl p).2.1, L') else sl q).2.1 (if q = p then ((sl p).1, (sl p).2.1, L') else sl q).2.2 Pl t ∧ (if q = p then ((sl p).1, (sl p).2.1, L') else sl q).2.1 ≠ (if q = p then ((sl p).1, (sl p).2.1, L') else sl q).2.2
    by_cases h : q = p
    · subst h
      rw [if_pos rfl] at e
      obtain rfl : s' = t := Option.some.inj e
      rw [if_pos rfl]
      exact ⟨(D.sr q s e0).1, sr, aL'⟩
    · rw [if_neg h] at e
      rw [if_neg h]
      obtain ⟨h1, h2, h3⟩ := D.sr q t e
      obtain ⟨dS2, ov2, eS2, _⟩ := h2.obj
      obtain ⟨ya2, eA2⟩ := h2.al
      obtain ⟨yl2, eL2⟩ := h2.ll
      obtain ⟨n1, n2, n3⟩ := D.sep q p t s h e e0
      obtain ⟨n4, n5, n6⟩ := D.sep p q s t (fun z => h z.symm) e0 e
      exact ⟨h1, h2.keep k (stay eS2 (by intro z; cases z) n1 (ne_of eS2 eA (by intro z; cases z))) (stay eA2 (by intro z; cases z) (ne_of eA2 eS (by intro z; cases z)) n2) (stay eL2 (by intro z; cases z) (ne_of eL2 eS (by intro z; cases z)) n6.symm), h3⟩
  · have e1 : (W.searches.set p (some s')).getD q none = some t := e1
    have e2 : (W.searches.set p (some s')).getD r none = some u := e2
    rw [gs] at e1 e2
    show (if q = p then ((sl p).1, (sl p).2.1, L') else sl q).1 ≠ (if r = p then ((sl p).1, (sl p).2.1, L') else sl r).1 ∧ (if q = p then ((sl p).1, (sl p).2.1, L') else sl q).2.1 ≠ (if r = p then ((sl p).1, (sl p).2.1, L') else sl r).2.1 ∧ (if q = p then ((sl p).1, (sl p).2.1, L') else sl q).2.1 ≠ (if r = p then ((sl p).1, (sl p).2.1, L') else sl r).2.2
    by_cases hq : q = p
    · have hr : r ≠ p := fun z => n (hq.trans z.symm)
      rw [if_neg hr] at e2
      rw [if_pos hq, if_neg hr]
      exact D.sep p r s u (fun z => hr z.symm) e0 e2
    · rw [if_neg hq] at e1
      rw [if_neg hq]
      by_cases hr : r = p
      · rw [if_pos hr]
        obtain ⟨n1, n2, n3⟩ := D.sep q p t s hq e1 e0
        refine ⟨n1, n2, ?_⟩
        rcases hL with z | z
        · show (sl q).2.1 ≠ L'
          rw [z]
          exact n3
        · obtain ⟨ya2, eA2⟩ := (D.sr q t e1).2.1.al
          exact ne_of_none eA2 z
      · rw [if_neg hr] at e2
        rw [if_neg hr]
        exact D.sep q r t u n e1 e2
/-! ### __init__ -/
def spDkNew (P : Program) (w : World) (K : PySem.W.Frag) (CP CS CD : Addr) : Sp := fun vs H Q _ => ∃ (p dx : Addr), vs = [.ref p] ∧ H p = some (.ins CD dx []) ∧ ∀ H', Keep (fun b => b = p) H H' → DkAt P w K CP CS CD H' p Rust.start → Q .non H'
theorem b_Desk_new (C : DkC K CD) (c_Planner_new : Mak P w K mg base 1 "Planner" CP (spPlNew P w CP)) : Bd P w K mg base N_Desk_new "Desk.__init__" s_Desk_new 2 (spDkNew P w K CP CS CD) := by
  rintro f cdv A outer s H vs Q E hr ⟨p, dx, rfl, hp, post⟩
  refine ⟨_, pss_cons (ps_fld (pv 0) (pe_k0 c_Planner_new hr (by omega) (by rfl)) rfl)
    (pss_one (ps_fld (pv 0) (pe_dnewK) rfl)), ?_⟩
  intro x dd nx ndd ne
  have kmk : Kp H (upd (upd H dd (.own x)) x (.ins CP dd [])) := (Keep.new ndd).snoc (by rw [upd_ne ne.symm]; exact nx)
  refine ⟨x, dd, rfl, upd_same, fun H1 KN k1 nK pl mm => ⟨rfl, ?_⟩⟩
  have k01 : Kp H H1 := made_kp (C := CP) nx ndd ne k1
  refine ⟨_, rfl, p, CD, dx, [], rfl, kat k01 hp, C.cl, C.nP, (by show 0 < 1000; decide), ?_⟩
  have nxp : x ≠ p := (ne_of_none hp nx).symm
  have nKp : KN ≠ p := by
    have : H KN = none := made_none nK
    exact (ne_of_none hp this).symm
  have k2 : Keep (fun b => b = p) H1 (upd H1 p (.ins CD dx (putF "planner" (.ref x) []))) := Keep.put rfl (kat k01 hp) (by intro z; exact HO.noConfusion) (by intro z w; exact HO.noConfusion)
  have e2 : upd H1 p (.ins CD dx (putF "planner" (.ref x) [])) p = some (.ins CD dx (putF "planner" (.ref x) [])) := upd_same
  generalize upd H1 p (.ins CD dx (putF "planner" (.ref x) [])) = H2 at k2 e2
  intro SD nSD
  have nSp : SD ≠ p := fun z => by rw [z, e2] at nSD; cases nSD
  refine ⟨_, rfl, p, CD, dx, _, rfl, (by rw [upd_ne nSp.symm]; exact e2), C.cl, C.nS, (by show 1 < 1000; decide), ?_⟩
  have k3 : Kp H2 (upd H2 SD (.dK [])) := Keep.new nSD
  have e3 : upd H2 SD (.dK []) SD = some (.dK []) := upd_same
  have e2' := kat k3 e2
  generalize upd H2 SD (.dK []) = H3 at k3 e3 e2'
  have k4 : Keep (fun b => b = p) H3 (upd H3 p (.ins CD dx (putF "searches" (.ref SD) (putF "planner" (.ref x) [])))) := Keep.put rfl e2' (by intro z; exact HO.noConfusion) (by intro z w; exact HO.noConfusion)
  have k14 : Keep (fun b => b = p) H1 (upd H3 p (.ins CD dx (putF "searches" (.ref SD) (putF "planner" (.ref x) [])))) := (k2.trans k3.to).trans k4
  have none_ : ∀ q, (Rust.start).searches.getD q none = (none : Option Search) := fun q => by
    match q with
    | 0 => rfl
    | 1 => rfl
    | 2 => rfl
    | n + 3 => rfl
  refine post _ (k01.to.trans k14) ⟨x, KN, SD, [], fun _ => (0, 0, 0), ⟨dx, by rw [upd_same, dk_new]⟩, pl.keep k14 nxp, ?_, k4.all _ _ e3 nSp, Nat.zero_le _, rfl, fun q s e => ?_, fun q r s t n e1 e2 => ?_⟩
  · exact mm.keep nKp k14
  · rw [none_] at e
    cases e
  · rw [none_] at e1
    cases e1
end
end Fs

/-! search_door. -/
namespace Fs
open PySem PySem.Spec PyProof.Rows L2 L2H
open R7286g.Spec (Plain Units Search outcomePlain setSearch step hasSearch hasOpen execute creates begun begunWithValue repliesOf Reply nat isList onSearch)
section
variable {P : Program} {w : World} {K : PySem.W.Frag} {mg : Str → Option Value} {base : Heap} {CP CS CD CR : Addr} {W : SW}
def argP (l : List Plain) (i : Nat) : Plain := l.getD i .undef
def sdCall (door p : Nat) (l : List Plain) : R7286g.Spec.Call :=
  if door = 9 then .startSearch p (argP l 1) (argP l 2) (argP l 3) else if door = 10 then .startByReplies p (argP l 1) (argP l 2) (argP l 3) (argP l 4) else if door = 11 then .startWithValue p (argP l 1) (argP l 2) (argP l 3) (argP l 4)
  else if door = 12 then .openTests p else if door = 13 then .answerTest p (argP l 1) else if door = 14 then .failTest p (argP l 1) else .outcome p
theorem step_begun {door p : Nat} {l : List Plain} (h : door = 9 ∨ door = 10 ∨ door = 11) : step W (sdCall door p l) = ({ setSearch W p (begunOf door (argP l 1) (argP l 2) (argP l 3) (argP l 4)) with created := W.created + 1 }, .ret .undef) := by
  rcases h with h | h | h
  · subst h; rfl
  · subst h; rfl
  · subst h; rfl
theorem has_some {p : Nat} (h : hasSearch W p = true) : ∃ s, W.searches.getD p none = some s := by
  unfold hasSearch at h
  rw [Bool.and_eq_true] at h
  exact Option.isSome_iff_exists.mp h.2
theorem open_some {p : Nat} {s : Search} (e : W.searches.getD p none = some s) (h : hasOpen W p = true) : s.question.isSome = true := by
  unfold hasOpen at h
  rw [e] at h
  exact h
theorem world_eta (W : SW) : ({ W with created := W.created + 0 } : SW) = W := rfl
/-- what a call may change: the memo, the dict of searches, a search and its list of answers -/
def foot (KN SD : Addr) (sl : Nat → Addr × Addr × Addr) (W : SW) (b : Addr) : Prop := b = KN ∨ b = SD ∨ ∃ p s, W.searches.getD p none = some s ∧ (b = (sl p).1 ∨ b = (sl p).2.1 ∨ b = (sl p).2.2)
/-- from one state of the desk to another -/
def DkNext (P : Program) (w : World) (K : PySem.W.Frag) (CP CS CD : Addr) (H H' : Hp) (Dk KN SD : Addr) (sl : Nat → Addr × Addr × Addr) (W W' : SW) : Prop :=
  Keep (foot KN SD sl W) H H' ∧ ∃ Pl' KN' SD' kvs' sl', DeskAt P w K CP CS CD H' Dk Pl' KN' SD' kvs' sl' W' ∧ ∀ b, foot KN' SD' sl' W' b → foot KN SD sl W b ∨ H b = none
theorem DkNext.pre {H0 H H' : Hp} {Dk KN SD : Addr} {sl : Nat → Addr × Addr × Addr} {W' : SW} (h : DkNext P w K CP CS CD H H' Dk KN SD sl W W') (k : Kp H0 H) : DkNext P w K CP CS CD H0 H' Dk KN SD sl W W' := by
  obtain ⟨k1, Pl', KN', SD', kvs', sl', D', f⟩ := h
  exact ⟨k.to.trans k1, Pl', KN', SD', kvs', sl', D', fun b hb => (f b hb).imp id fun e => Kp.free k e⟩
theorem DkNext.post {H H' H2 : Hp} {Dk KN SD : Addr} {sl : Nat → Addr × Addr × Addr} {W' : SW} (h : DkNext P w K CP CS CD H H' Dk KN SD sl W W') (k : Kp H' H2) : DkNext P w K CP CS CD H H2 Dk KN SD sl W W' := by
  obtain ⟨k1, Pl', KN', SD', kvs', sl', D', f⟩ := h
  exact ⟨k1.trans k.to, Pl', KN', SD', kvs', sl', D'.keep k.to (D'.mm.kp k), f⟩
theorem DeskAt.next {H H' : Hp} {Dk Pl KN SD : Addr} {kvs : List (Key × V)} {sl : Nat → Addr × Addr × Addr} (D : DeskAt P w K CP CS CD H Dk Pl KN SD kvs sl W) (k : Keep (fun b => b = KN) H H') (m : MemoAt P w KN H') : DkNext P w K CP CS CD H H' Dk KN SD sl W W :=
  ⟨k.mono fun _ _ _ f => .inl f, Pl, KN, SD, kvs, sl, D.keep k m, fun b hb => .inl hb⟩
theorem DeskAt.put_next {H H1 : Hp} {Dk Pl KN SD : Addr} {kvs : List (Key × V)} {sl : Nat → Addr × Addr × Addr} (D : DeskAt P w K CP CS CD H Dk Pl KN SD kvs sl W) {p : Nat} (hp : p < 3) {S A L : Addr} {s : Search} (k : Keep (fun b => b = KN) H H1) (m : MemoAt P w KN H1) (sn : SrNew K CS H H1 S A L Pl s) :
    DkNext P w K CP CS CD H (upd H1 SD (.dK (putK kvs (.inl (p : Int)) (.ref S)))) Dk KN SD sl W { setSearch W p s with created := W.created + 1 } := by
  refine ⟨(k.mono fun _ _ _ f => .inl f).trans (Keep.put (.inr (.inl rfl)) (D.keep k m).sd (by intro z; exact HO.noConfusion) (by intro z w; exact HO.noConfusion)), Pl, KN, SD, _, _, D.put hp k m sn, fun b f => ?_⟩
  rcases f with f | f | ⟨q, t, e, f⟩
  · exact .inl (.inl f)
  · exact .inl (.inr (.inl f))
  · have e : (W.searches.set p (some s)).getD q none = some t := e
    rw [getD_set _ (by rw [D.wl]; exact hp)] at e
    have f : b = (if q = p then (S, A, L) else sl q).1 ∨ b = (if q = p then (S, A, L) else sl q).2.1 ∨ b = (if q = p then (S, A, L) else sl q).2.2 := f
    by_cases h : q = p
    · rw [if_pos h] at f
      rcases f with f | f | f
      · exact .inr (by rw [f]; exact sn.nS)
      · exact .inr (by rw [f]; exact sn.nA)
      · exact .inr (by rw [f]; exact sn.nL)
    · rw [if_neg h] at e f
      exact .inl (.inr (.inr ⟨q, t, e, f⟩))
theorem DeskAt.move_next {H H' : Hp} {Dk Pl KN SD : Addr} {kvs : List (Key × V)} {sl : Nat → Addr × Addr × Addr} (D : DeskAt P w K CP CS CD H Dk Pl KN SD kvs sl W) {p : Nat} (hp : p < 3) {s s' : Search} {L' : Addr} (e0 : W.searches.getD p none = some s) (k : Keep (fun b => b = KN ∨ b = (sl p).1 ∨ b = (sl p).2.1) H H') (m : MemoAt P w KN H') (sr : SrAt K CS H' (sl p).1 (sl p).2.1 L' Pl s') (hL : L' = (sl p).2.2 ∨ H L' = none) :
    DkNext P w K CP CS CD H H' Dk KN SD sl W (setSearch W p s') := by
  refine ⟨k.mono fun _ _ _ f => f.elim .inl fun f => .inr (.inr ⟨p, s, e0, f.elim .inl fun f => .inr (.inl f)⟩), Pl, KN, SD, kvs, _, D.move hp e0 k m sr hL, fun b f => ?_⟩
  rcases f with f | f | ⟨q, t, e, f⟩
  · exact .inl (.inl f)
  · exact .inl (.inr (.inl f))
  · have e : (W.searches.set p (some s')).getD q none = some t := e
    rw [getD_set _ (by rw [D.wl]; exact hp)] at e
    have f : b = (if q = p then ((sl p).1, (sl p).2.1, L') else sl q).1 ∨ b = (if q = p then ((sl p).1, (sl p).2.1, L') else sl q).2.1 ∨ b = (if q = p then ((sl p).1, (sl p).2.1, L') else sl q).2.2 := f
    by_cases h : q = p
    · rw [if_pos h] at f
      rcases f with f | f | f
      · exact .inl (.inr (.inr ⟨p, s, e0, .inl f⟩))
      · exact .inl (.inr (.inr ⟨p, s, e0, .inr (.inl f)⟩))
      · have f : b = L' := f
        rcases hL with hL | hL
        · exact .inl (.inr (.inr ⟨p, s, e0, .inr (.inr (f.trans hL))⟩))
        · exact .inr (by rw [f]; exact hL)
    · rw [if_neg h] at e f
      exact .inl (.inr (.inr ⟨q, t, e, f⟩))
theorem foot_tracked {H : Hp} {Dk Pl KN SD : Addr} {kvs : List (Key × V)} {sl : Nat → Addr × Addr × Addr} (D : DeskAt P w K CP CS CD H Dk Pl KN SD kvs sl W) {b : Addr} (e : H b = none) : ¬ foot KN SD sl W b := fun z => by
  rcases z with z | z | ⟨p, s, e1, z⟩
  · obtain ⟨xs, e2, _⟩ := D.mm
    rw [z, e2] at e
    cases e
  · rw [z, D.sd] at e
    cases e
  · obtain ⟨_, sr, _⟩ := D.sr p s e1
    obtain ⟨d2, ov, e2, _⟩ := sr.obj
    obtain ⟨xs, e3⟩ := sr.al
    obtain ⟨ys, e4⟩ := sr.ll
    rcases z with z | z | z
    · rw [z, e2] at e
      cases e
    · rw [z, e3] at e
      cases e
    · rw [z, e4] at e
      cases e
theorem DeskAt.away {H H' : Hp} {Dk Pl KN SD x : Addr} {xs : List V} {kvs : List (Key × V)} {sl : Nat → Addr × Addr × Addr} (D : DeskAt P w K CP CS CD H Dk Pl KN SD kvs sl W) (k : Keep (fun b => b = x) H H') (hx : H x = some (.lst xs)) (nf : ¬ foot KN SD sl W x) : DeskAt P w K CP CS CD H' Dk Pl KN SD kvs sl W := by
  obtain ⟨dx, eD⟩ := D.desk
  obtain ⟨dp, eP⟩ := D.pl
  refine ⟨⟨dx, k.all _ _ eD (ne_of eD hx (by intro z; cases z))⟩, ⟨dp, k.all _ _ eP (ne_of eP hx (by intro z; cases z))⟩, D.mm.keep (fun z => nf (.inl z.symm)) k, k.all _ _ D.sd (fun z => nf (.inr (.inl z.symm))), D.kl, D.wl, fun p s e => ?_, D.sep⟩
  obtain ⟨h1, h2, h3⟩ := D.sr p s e
  exact ⟨h1, h2.keep k (fun z => nf (.inr (.inr ⟨p, s, e, .inl z.symm⟩))) (fun z => nf (.inr (.inr ⟨p, s, e, .inr (.inl z.symm)⟩))) (fun z => nf (.inr (.inr ⟨p, s, e, .inr (.inr z.symm)⟩))), h3⟩
def spSearchDoor (P : Program) (w : World) (K : PySem.W.Frag) (CP CS CD : Addr) : Sp := fun vs H Q _ => ∃ (Dk own Pl KN SD : Addr) (kvs : List (Key × V)) (sl : Nat → Addr × Addr × Addr) (W : SW) (door p : Nat) (ys : List V) (l : List Plain), vs = [.ref Dk, .int door, .ref own] ∧ DeskAt P w K CP CS CD H Dk Pl KN SD kvs sl W ∧ H own = some (.lst ys) ∧ IsPs K H ys l ∧ 9 ≤ door ∧ door ≤ 15 ∧ l[0]? = some (.num (some (p : Int))) ∧ p < 3 ∧
  (door ≤ 11 → W.created < 100000 ∧ 4 ≤ l.length) ∧ (door = 10 → 5 ≤ l.length ∧ isList (argP l 4) = true) ∧ (12 ≤ door → hasSearch W p = true) ∧ (door = 13 ∨ door = 14 → hasOpen W p = true ∧ 2 ≤ l.length) ∧
  ∀ x, (step W (sdCall door p l)).2 = .ret x → ∀ H' r, DkNext P w K CP CS CD H H' Dk KN SD sl W (step W (sdCall door p l)).1 → IsP K H' r x → Q r H'
theorem argP_get {l : List Plain} {i : Nat} (h : i < l.length) : l[i]? = some (argP l i) := by
  unfold argP
  rw [List.getD_eq_getElem?_getD, List.getElem?_eq_getElem h]
  rfl
theorem b_Desk_search_door (B : Bt mg) {aN aU aA : Addr} (T : Ct K mg aN aU aA) (C : DkC K CD) (Cs : SrC K CS) (c_integer : Cal P w K mg base 1 "integer" (spInteger K)) (c_row : Cal P w K mg base 1 "row" (spRow K)) (c_Desk_begun : Met P w K mg base 108 CD "begun" (spBegun P w K CP CS CD)) (c_Search_test : Met P w K mg base 106 CS "test" (spTest P w K CP CS))
    (c_Search_take : Met P w K mg base 107 CS "take" (spTakeS P w K CP CS)) (c_Search_fail : Met P w K mg base 3 CS "fail" (spFail K CS)) : Bd P w K mg base N_Desk_search_door "Desk.search_door" s_Desk_search_door 108 (spSearchDoor P w K CP CS CD) := by
  rintro f cdv A0 outer s0 H vs Q E hr ⟨Dk, own, Pl, KN, SD, kvs, sl, W, door, p, ys, l, rfl, D, eO, hl, hd9, hd15, hp0, hp3, hcr, hrep, hhas, hop, post⟩
  refine ⟨_, pss_cons (ps_set (i := 3) sc_Desk_search_door.nd rfl (Or.inl rfl) (pe_ix ix_seq (pe_ix ix_seq (pv 2) (pe_int) (fun _ _ => rfl)) (pe_int) (fun _ _ => rfl)))
    (pss_cons (ps_if (pt_cmpR op_lt (pv 1) (pe_int) (nomark _)) (pss_cons (ps_dput (hu_of hr) (pe_fld (pv 0) rfl) (pv 3) (pe_m c_Desk_begun hr (by omega) (pv 0) (by exact (pa_cons (pv 1) (pa_cons (pv 2) pa_nil)))) rfl)
    (pss_one (ps_ret (C8.pe_gc (by rfl) T.k_NOTHING)))) pss_nil)
    (pss_cons (ps_set (i := 4) sc_Desk_search_door.nd rfl (Or.inl rfl) (pe_dget (hu_of hr) (pe_fld (pv 0) rfl) (pv 3) (fun _ _ => rfl)))
    (pss_cons (ps_if (pt_cmpR op_eq (pv 1) (pe_int) (nomark _)) (pss_cons (ps_set (i := 5) sc_Desk_search_door.nd rfl (Or.inl rfl) (pe_m0 c_Search_test hr (by omega) (pv 4)))
    (pss_one (ps_ret (pe_c c_row hr (by omega) (by rfl) (pa_cons (pe_ifExp (pt_cmpR op_isN (pv 5) (pe_non) (nomark _)) (pe_lst pa_nil) (pe_lst (pa_cons (pe_c c_integer hr (by omega) (by rfl) (pa_cons (pv 5) pa_nil)) pa_nil))) pa_nil))))) pss_nil)
    (pss_cons (ps_if (pt_cmpR op_eq (pv 1) (pe_int) (nomark _)) (pss_one (ps_ret (pe_ifExp (pt_cmpR op_isN (pe_fld (pv 4) rfl) (pe_non) (nomark _)) (C8.pe_gc (by rfl) T.k_NULL) (pe_fld (pv 4) rfl)))) pss_nil)
    (pss_cons (ps_if (pt_cmpR op_eq (pv 1) (pe_int) (nomark _)) (pss_one (ps_expr (pe_m c_Search_take hr (by omega) (pv 4) (by exact (pa_cons (pe_ix ix_seq (pv 2) (pe_int) (fun _ _ => rfl)) pa_nil))))) (pss_one (ps_expr (pe_m c_Search_fail hr (by omega) (pv 4) (by exact (pa_cons (pe_ix ix_seq (pv 2) (pe_int) (fun _ _ => rfl)) pa_nil))))))
    (pss_one (ps_ret (C8.pe_gc (by rfl) T.k_NOTHING)))))))), ?_⟩
  obtain ⟨dx, eD⟩ := D.desk
  obtain ⟨y0, hy0, h0⟩ := isPs_getR hl hp0
  obtain ⟨t0, rfl, ht0⟩ := isP_int h0
  have arg : ∀ i, i < l.length → ∃ v, ys[i]? = some v ∧ IsP K H v (argP l i) := fun i hi => isPs_getR hl (argP_get hi)
  refine ⟨_, rfl, .inl ⟨own, ys, 0, _, rfl, rfl, .of eO, atI_nat (j := 0) hy0, .inr (.inl ⟨t0, _, 1, _, rfl, rfl, ht0, atI_nat (j := 1) rfl, ?_⟩)⟩⟩
  refine ⟨_, rfl, _, _, rfl, rfl, _, rfl, ifB (fun h12 => ?_) fun h12 => ?_⟩
  · have h12 : (door : Int) < 12 := of_decide_eq_true h12
    have hd : door = 9 ∨ door = 10 ∨ door = 11 := by omega
    obtain ⟨hcre, hl4⟩ := hcr (by omega)
    have es := step_begun (W := W) (p := p) (l := l) hd
    rw [es] at post
    have e4 : ∃ v0 v1 v2 v3 r, ys = v0 :: v1 :: v2 :: v3 :: r := by
      have := isPs_len hl
      match ys, this with
      | v0 :: v1 :: v2 :: v3 :: r, _ => exact ⟨v0, v1, v2, v3, r, rfl⟩
      | [], this => simp at this; omega
      | [_], this => simp at this; omega
      | [_, _], this => simp at this; omega
      | [_, _, _], this => simp at this; omega
    obtain ⟨v0, v1, v2, v3, r, rfl⟩ := e4
    obtain ⟨w1, hw1, h1⟩ := arg 1 (by omega)
    obtain ⟨w2, hw2, h2⟩ := arg 2 (by omega)
    obtain ⟨w3, hw3, h3⟩ := arg 3 (by omega)
    obtain rfl : v1 = w1 := Option.some.inj hw1
    obtain rfl : v2 = w2 := Option.some.inj hw2
    obtain rfl : v3 = w3 := Option.some.inj hw3
    refine ⟨_, rfl, Dk, dx, _, rfl, eD, dk_none (by decide +kernel) (by decide +kernel), _, rfl, _, rfl, Dk, Pl, KN, SD, own, door, dx, v0, v1, v2, v3, r, _, _, _, argP l 4, rfl, eD, D.pl, D.mm, eO, h1, h2, h3, ?_, fun H1 S A L k1 m1 sn => ?_⟩
    · rcases hd with h | h | h
      · exact .inl h
      · refine .inr (.inl ⟨h, ?_⟩)
        obtain ⟨hl5, hil⟩ := hrep h
        obtain ⟨w4, hw4, h4⟩ := arg 4 (by omega)
        cases r with
        | nil => cases hw4
        | cons v4 r' =>
          obtain rfl : v4 = w4 := Option.some.inj hw4
          exact ⟨v4, r', rfl, h4, hil⟩
      · exact .inr (.inr h)
    have D1 := D.keep k1 m1
    obtain ⟨dx1, eD1⟩ := D1.desk
    refine ⟨_, rfl, Dk, CD, dx1, _, _, rfl, eD1, C.cl, C.nS, dk_searches, _, rfl, SD, _, rfl, DPut.k (k := .inl (p : Int)) D1.sd (Nat.lt_of_le_of_lt D1.kl (Nat.lt_of_lt_of_le hcre (by decide))), ?_⟩
    exact post _ rfl _ _ (D.put_next hp3 k1 m1 sn) ⟨aN, rfl, T.t_NOTHING _⟩
  have h12 : ¬ (door : Int) < 12 := of_decide_eq_false h12
  have hd12 : 12 ≤ door := by omega
  obtain ⟨s, es⟩ := has_some (hhas hd12)
  obtain ⟨hv, sr, nAL⟩ := D.sr p s es
  obtain ⟨dS, ov, eS, ho⟩ := sr.obj
  refine ⟨_, rfl, Dk, CD, dx, _, _, rfl, eD, C.cl, C.nS, dk_searches, _, rfl, SD, _, rfl, (by have z := DGet.k (k := .inl (p : Int)) D.sd; rw [hv] at z; exact z), ?_⟩
  have lkn : ∀ {m : Str}, (m == ("planner" : Str)) = false → (m == ("left" : Str)) = false → (m == ("answers_there" : Str)) = false → (m == ("outcome" : Str)) = false → (srF Pl (sl p).2.2 (sl p).2.1 ov).lookup m = none := fun a b c d => sr_none a b c d
  refine ⟨_, rfl, rfl, _, rfl, ifB (fun hd => ?_) fun hd => ?_⟩
  · have hd : door = 12 := door_eq hd
    subst hd
    have e2 : step W (sdCall 12 p l) = (W, .ret (.arr (s.question.toList.map nat))) := by
      show ({ (onSearch W p fun s => (W, .ret (.arr (s.question.toList.map nat)))).1 with created := W.created + 0 }, (onSearch W p fun s => (W, .ret (.arr (s.question.toList.map nat)))).2) = _
      unfold onSearch
      rw [es]
      rfl
    rw [e2] at post
    refine ⟨_, rfl, _, dS, _, rfl, eS, lkn (by decide +kernel) (by decide +kernel) (by decide +kernel) (by decide +kernel), (sl p).1, (sl p).2.1, (sl p).2.2, Pl, KN, s, rfl, sr, D.pl, D.mm, fun H1 k1 m1 => ?_⟩
    have D1 := D.keep k1 m1
    cases eq : s.question with
    | none =>
      rw [eq] at post
      refine ⟨_, rfl, rfl, _, rfl, ifT rfl ⟨Nat.zero_le _, fun q nq => ?_⟩⟩
      have kq : Kp H1 (upd H1 q (.lst [])) := Keep.new nq
      refine ⟨q, _, [], rfl, upd_same, trivial, fun H2 u2 k2 h2 => ?_⟩
      exact post _ rfl H2 u2 (D.next (k1.trans (Kp.to (kq.trans k2))) (m1.kp (kq.trans k2))) h2
    | some k =>
      rw [eq] at post
      refine ⟨_, rfl, rfl, _, rfl, ifF (decide_eq_false (by intro z; cases z)) ⟨_, rfl, (k : Int), rfl, fun H2 u2 k2 h2 => ⟨(by show 1 ≤ sizeLine; decide), fun q nq => ?_⟩⟩⟩
      have kq : Kp H2 (upd H2 q (.lst [u2])) := Keep.new nq
      refine ⟨q, _, [nat k], rfl, upd_same, ⟨IsP.mono kq _ _ h2, trivial⟩, fun H3 u3 k3 h3 => ?_⟩
      have kk := k2.trans (kq.trans k3)
      exact post _ rfl H3 u3 (D.next (k1.trans (Kp.to kk)) (m1.kp kk)) h3
  have hn12 : door ≠ 12 := door_ne hd
  refine ⟨_, rfl, rfl, _, rfl, ifB (fun hd => ?_) fun hd => ?_⟩
  · have hd : door = 15 := door_eq hd
    subst hd
    have e2 : step W (sdCall 15 p l) = (W, .ret (outcomePlain s.outcome)) := by
      show ({ (onSearch W p fun s => (W, .ret (outcomePlain s.outcome))).1 with created := W.created + 0 }, (onSearch W p fun s => (W, .ret (outcomePlain s.outcome))).2) = _
      unfold onSearch
      rw [es]
      rfl
    rw [e2] at post
    refine ⟨_, rfl, _, CS, dS, _, _, rfl, eS, Cs.cl, Cs.nO, sr_outcome, rfl, _, rfl, ?_⟩
    cases eo : s.outcome with
    | none =>
      rw [eo] at ho post
      obtain rfl : ov = .non := ho
      exact ifT rfl (post _ rfl H _ (D.next .refl D.mm) ⟨aU, rfl, T.t_NULL _⟩)
    | some o =>
      rw [eo] at ho post
      have nn : ov ≠ .non := fun z => by
        rw [z] at ho
        obtain ⟨t, r, e2, _⟩ := isP_tag (show IsP K H .non (outcomePlain (some o)) from ho)
        cases e2
      exact ifF (decide_eq_false nn) ⟨_, rfl, _, CS, dS, _, _, rfl, eS, Cs.cl, Cs.nO, sr_outcome, post _ rfl H _ (D.next .refl D.mm) ho⟩
  have hn15 : door ≠ 15 := door_ne hd
  obtain ⟨hopen, hl2⟩ := hop (by omega)
  have hq := open_some es hopen
  have hnone : s.outcome = none := by
    cases e : s.outcome with
    | none => rfl
    | some o =>
      have := sr.inv.cls (by rw [e]; exact Option.some_ne_none _)
      rw [this] at hq
      cases hq
  obtain ⟨v1, hv1, h1⟩ := arg 1 (by omega)
  refine ⟨_, rfl, rfl, _, rfl, ifB (fun hd => ?_) fun hd => ?_⟩
  · have hd : door = 13 := door_eq hd
    subst hd
    have e2 : step W (sdCall 13 p l) = (setSearch W p (s.receive (.value (argP l 1))), .ret .undef) := by
      show ({ (onSearch W p fun s => (setSearch W p (s.receive (.value (argP l 1))), .ret .undef)).1 with created := W.created + 0 }, (onSearch W p fun s => (setSearch W p (s.receive (.value (argP l 1))), .ret .undef)).2) = _
      unfold onSearch
      rw [es]
      rfl
    rw [e2] at post
    refine ⟨_, rfl, _, dS, _, rfl, eS, lkn (by decide +kernel) (by decide +kernel) (by decide +kernel) (by decide +kernel), _, rfl, .inl ⟨own, ys, 1, v1, rfl, rfl, .of eO, atI_nat (j := 1) hv1, (sl p).1, (sl p).2.1, (sl p).2.2, Pl, KN, s, v1, _, rfl, sr, hnone, nAL, h1, D.pl, D.mm, fun H1 L1 k1 m1 sr1 hL1 => ?_⟩⟩
    exact post _ rfl H1 _ (D.move_next hp3 es k1 m1 sr1 hL1) ⟨aN, rfl, T.t_NOTHING _⟩
  · have hd : door ≠ 13 := door_ne hd
    obtain rfl : door = 14 := by omega
    have e2 : step W (sdCall 14 p l) = (setSearch W p (s.receive (.failed (argP l 1))), .ret .undef) := by
      show ({ (onSearch W p fun s => (setSearch W p (s.receive (.failed (argP l 1))), .ret .undef)).1 with created := W.created + 0 }, (onSearch W p fun s => (setSearch W p (s.receive (.failed (argP l 1))), .ret .undef)).2) = _
      unfold onSearch
      rw [es]
      rfl
    rw [e2] at post
    refine ⟨_, rfl, _, dS, _, rfl, eS, lkn (by decide +kernel) (by decide +kernel) (by decide +kernel) (by decide +kernel), _, rfl, .inl ⟨own, ys, 1, v1, rfl, rfl, .of eO, atI_nat (j := 1) hv1, (sl p).1, (sl p).2.1, (sl p).2.2, Pl, s, v1, _, rfl, sr, hnone, h1, fun H1 k1 sr1 => ?_⟩⟩
    have nK : KN ≠ (sl p).1 := by
      obtain ⟨xs, e, _⟩ := D.mm
      exact ne_of e eS (by intro z; cases z)
    exact post _ rfl H1 _ (D.move_next hp3 es (k1.mono fun _ _ _ f => .inr (.inl f)) (D.mm.keep nK k1) sr1 (.inl rfl)) ⟨aN, rfl, T.t_NOTHING _⟩
end
end Fs

/-! Desk.answer. -/
namespace Fs
open PySem PySem.Spec PyProof.Rows L2 L2H
open R7286g.Spec (Plain Units Err Res andThen step within validInput hasSearch hasOpen isList Fn fnAnswer Ans gameArg leftArg answersArg someLeft versionsArg wrongBadArg wrongGoodArg rangeIn)
/-! ### plain -/
theorem setting_inv {x y z : Plain} {n p q : Nat} (h : settingR x y z = .ok (n, p, q)) : rangeIn 0 2 y = some p ∧ rangeIn 0 2 z = some q := by
  unfold settingR versionsArg wrongBadArg wrongGoodArg at h
  cases e1 : rangeIn 2 R7286g.Spec.maxVersions x with
  | none => rw [e1] at h; cases h
  | some n' =>
    cases e2 : rangeIn 0 2 y with
    | none => rw [e1, e2] at h; cases h
    | some p' =>
      cases e3 : rangeIn 0 2 z with
      | none => rw [e1, e2, e3] at h; cases h
      | some q' =>
        rw [e1, e2, e3] at h
        have h : (Except.ok (n', p', q') : Res (Nat × Nat × Nat)) = .ok (n, p, q) := h
        injection h with h
        injection h with h1 h
        injection h with h2 h3
        exact ⟨by rw [h2], by rw [h3]⟩
def fnOf (door : Nat) (x y z u t : Plain) : Fn :=
  if door = 0 then .fewest x y z else if door = 1 then .testsLeft x y z u else if door = 2 then .bestTest x y z u else if door = 3 then .remaining x y z u else if door = 4 then .worstAnswer x y z u t
  else if door = 5 then .wrongAnswers x y z u t else if door = 6 then .least x y z else if door = 7 then .bestPlan x y z else .checkPlan x y z u
def doorR (door : Nat) (x y z u t : Plain) : Res Plain := andThen (settingR x y z) fun s => if door = 0 ∨ door = 6 ∨ door = 7 ∨ door = 8 then planR door s.1 s.2.1 s.2.2 u else ansR door s.1 s.2.1 s.2.2 u t
theorem fn_door {door : Nat} (hd : door ≤ 8) (x y z u t : Plain) : fnAnswer (fnOf door x y z u t) = R7286g.Spec.answer id (doorR door x y z u t) := by
  unfold doorR
  obtain rfl | rfl | rfl | rfl | rfl | rfl | rfl | rfl | rfl : door = 0 ∨ door = 1 ∨ door = 2 ∨ door = 3 ∨ door = 4 ∨ door = 5 ∨ door = 6 ∨ door = 7 ∨ door = 8 := by omega
  · show R7286g.Spec.answer id (R7286g.Spec.fewestFn x y z) = _
    unfold R7286g.Spec.fewestFn
    rw [game_setting]
    cases settingR x y z <;> rfl
  · show R7286g.Spec.answer id (R7286g.Spec.testsLeftFn x y z u) = _
    unfold R7286g.Spec.testsLeftFn leftArg
    rw [game_setting]
    cases settingR x y z with
    | error e => rfl
    | ok s =>
      show _ = R7286g.Spec.answer id (ansR 1 s.1 s.2.1 s.2.2 u t)
      unfold ansR
      show R7286g.Spec.answer id (andThen (andThen (answersArg s.1 u) _) _) = _
      cases answersArg s.1 u <;> rfl
  · show R7286g.Spec.answer id (R7286g.Spec.bestTestFn x y z u) = _
    unfold R7286g.Spec.bestTestFn leftArg
    rw [game_setting]
    cases settingR x y z with
    | error e => rfl
    | ok s =>
      show _ = R7286g.Spec.answer id (ansR 2 s.1 s.2.1 s.2.2 u t)
      unfold ansR
      show R7286g.Spec.answer id (andThen (andThen (answersArg s.1 u) _) _) = _
      cases answersArg s.1 u <;> rfl
  · show R7286g.Spec.answer id (R7286g.Spec.remainingFn x y z u) = _
    unfold R7286g.Spec.remainingFn leftArg
    rw [game_setting]
    cases es : settingR x y z with
    | error e => rfl
    | ok s =>
      obtain ⟨n, p, q⟩ := s
      obtain ⟨h1, h2⟩ := setting_inv es
      rw [h1, h2]
      show _ = R7286g.Spec.answer id (ansR 3 n p q u t)
      unfold ansR
      show R7286g.Spec.answer id (andThen (andThen (answersArg n u) _) _) = _
      cases answersArg n u <;> rfl
  · show R7286g.Spec.answer id (R7286g.Spec.worstAnswerFn x y z u t) = _
    unfold R7286g.Spec.worstAnswerFn leftArg
    rw [game_setting]
    cases settingR x y z with
    | error e => rfl
    | ok s =>
      show _ = R7286g.Spec.answer id (ansR 4 s.1 s.2.1 s.2.2 u t)
      unfold ansR
      show R7286g.Spec.answer id (andThen (andThen (answersArg s.1 u) _) _) = _
      cases answersArg s.1 u <;> rfl
  · show R7286g.Spec.answer id (R7286g.Spec.wrongAnswersFn x y z u t) = _
    unfold R7286g.Spec.wrongAnswersFn
    rw [game_setting]
    cases settingR x y z <;> rfl
  · show R7286g.Spec.answer id (R7286g.Spec.leastFn x y z) = _
    unfold R7286g.Spec.leastFn
    rw [game_setting]
    cases settingR x y z <;> rfl
  · show R7286g.Spec.answer id (R7286g.Spec.bestPlanFn x y z) = _
    unfold R7286g.Spec.bestPlanFn
    rw [game_setting]
    cases settingR x y z <;> rfl
  · show R7286g.Spec.answer id (R7286g.Spec.checkPlanFn x y z u) = _
    unfold R7286g.Spec.checkPlanFn
    rw [game_setting]
    cases settingR x y z <;> rfl
def argN (door : Nat) : Nat := ([3, 4, 4, 4, 5, 5, 3, 3, 4, 4, 5, 5, 1, 2, 2, 1] : List Nat).getD door 0
def padded (door : Nat) (l0 : List Plain) : List Plain := l0 ++ List.replicate (argN door - l0.length) .undef
theorem padded_len {door : Nat} {l0 : List Plain} (h : l0.length ≤ argN door) : (padded door l0).length = argN door := by
  unfold padded
  rw [List.length_append, List.length_replicate]
  omega
theorem padded_arg (door : Nat) (l0 : List Plain) (i : Nat) : argP (padded door l0) i = Rust.argAt l0 i := by
  unfold argP padded Rust.argAt
  rw [List.getD_eq_getElem?_getD, List.getD_eq_getElem?_getD, List.getElem?_append]
  split
  · rfl
  · rename_i h
    rw [List.getElem?_eq_none (by omega : l0.length ≤ i), List.getElem?_replicate]
    split <;> rfl
theorem taking_inv {n : Nat} {l : List Plain} {c d : Option R7286g.Spec.Call} {x : R7286g.Spec.Call} (h : Rust.taking n l c = some x) : l.length ≤ n ∧ c = some x := by
  unfold Rust.taking at h
  split at h
  · rename_i hh
    exact ⟨Nat.le_of_ble_eq_true hh, h⟩
  · cases h
theorem slot_inv {l : List Plain} {p : Nat} (h : Rust.slotAt l 0 2 = some p) : Rust.argAt l 0 = .num (some (p : Int)) ∧ p < 3 := by
  unfold Rust.slotAt Rust.slotOf at h
  split at h
  · rename_i x e
    split at h
    · cases h
    · rename_i hx
      cases x with
      | none => exact absurd rfl hx
      | some i =>
        have h : (if (decide (0 ≤ i) && Nat.ble i.toNat 2) = true then some i.toNat else none) = some p := h
        split at h
        · rename_i hc
          rw [Bool.and_eq_true] at hc
          have h1 := of_decide_eq_true hc.1
          have h2 := Nat.le_of_ble_eq_true hc.2
          have h3 := Option.some.inj h
          rw [e]
          exact ⟨by rw [← h3, Int.toNat_of_nonneg h1], by omega⟩
        · cases h
  · cases h
/-- what a door asks -/
theorem call_inv {door : Nat} {l0 : List Plain} {c : R7286g.Spec.Call} (h : Rust.callOf door l0 = some c) : door ≤ 15 ∧ l0.length ≤ argN door ∧
    (door ≤ 8 → c = .fn (fnOf door (Rust.argAt l0 0) (Rust.argAt l0 1) (Rust.argAt l0 2) (Rust.argAt l0 3) (Rust.argAt l0 4))) ∧
    (9 ≤ door → ∃ p, Rust.slotAt l0 0 2 = some p ∧ c = sdCall door p (padded door l0)) := by
  unfold Rust.callOf at h
  split at h
  · rename_i h16
    have hd : door < 16 := by omega
    have pa := padded_arg door l0
    obtain rfl | rfl | rfl | rfl | rfl | rfl | rfl | rfl | rfl | rfl | rfl | rfl | rfl | rfl | rfl | rfl : door = 0 ∨ door = 1 ∨ door = 2 ∨ door = 3 ∨ door = 4 ∨ door = 5 ∨ door = 6 ∨ door = 7 ∨ door = 8 ∨ door = 9 ∨ door = 10 ∨ door = 11 ∨ door = 12 ∨ door = 13 ∨ door = 14 ∨ door = 15 := by omega
    iterate 9
      · obtain ⟨h1, h2⟩ := taking_inv (d := none) h
        exact ⟨by omega, h1, fun _ => (Option.some.inj h2).symm, fun z => absurd z (by omega)⟩
    all_goals
      obtain ⟨h1, h2⟩ := taking_inv (d := none) h
      refine ⟨by omega, h1, fun z => absurd z (by omega), fun _ => ?_⟩
      cases e : Rust.slotAt l0 0 2 with
      | none => rw [e] at h2; cases h2
      | some p =>
        rw [e] at h2
        refine ⟨p, rfl, ?_⟩
        have h2 := (Option.some.inj h2).symm
        rw [h2]
        unfold sdCall
        simp only [pa]
        rfl
  · cases h
theorem door_big : ∀ {p q : Prop}, p → q → p := fun h _ => h
section
variable {P : Program} {w : World} {K : PySem.W.Frag} {mg : Str → Option Value} {base : Heap} {CP CS CD CR : Addr}
def spAnswer (P : Program) (w : World) (K : PySem.W.Frag) (CP CS CD CR : Addr) : Sp := fun vs H Q E => ∃ (Dk own Pl KN SD : Addr) (kvs : List (Key × V)) (sl : Nat → Addr × Addr × Addr) (W : SW) (door : Nat) (ys : List V) (l0 : List Plain) (c : R7286g.Spec.Call), vs = [.ref Dk, .int door, .ref own] ∧ DeskAt P w K CP CS CD H Dk Pl KN SD kvs sl W ∧ H own = some (.lst ys) ∧ IsPs K H ys (padded door l0) ∧ Rust.callOf door l0 = some c ∧ Rust.canBe W c = true ∧
  (∀ x, (step W c).2 = .ret x → ∀ H' r, DkNext P w K CP CS CD H H' Dk KN SD sl W (step W c).1 → IsP K H' r x → Q r H') ∧ (∀ e, (step W c).2 = .fail e → ∀ d H' m, DkNext P w K CP CS CD H H' Dk KN SD sl W (step W c).1 → XdAt H' d (Rust.classOf e.cls) m → MsgOk m e.msg → E (.ref CR) (some d) H')
theorem answer_ok {x : Plain} {r : Res Plain} (h : r = .ok x) : R7286g.Spec.answer id r = .ret x := by rw [h]; rfl
theorem answer_err {e : Err} {r : Res Plain} (h : r = .error e) : R7286g.Spec.answer id r = .fail e := by rw [h]; rfl
theorem b_Desk_answer (B : Bt mg) {aN aU aA : Addr} (T : Ct K mg aN aU aA) (c_setting_of : CalX P w K mg base 4 "setting_of" (spSetting K CR)) (c_Desk_search_door : Met P w K mg base 109 CD "search_door" (spSearchDoor P w K CP CS CD)) (c_Desk_planning_door : MetX P w K mg base 114 CD "planning_door" (spPlanning P w K CP CD CR))
    (c_Desk_answers_door : MetX P w K mg base 114 CD "answers_door" (spAnswersDoor P w K CP CD CR)) : BdX P w K mg base N_Desk_answer "Desk.answer" s_Desk_answer 114 (spAnswer P w K CP CS CD CR) := by
  rintro f cdv A0 outer s0 H vs Q E hr ⟨Dk, own, Pl, KN, SD, kvs, sl, W, door, ys, l0, c, rfl, D, eO, hl, hc, hcan, good, bad⟩
  refine ⟨_, pss_cons (ps_if (pt_cmpR op_gt (pv 1) (pe_int) (nomark _)) (pss_one (ps_ret (pe_m c_Desk_search_door hr (by omega) (pv 0) (by exact (pa_cons (pv 1) (pa_cons (pv 2) pa_nil)))))) pss_nil)
    (pss_cons (ps_set (i := 3) sc_Desk_answer.nd rfl (Or.inl rfl) (pe_cX (E := E) c_setting_of hr (by omega) (by rfl) (L2N.takes_of rfl rfl rfl rfl) (fun _ _ _ _ h => h) (pa_cons (pv 2) pa_nil)))
    (pss_cons (ps_if (pt_cmpR op_in_seq (pv 1) (pe_tup (pa_cons (pe_int) (pa_cons (pe_int) (pa_cons (pe_int) (pa_cons (pe_int) pa_nil))))) (by with_unfolding_all rfl)) (pss_one (ps_ret (pe_mX (E := E) c_Desk_planning_door hr (by decide) (L2N.takes_of rfl rfl rfl rfl) (fun _ _ _ _ h => h) (pv 0) (by exact (pa_cons (pv 1) (pa_cons (pv 3) (pa_cons (pv 2) pa_nil))))))) pss_nil)
    (pss_one (ps_ret (pe_mX (E := E) c_Desk_answers_door hr (by decide) (L2N.takes_of rfl rfl rfl rfl) (fun _ _ _ _ h => h) (pv 0) (by exact (pa_cons (pv 1) (pa_cons (pv 3) (pa_cons (pv 2) pa_nil))))))))), ?_⟩
  obtain ⟨hd15, hl0, hfn, hsd⟩ := call_inv hc
  have hlen := padded_len hl0
  have ly := isPs_len hl
  have pa := padded_arg door l0
  obtain ⟨dx, eD⟩ := D.desk
  refine ⟨_, rfl, _, _, rfl, rfl, _, rfl, ifB (fun h8 => ?_) fun h8 => ?_⟩
  · have h8 : (8 : Int) < door := of_decide_eq_true h8
    have hd9 : 9 ≤ door := by omega
    obtain ⟨p, hp, ec⟩ := hsd hd9
    obtain ⟨hp0, hp3⟩ := slot_inv hp
    rw [← pa 0] at hp0
    have hn : 1 ≤ argN door := by
      obtain rfl | rfl | rfl | rfl | rfl | rfl | rfl : door = 9 ∨ door = 10 ∨ door = 11 ∨ door = 12 ∨ door = 13 ∨ door = 14 ∨ door = 15 := by omega
      all_goals decide
    unfold Rust.canBe Rust.room at hcan
    rw [Bool.and_true] at hcan
    unfold within at hcan
    rw [Bool.and_eq_true] at hcan
    obtain ⟨hval, hcre⟩ := hcan
    rw [ec] at hval hcre good
    refine ⟨_, rfl, Dk, dx, _, rfl, eD, dk_none (by decide +kernel) (by decide +kernel), _, rfl, _, rfl, Dk, own, Pl, KN, SD, kvs, sl, W, door, p, ys, padded door l0, rfl, D, eO, hl, hd9, hd15, ?_, hp3, fun h11 => ?_, fun h10 => ?_, fun h12 => ?_, fun h13 => ?_, fun x hx H' r hD hr => good x hx H' r hD hr⟩
    · rw [argP_get (by rw [hlen]; exact hn), hp0]
    · obtain rfl | rfl | rfl : door = 9 ∨ door = 10 ∨ door = 11 := by omega
      · exact ⟨of_decide_eq_true hcre, by rw [hlen]; decide⟩
      · exact ⟨of_decide_eq_true hcre, by rw [hlen]; decide⟩
      · exact ⟨of_decide_eq_true hcre, by rw [hlen]; decide⟩
    · subst h10
      have hval : (decide (p < R7286g.Spec.searchSlots) && isList (argP (padded 10 l0) 4) && R7286g.Spec.fits _) = true := hval
      rw [Bool.and_eq_true, Bool.and_eq_true] at hval
      exact ⟨by rw [hlen]; decide, hval.1.2⟩
    · obtain rfl | rfl | rfl | rfl : door = 12 ∨ door = 13 ∨ door = 14 ∨ door = 15 := by omega
      · exact hval
      · have hval : (hasSearch W p && hasOpen W p && R7286g.Spec.fits _) = true := hval
        rw [Bool.and_eq_true, Bool.and_eq_true] at hval
        exact hval.1.1
      · have hval : (hasSearch W p && hasOpen W p && R7286g.Spec.fits _) = true := hval
        rw [Bool.and_eq_true, Bool.and_eq_true] at hval
        exact hval.1.1
      · exact hval
    · rcases h13 with rfl | rfl
      · have hval : (hasSearch W p && hasOpen W p && R7286g.Spec.fits _) = true := hval
        rw [Bool.and_eq_true, Bool.and_eq_true] at hval
        exact ⟨hval.1.2, by rw [hlen]; decide⟩
      · have hval : (hasSearch W p && hasOpen W p && R7286g.Spec.fits _) = true := hval
        rw [Bool.and_eq_true, Bool.and_eq_true] at hval
        exact ⟨hval.1.2, by rw [hlen]; decide⟩
  have h8 : ¬ (8 : Int) < door := of_decide_eq_false h8
  have hd8 : door ≤ 8 := by omega
  have ec := hfn hd8
  have hn3 : 3 ≤ argN door := by
    obtain rfl | rfl | rfl | rfl | rfl | rfl | rfl | rfl | rfl : door = 0 ∨ door = 1 ∨ door = 2 ∨ door = 3 ∨ door = 4 ∨ door = 5 ∨ door = 6 ∨ door = 7 ∨ door = 8 := by omega
    all_goals decide
  have arg : ∀ i, i < argN door → ∃ v, ys[i]? = some v ∧ IsP K H v (Rust.argAt l0 i) := fun i hi => by
    rw [← pa i]
    exact isPs_getR hl (argP_get (by rw [hlen]; exact hi))
  obtain ⟨v0, hv0, h0⟩ := arg 0 (by omega)
  obtain ⟨v1, hv1, h1⟩ := arg 1 (by omega)
  obtain ⟨v2, hv2, h2⟩ := arg 2 (by omega)
  have e3 : ∃ r, ys = v0 :: v1 :: v2 :: r := by
    match ys, hv0, hv1, hv2 with
    | a :: b :: d :: r, hv0, hv1, hv2 =>
      obtain rfl : a = v0 := Option.some.inj hv0
      obtain rfl : b = v1 := Option.some.inj hv1
      obtain rfl : d = v2 := Option.some.inj hv2
      exact ⟨r, rfl⟩
  obtain ⟨r, er⟩ := e3
  have estep : step W c = (W, R7286g.Spec.answer id (doorR door (Rust.argAt l0 0) (Rust.argAt l0 1) (Rust.argAt l0 2) (Rust.argAt l0 3) (Rust.argAt l0 4))) := by
    rw [ec, ← fn_door hd8]
    rfl
  rw [estep] at good bad
  have nKD : KN ≠ Dk := by
    obtain ⟨xs, e, _⟩ := D.mm
    exact ne_of e eD (by intro z; cases z)
  refine ⟨_, rfl, own, v0, v1, v2, r, _, _, _, rfl, by rw [← er]; exact eO, h0, h1, h2, fun n p q es hn1 hn2 hp hq H1 t k1 et => ?_, fun e es d H' m k _ hx mo => ?_⟩
  rotate_left
  · refine bad e ?_ d H' m (D.next (Kp.to k) (D.mm.kp k)) hx mo
    refine answer_err ?_
    unfold doorR
    rw [es]
    rfl
  have D1 := D.keep k1.to (D.mm.kp k1)
  refine ⟨_, rfl, (by show 4 ≤ sizeLine; decide), fun tt ntt => ⟨tt, _, rfl, .inr (.of upd_same), rfl, rfl, _, rfl, ?_⟩⟩
  have k2 : Kp H1 (upd H1 tt (.tup [.int 0, .int 6, .int 7, .int 8])) := Keep.new ntt
  generalize upd H1 tt (.tup [.int 0, .int 6, .int 7, .int 8]) = H2 at k2
  have k02 : Kp H H2 := k1.trans k2
  have D2 := D.keep k02.to (D.mm.kp k02)
  have et2 := kat k2 et
  have eD2 := kat k02 eD
  have eO2 := kat k02 eO
  by_cases hpd : door = 0 ∨ door = 6 ∨ door = 7 ∨ door = 8
  · have ed : doorR door (Rust.argAt l0 0) (Rust.argAt l0 1) (Rust.argAt l0 2) (Rust.argAt l0 3) (Rust.argAt l0 4) = planR door n p q (Rust.argAt l0 3) := by
      unfold doorR
      rw [es]
      exact if_pos hpd
    rw [ed] at good bad
    refine ifT (by rcases hpd with rfl | rfl | rfl | rfl <;> decide) ?_
    refine ⟨_, rfl, Dk, dx, _, rfl, eD2, dk_none (by decide +kernel) (by decide +kernel), _, rfl, _, rfl, _, rfl, Dk, Pl, KN, SD, own, t, dx, door, n, p, q, ys, Rust.argAt l0 3, rfl, eD2, D2.pl, D2.mm, et2, hn1, hn2, hp, hq, eO2, ?_, fun x hx H' r' k' m' hr' => ?_, fun e he d H' m k' m' hx mo => ?_⟩
    · rcases hpd with h | h | h | h
      · exact .inl h
      · exact .inr (.inl h)
      · exact .inr (.inr (.inl h))
      · refine .inr (.inr (.inr ⟨h, ?_⟩))
        obtain ⟨v, hv, hi⟩ := arg 3 (by rw [h]; decide)
        exact ⟨v, hv, IsP.mono k02 _ _ hi⟩
    · exact good x (answer_ok hx) H' r' (D.next (k02.to.trans k') m') hr'
    · exact bad e (answer_err he) d H' m (D.next (k02.to.trans k') m') hx mo
  · have hd15' : 1 ≤ door ∧ door ≤ 5 := by omega
    have ed : doorR door (Rust.argAt l0 0) (Rust.argAt l0 1) (Rust.argAt l0 2) (Rust.argAt l0 3) (Rust.argAt l0 4) = ansR door n p q (Rust.argAt l0 3) (Rust.argAt l0 4) := by
      unfold doorR
      rw [es]
      exact if_neg hpd
    rw [ed] at good bad
    have hn4 : 4 ≤ argN door := by
      obtain rfl | rfl | rfl | rfl | rfl : door = 1 ∨ door = 2 ∨ door = 3 ∨ door = 4 ∨ door = 5 := by omega
      all_goals decide
    obtain ⟨v3, hv3, h3⟩ := arg 3 (by omega)
    refine ifF (by
      obtain rfl | rfl | rfl | rfl | rfl : door = 1 ∨ door = 2 ∨ door = 3 ∨ door = 4 ∨ door = 5 := by omega
      all_goals decide) ?_
    refine ⟨_, rfl, Dk, dx, _, rfl, eD2, dk_none (by decide +kernel) (by decide +kernel), _, rfl, _, rfl, _, rfl, Dk, Pl, KN, SD, own, t, dx, door, n, p, q, ys, v3, Rust.argAt l0 3, Rust.argAt l0 4, rfl, eD2, D2.pl, D2.mm, et2, hn1, hn2, hp, hq, eO2, hv3, IsP.mono k02 _ _ h3, hd15'.1, hd15'.2, fun h4 => ?_, fun x hx H' r' k' m' hr' => ?_, fun e he d H' m k' m' hx mo => ?_⟩
    · obtain ⟨v4, hv4, h4'⟩ := arg 4 (by
        obtain rfl | rfl : door = 4 ∨ door = 5 := by omega
        all_goals decide)
      exact ⟨v4, hv4, IsP.mono k02 _ _ h4'⟩
    · exact good x (answer_ok hx) H' r' (D.next (k02.to.trans k') m') hr'
    · exact bad e (answer_err he) d H' m (D.next (k02.to.trans k') m') hx mo
end
end Fs

/-! reply_to, answers. -/
namespace Fs
open PySem PySem.Spec PyProof.Rows L2 L2H
open R7286g.Spec (Plain Units Err step)
section
variable {P : Program} {w : World} {K : PySem.W.Frag} {mg : Str → Option Value} {base : Heap} {CP CS CD CR CQ : Addr}
theorem asked_inv {b : List UInt8} {c : R7286g.Spec.Call} (h : Rust.asked b = some c) : ∃ a b2 n r l, b = a :: b2 :: n :: r ∧ RWire.readMany (RWire.readF 32) n.toNat r = some (l, []) ∧ (∀ v ∈ l, gv v = true) ∧ Rust.callOf (a.toNat + 256 * b2.toNat) (Rust.takenAll l) = some c := by
  unfold Rust.asked RWire.readRequest at h
  split at h
  · rename_i d l e
    split at e
    · rename_i a b2 n r
      split at h
      · rename_i hk
        cases e2 : RWire.readArgs n.toNat r with
        | none => rw [e2] at e; cases e
        | some l' =>
          rw [e2] at e
          have e : some (a.toNat + 256 * b2.toNat, l') = some (d, l) := e
          injection e with e
          injection e with e1 e3
          subst e1 e3
          unfold RWire.readArgs at e2
          split at e2
          · rename_i l2 e4
            obtain rfl : l2 = l' := Option.some.inj e2
            unfold Rust.ofKinds at hk
            rw [Bool.and_eq_true, Bool.and_eq_true] at hk
            exact ⟨a, b2, n, r, l2, rfl, e4, gv_mem (by simpa [Rust.bigTold] using hk.1.1) (by simpa [Rust.octetsTold] using hk.1.2) (by simpa [Rust.wideTold] using hk.2), h⟩
          · cases e2
      · cases h
    · cases e
  · cases h
def spReply (P : Program) (w : World) (K : PySem.W.Frag) (CP CS CD : Addr) : Sp := fun vs H Q _ => ∃ (Dk T Pl KN SD : Addr) (kvs : List (Key × V)) (sl : Nat → Addr × Addr × Addr) (W : SW) (bs : List UInt8) (c : R7286g.Spec.Call), vs = [.ref Dk, .ref T] ∧ DeskAt P w K CP CS CD H Dk Pl KN SD kvs sl W ∧ SqT K H T (octV bs) ∧ bs.length ≤ 100000 ∧ Rust.asked bs = some c ∧ Rust.canBe W c = true ∧ Rust.tellable (step W c).2 = true ∧ (RWire.writeAnswer (Rust.answerOf (step W c).2)).length ≤ 65536 ∧
  ∀ H' r, DkNext P w K CP CS CD H H' Dk KN SD sl W (step W c).1 → (∀ b o, H b = some o → ¬ foot KN SD sl W b → b ≠ r) → H' r = some (.lst (octV (RWire.writeAnswer (Rust.answerOf (step W c).2)))) → Q (.ref r) H'
theorem b_reply_to (B : Bt mg) {aN aU aA : Addr} (T : Ct K mg aN aU aA) (R : RfB K mg CR) (eR : PySem.W.exmOne K (.ref CR) (.ref CR) = some true) (Rq : RqC K CQ) (c_Request_new : Mak P w K mg base 1 "Request" CQ (spRqNew CQ)) (c_Request_give_number : Met P w K mg base 2 CQ "give_number" (spGive K CQ)) (c_Request_arguments : Met P w K mg base 36 CQ "arguments" (spArgs K CQ))
    (c_value_octets : Cal P w K mg base 35 "value_octets" (spVO K 33)) (c_refusal_octetsH : CalH P w K mg base 2 "refusal_octets" spRefusal) (c_Desk_answer : MetX P w K mg base 115 CD "answer" (spAnswer P w K CP CS CD CR)) : Bd P w K mg base N_reply_to "reply_to" s_reply_to 115 (spReply P w K CP CS CD) := by
  rintro f cdv A0 outer s0 H vs Q E hr ⟨Dk, T0, Pl, KN, SD, kvs, sl, W, bs, c, rfl, D, hT, hbs, hask, hcan, htell, hlen, post⟩
  refine ⟨_, pss_cons (ps_set (i := 2) sc_reply_to.nd rfl (Or.inl rfl) (pe_k c_Request_new hr (by omega) (by rfl) (pa_cons (pv 1) pa_nil)))
    (pss_cons (ps_set (i := 3) sc_reply_to.nd rfl (Or.inl rfl) (pe_m c_Request_give_number hr (by omega) (pv 2) (by exact (pa_cons (pe_int) pa_nil))))
    (pss_cons (ps_set (i := 4) sc_reply_to.nd rfl (Or.inl rfl) (pe_m c_Request_arguments hr (by omega) (pv 2) (by exact (pa_cons (pe_ix ix_seq (C8.pe_gc (by rfl) T.k_ARGUMENTS) (pv 3) (fun _ _ => rfl)) pa_nil))))
    (pss_one (L2N.ps_try_as (i := 5) (ts := fun a cls d => tXd CR cls d fun dd => tRet (tCl spRefusal E0 (tCons (tXp a dd "kind" (tVar 5)) (tCons (tXp a dd "message" (tVar 5)) tNil)))) (Wout := fun _ _ _ _ => False) rfl rfl sc_reply_to.nd rfl rfl ⟨rfl, by decide, Or.inl R.gC⟩ takesN (fun W pn xe tk _ => by exact (pss_one (ps_ret (pe_op op_cat (pe_lst (pa_cons (pe_int) pa_nil)) (pe_c c_value_octets hr (by omega) (by rfl) (pa_cons (pe_mT c_Desk_answer hr (by decide) tk (pv 0) (by exact (pa_cons (pv 3) (pa_cons (pv 4) pa_nil)))) pa_nil)))))) (fun a oe cls d pn hz hf => pss_xd fun dd hcl hd => by exact (pss_one (ps_ret (pe_cH c_refusal_octetsH (roomH_mark hr _) (by omega) (hot_suite hz hf) (by rfl) (pa_cons (pe_xp R.c.xf (by exact R.nK) (List.mem_cons_self ..) (hz.1.trans hcl) (hz.2.1.trans hd) hf (pv 5)) (pa_cons (pe_xp R.c.xf (by exact R.nM) (List.mem_cons_self ..) (hz.1.trans hcl) (hz.2.1.trans hd) hf (pv 5)) pa_nil)))))))))), ?_⟩
  obtain ⟨a, b2, n, r, l, rfl, rd, gl, hc⟩ := asked_inv hask
  obtain ⟨hd15, hl0, _, _⟩ := call_inv hc
  obtain ⟨dx, eD⟩ := D.desk
  have lkg : ∀ n, (rqF T0 n).lookup ("give_number" : Str) = none := fun n => rq_none T0 n (by decide +kernel) (by decide +kernel)
  have lka : ∀ n, (rqF T0 n).lookup ("arguments" : Str) = none := fun n => rq_none T0 n (by decide +kernel) (by decide +kernel)
  have eta : (Rust.takenAll l).length = l.length := by rw [takenAll_map, List.length_map]
  rw [eta] at hl0
  refine ⟨_, rfl, ?_⟩
  intro x dd nx ndd ne
  have kmk : Kp H (upd (upd H dd (.own x)) x (.ins CQ dd [])) := (Keep.new ndd).snoc (by rw [upd_ne ne.symm]; exact nx)
  refine ⟨x, dd, T0, rfl, upd_same, fun H1 k1 rq1 => ⟨rfl, ?_⟩⟩
  have k01 : Kp H H1 := made_kp (C := CQ) nx ndd ne k1
  obtain ⟨dq, eQ⟩ := id rq1
  have nxf : ∀ {b : Addr} {o : HO}, H b = some o → b ≠ x := fun e => ne_of_none e nx
  refine ⟨_, rfl, x, dq, _, rfl, eQ, lkg 0, x, T0, 0, 2, _, rfl, rq1, k01.sqT hT, (by simp only [List.length_cons]; omega), fun H2 k2 rq2 => ?_⟩
  have enum : RWire.numOf (((a :: b2 :: n :: r).drop 0).take 2) = a.toNat + 256 * b2.toNat := by
    show a.toNat + 256 * (b2.toNat + 256 * 0) = _
    omega
  rw [enum]
  generalize a.toNat + 256 * b2.toNat = door at hc hd15 hl0
  have k02 : Kp H H2 := k01.away nx k2
  obtain ⟨dq2, eQ2⟩ := id rq2
  have hargv : (([3, 4, 4, 4, 5, 5, 3, 3, 4, 4, 5, 5, 1, 2, 2, 1] : List Int).map V.int)[door]? = some (V.int (argN door : Nat)) := by
    obtain rfl | rfl | rfl | rfl | rfl | rfl | rfl | rfl | rfl | rfl | rfl | rfl | rfl | rfl | rfl | rfl : door = 0 ∨ door = 1 ∨ door = 2 ∨ door = 3 ∨ door = 4 ∨ door = 5 ∨ door = 6 ∨ door = 7 ∨ door = 8 ∨ door = 9 ∨ door = 10 ∨ door = 11 ∨ door = 12 ∨ door = 13 ∨ door = 14 ∨ door = 15 := by omega
    all_goals rfl
  have hargn : argN door ≤ 100 := by
    obtain rfl | rfl | rfl | rfl | rfl | rfl | rfl | rfl | rfl | rfl | rfl | rfl | rfl | rfl | rfl | rfl : door = 0 ∨ door = 1 ∨ door = 2 ∨ door = 3 ∨ door = 4 ∨ door = 5 ∨ door = 6 ∨ door = 7 ∨ door = 8 ∨ door = 9 ∨ door = 10 ∨ door = 11 ∨ door = 12 ∨ door = 13 ∨ door = 14 ∨ door = 15 := by omega
    all_goals decide
  refine ⟨_, rfl, x, dq2, _, rfl, eQ2, lka _, _, rfl, .inr (.inl ⟨aA, _, (door : Int), _, rfl, rfl, T.t_ARGUMENTS _, atI_nat (j := door) hargv, x, T0, 2, argN door, _, n, r, [], l, rfl, rq2, k02.sqT hT, hbs, rfl, rd, gl, hl0, hargn, fun H3 own ys k3 eO hys => ?_⟩)⟩
  have k03 : Kp H H3 := k02.away nx k3
  have D3 := D.keep k03.to (D.mm.kp k03)
  have hpad : Rust.takenAll l ++ List.replicate (argN door - l.length) .undef = padded door (Rust.takenAll l) := by
    unfold padded
    rw [eta]
  rw [hpad] at hys
  -- the try
  refine ⟨(by show 1 ≤ sizeLine; decide), fun q nq => ?_⟩
  have kq : Kp H3 (upd H3 q (.lst [.int 0])) := Keep.new nq
  have eq : upd H3 q (.lst [.int 0]) q = some (.lst [.int 0]) := upd_same
  have D4 := D3.keep kq.to (D3.mm.kp kq)
  have nfoot : ¬ foot KN SD sl W q := foot_tracked D3 nq
  obtain ⟨dx4, eD4⟩ := D4.desk
  refine ⟨_, rfl, Dk, dx4, _, rfl, eD4, dk_none (by decide +kernel) (by decide +kernel), _, rfl, _, rfl, Dk, own, Pl, KN, SD, kvs, sl, W, door, ys, Rust.takenAll l, c, rfl, D4, kat kq eO, IsPs.mono kq _ _ hys, hc, hcan, fun p hp H5 v5 hD5 h5 => ?_, fun e he d H5 m hD5 hx mo => ?_⟩
  · rw [hp] at htell hlen post
    have htell : (Rust.narrow p && RWire.writable (Rust.given p)) = true := htell
    rw [Bool.and_eq_true] at htell
    have hw := htell.2
    unfold RWire.writable at hw
    rw [Bool.and_eq_true, decide_eq_true_iff] at hw
    have ewa : RWire.writeAnswer (Rust.answerOf (.ret p)) = 0 :: RWire.write (Rust.given p) := rfl
    rw [ewa] at hlen post
    rw [List.length_cons] at hlen
    refine ⟨v5, p, rfl, h5, htell.1, Nat.lt_succ_of_le (Nat.le_succ_of_le hw.2), by omega, fun H6 r6 k6 n6 e6 => ?_⟩
    refine ⟨q, r6, _, _, rfl, rfl, kat k6 (hD5.1.all _ _ eq nfoot), e6, (by rw [octV_lenW]; show 1 + _ ≤ sizeLine; exact lenL (by omega)), fun q2 nq2 => ?_⟩
    have k7 : Kp H5 (upd H6 q2 (.lst ([.int 0] ++ octV (RWire.write (Rust.given p))))) := k6.snoc nq2
    refine post _ q2 ((hD5.post k7).pre (k03.trans kq)) (fun b o e nb => ne_of_none (kat k6 ((hD5.pre (k03.trans kq)).1.all _ _ e nb)) nq2) ?_
    rw [upd_same]
    rfl
  · rw [he] at htell hlen post
    refine ⟨true, eR, fun _ a0 na => ⟨rfl, d, rfl, ?_⟩, fun q => nomatch q⟩
    obtain ⟨fs, ed, lk, lm⟩ := hx
    have htell : (Rust.narrowText e.msg && RWire.fineText (e.msg.map Rust.octetOf)) = true := htell
    rw [Bool.and_eq_true] at htell
    have em : strV m = octV (e.msg.map Rust.octetOf) := mo.eq.trans (unitsV_oct htell.1)
    refine ⟨_, rfl, rfl, fs, _, ed, lk, _, rfl, rfl, fs, _, ed, lm, Rust.classOf e.cls, m, e.msg.map Rust.octetOf, rfl, mo.asc, mo.len, ?_, em, fun H6 r6 k6 n6 e6 => ?_⟩
    · cases e.cls <;> decide
    · exact post H6 r6 ((hD5.post k6).pre (k03.trans kq)) (fun b o e nb => ne_of_none ((hD5.pre (k03.trans kq)).1.all _ _ e nb) n6) e6
/-! ### answers -/
abbrev stepF : Rust.St → List (List Int) → Rust.St × List Int := fun s c => Zn91Neutral.step s (c.headD [])
def flat (rows : List (List Int)) : List Int := rows.flatMap fun r => 0 :: (r.length : Int) :: r
theorem flat_cons (r : List Int) (rs : List (List Int)) : flat (r :: rs) = 0 :: (r.length : Int) :: (r ++ flat rs) := rfl
theorem flat_app (a b : List (List Int)) : flat (a ++ b) = flat a ++ flat b := List.flatMap_append
theorem row_inv {l x t : List Int} (h : PyFlat.row l = some (x, t)) : l = (x.length : Int) :: (x ++ t) := by
  unfold PyFlat.row at h
  split at h
  · cases h
  · rename_i n r
    split at h
    · rename_i hn
      injection h with h
      injection h with h1 h2
      have hl : (r.take n.toNat).length = n.toNat := by rw [List.length_take]; omega
      rw [← h1, ← h2, hl, List.take_append_drop, Int.toNat_of_nonneg hn.1]
    · cases h
theorem calls_inv : ∀ (f : Nat) (l : List Int) (cs : List (List (List Int))), PyFlat.calls PyZn91.shape f l = some cs → ∃ rows, cs = rows.map (fun r => [[0], r]) ∧ l = flat rows
  | f, [], cs, h => by
    have h : some [] = some cs := by cases f <;> exact h
    obtain rfl : [] = cs := Option.some.inj h
    exact ⟨[], rfl, rfl⟩
  | 0, p :: r, cs, h => by cases h
  | f + 1, p :: r, cs, h => by
    rw [PyFlat.calls] at h
    cases e : PyFlat.call PyZn91.shape (p :: r) with
    | none => rw [e] at h; cases h
    | some ct =>
      obtain ⟨c, t⟩ := ct
      rw [e] at h
      simp only at h
      cases e2 : PyFlat.calls PyZn91.shape f t with
      | none => rw [e2] at h; cases h
      | some cs' =>
        rw [e2] at h
        obtain rfl : c :: cs' = cs := Option.some.inj h
        obtain ⟨rows, e3, e4⟩ := calls_inv f t cs' e2
        by_cases hp : p = 0
        · have e : (match PyFlat.rows 1 (r.drop 0) with
              | none => none
              | some (xs, t) => some ((p :: r.take 0) :: xs, t)) = some (c, t) := by
            rw [← e]
            unfold PyFlat.call PyZn91.shape
            simp only [hp, if_true, Nat.not_lt_zero, if_false]
            rfl
          simp only [List.drop_zero, List.take_zero] at e
          unfold PyFlat.rows at e
          cases e5 : PyFlat.row r with
          | none => rw [e5] at e; cases e
          | some xt =>
            obtain ⟨x, t'⟩ := xt
            rw [e5] at e
            simp only [PyFlat.rows] at e
            injection e with e
            injection e with e6 e7
            subst e7
            refine ⟨x :: rows, ?_, ?_⟩
            · rw [← e6, e3, hp]
              rfl
            · rw [flat_cons, hp, row_inv e5, e4]
        · exfalso
          have e : (none : Option (List (List Int) × List Int)) = some (c, t) := by
            rw [← e]
            unfold PyFlat.call PyZn91.shape
            simp only [hp, if_false]
          cases e
theorem whole_rows (rows : List (List Int)) : (rows.map fun r => [[(0 : Int)], r]).map PyZn91.whole = rows.map fun r => [r] := by
  rw [List.map_map]
  rfl
def spAns (K : PySem.W.Frag) : Sp := fun vs H Q _ => ∃ (a : Addr) (zs : List Int), vs = [.ref a] ∧ SqL K H a (zs.map V.int) ∧ PyZn91.answers_asked zs = true ∧ zs.length ≤ 61000 ∧ ∀ H' p, H' p = some (.lst ((PyZn91.answers zs).map V.int)) → Q (.ref p) H'
theorem bytes_oct {r : List Int} (h : NeutralIO.bytes r = true) : r.map V.int = octV (Zn91Neutral.bytesOf r) := by
  unfold octV Zn91Neutral.bytesOf
  rw [List.map_map]
  refine List.map_congr_left fun n hn => ?_
  have := List.all_eq_true.mp h n hn
  rw [Bool.and_eq_true, decide_eq_true_iff, decide_eq_true_iff] at this
  show V.int n = V.int ((UInt8.ofNat n.toNat).toNat : Nat)
  have e : (((UInt8.ofNat n.toNat).toNat : Nat) : Int) = n := by
    rw [UInt8.toNat_ofNat']
    omega
  rw [e]
theorem b_answers (B : Bt mg) (c_Desk_new : Mak P w K mg base 3 "Desk" CD (spDkNew P w K CP CS CD)) (c_reply_to : Cal P w K mg base 116 "reply_to" (spReply P w K CP CS CD)) : Bd P w K mg base N_answers "answers" s_answers 116 (spAns K) := by
  rintro f cdv A0 outer s0 H vs Q E hr ⟨a, zs, rfl, ha, hask, hz, post⟩
  refine ⟨_, pss_cons (ps_set (i := 1) sc_answers.nd rfl (Or.inl rfl) (pe_k0 c_Desk_new hr (by omega) (by rfl)))
    (pss_cons (ps_set (i := 2) sc_answers.nd rfl (Or.inl rfl) (pe_lst pa_nil))
    (pss_cons (ps_set (i := 3) sc_answers.nd rfl (Or.inl rfl) (pe_int))
    (pss_cons (ps_while PassesOwn.never (pt_cmpR op_lt (pv 3) (pe_callB call_len_seq (by rfl) B.len PySem.boot_len (pa_cons (pv 0) pa_nil)) (nomark _)) (pss_cons (ps_set (i := 4) sc_answers.nd rfl (Or.inl rfl) (pe_ix ix_seq (pv 0) (pe_op op_add (pv 3) (pe_int)) (fun _ _ => rfl)))
    (pss_cons (ps_set (i := 5) sc_answers.nd rfl (Or.inl rfl) (pe_c c_reply_to hr (by omega) (by rfl) (pa_cons (pv 1) (pa_cons (pe_callTy call_tuple_of (by rfl) B.tuple PyProof.Rows.boot_tuple (pa_cons (pe_slice sl_list (pv 0) (po_some (pe_op op_add (pv 3) (pe_int))) (po_some (pe_op op_add (pe_op op_add (pv 3) (pe_int)) (pv 4)))) pa_nil)) pa_nil))))
    (pss_cons (ps_aug (i := 3) sc_answers.nd rfl (Or.inl rfl) (pe_op op_add (pe_int) (pv 4)) ip_add)
    (pss_cons (ps_expr (pe_bm PySem.F.plainAttrs_list PySem.F.slot_list_append PySem.F.type_list_append mt_append (pv 2) (pa_cons (pe_callB call_len_seq (by rfl) B.len PySem.boot_len (pa_cons (pv 5) pa_nil)) pa_nil)))
    (pss_one (ps_expr (pe_bm PySem.F.plainAttrs_list PySem.F.slot_list_extend PySem.F.type_list_extend mt_extend (pv 2) (pa_cons (pv 5) pa_nil)))))))))
    (pss_one (ps_ret (pv 2)))))), ?_⟩
  -- the calls
  unfold PyZn91.answers_asked at hask
  cases ec : PyZn91.calls zs with
  | none => rw [ec] at hask; cases hask
  | some cs =>
  rw [ec] at hask
  have hask : (PyFlat.atMost 200 cs && Zn91Neutral.asked (cs.map fun c => c.headD []) && PyFlat.short 10000000 (PyZn91.answers zs)) = true := hask
  rw [Bool.and_eq_true, Bool.and_eq_true] at hask
  obtain ⟨⟨_, hasked⟩, hshort⟩ := hask
  have hshort : (PyZn91.answers zs).length ≤ 10000000 := of_decide_eq_true hshort
  have eans : PyZn91.answers zs = PyFlat.told (PyFlat.played stepF Zn91Neutral.start cs) := by
    unfold PyZn91.answers
    rw [ec]
  unfold PyZn91.calls at ec
  cases ec2 : PyFlat.calls PyZn91.shape zs.length zs with
  | none => rw [ec2] at ec; cases ec
  | some cs0 =>
  rw [ec2] at ec
  obtain ⟨rows, er, ez⟩ := calls_inv _ _ _ ec2
  have ecs : cs = rows.map fun r => [r] := by
    rw [← whole_rows, ← er]
    exact (Option.some.inj ec).symm
  rw [ecs] at hasked eans
  rw [List.map_map] at hasked
  have hmap : (rows.map ((fun c : List (List Int) => c.headD []) ∘ fun r => [r])) = rows := by
    have : ((fun c : List (List Int) => c.headD []) ∘ fun r => [r]) = id := rfl
    rw [this, List.map_id]
  rw [hmap] at hasked
  unfold Zn91Neutral.asked at hasked
  rw [Bool.and_eq_true, Bool.and_eq_true] at hasked
  obtain ⟨hbytes, _, hfits⟩ := hasked
  unfold Rust.fits at hfits
  rw [Bool.and_eq_true] at hfits
  have hgoes := hfits.2
  -- desk = Desk()
  intro Dk dd nDk ndd ne
  have kmk : Kp H (upd (upd H dd (.own Dk)) Dk (.ins CD dd [])) := (Keep.new ndd).snoc (by rw [upd_ne ne.symm]; exact nDk)
  refine ⟨Dk, dd, rfl, upd_same, fun H1 k1 hD1 => ⟨rfl, ?_⟩⟩
  have k01 : Kp H H1 := made_kp (C := CD) nDk ndd ne k1
  refine ⟨Nat.zero_le _, fun fnd nf => ?_⟩
  have kf : Kp H1 (upd H1 fnd (.lst [])) := Keep.new nf
  have ef : upd H1 fnd (.lst []) fnd = some (.lst []) := upd_same
  obtain ⟨Pl, KN, SD, kvs, sl, D1⟩ := hD1
  have D2 := D1.keep kf.to (D1.mm.kp kf)
  have nfoot : ¬ foot KN SD sl Rust.start fnd := foot_tracked D1 nf
  have hall : ∀ r ∈ rows, NeutralIO.bytes r = true ∧ r.length ≤ 60000 := fun r hr => by
    refine ⟨List.all_eq_true.mp hbytes r hr, ?_⟩
    have h1 := hfits.1
    rw [Bool.and_eq_true, Bool.and_eq_true] at h1
    have h2 := List.all_eq_true.mp h1.1.2 _ (List.mem_map_of_mem hr)
    have h3 := Nat.le_of_ble_eq_true h2
    unfold Zn91Neutral.bytesOf at h3
    rw [List.length_map] at h3
    exact h3
  -- how the calls stay
  have rk0 : ((upd H1 fnd (.lst [])) a = some (.lst (zs.map V.int)) ∧ ¬ foot KN SD sl Rust.start a ∧ a ≠ fnd) ∨ ((∃ o, (upd H1 fnd (.lst [])) a = some (.frz o (.lst (zs.map V.int)))) ∨ ∀ H2, SqL K H2 a (zs.map V.int)) := by
    rcases ha with (h | ⟨o, h⟩) | h
    · have h1 := kat k01 h
      refine .inl ⟨kat kf h1, fun z => ?_, ne_of_none h1 nf⟩
      rcases z with z | z | ⟨p, s, e, _⟩
      · obtain ⟨xs, e, _⟩ := D1.mm
        rw [z, e] at h1
        cases h1
      · rw [z, D1.sd] at h1
        cases h1
      · exfalso
        match p with
        | 0 => cases e
        | 1 => cases e
        | 2 => cases e
        | n + 3 => cases e
    · exact .inr (.inl ⟨o, (k01.trans kf).frz _ _ _ h⟩)
    · exact .inr (.inr fun _ => .inr h)
  refine while_by (fun σ H' => ∃ (done rest : List (List Int)) (W : SW) (left : Nat) (out : List Int) (Pl KN SD : Addr) (kvs : List (Key × V)) (sl : Nat → Addr × Addr × Addr) (v4 v5 : Option V), rows = done ++ rest ∧ σ = [some (.ref a), some (.ref Dk), some (.ref fnd), some (.int ((flat done).length : Nat)), v4, v5] ∧ Rust.goes W left (rest.map Zn91Neutral.bytesOf) = true ∧
      PyZn91.answers zs = out ++ PyFlat.told (PyFlat.played stepF W (rest.map fun r => [r])) ∧ H' fnd = some (.lst (out.map V.int)) ∧ DeskAt P w K CP CS CD H' Dk Pl KN SD kvs sl W ∧ ¬ foot KN SD sl W fnd ∧
      ((H' a = some (.lst (zs.map V.int)) ∧ ¬ foot KN SD sl W a ∧ a ≠ fnd) ∨ ((∃ o, H' a = some (.frz o (.lst (zs.map V.int)))) ∨ ∀ H2, SqL K H2 a (zs.map V.int))))
    (fun (σ : List (Option V)) _ => match σ[3]? with
      | some (some (V.int t)) => zs.length - t.toNat
      | _ => 0) ⟨[], rows, Rust.start, Rust.answersAllMost, [], Pl, KN, SD, kvs, sl, none, none, rfl, rfl, hgoes, eans, ef, D2, nfoot, rk0⟩ ?_ ?_
  · rintro σ H3 ⟨done, rest, W, left, out, Pl, KN, SD, kvs, sl, v4, v5, erows, rfl, hg, ea, efnd, D, nfo, rk⟩
    have sq : SqL K H3 a (zs.map V.int) := by
      rcases rk with ⟨h, _⟩ | ⟨o, h⟩ | h
      · exact .of h
      · exact .inl (.inr ⟨o, h⟩)
      · exact h _
    have ezs : zs = flat done ++ flat rest := by rw [ez, erows, flat_app]
    have lzs : (zs.map V.int).length = (flat done).length + (flat rest).length := by rw [List.length_map, ezs, List.length_append]
    refine ⟨_, rfl, _, rfl, a, _, rfl, .inl sq, _, _, rfl, rfl, _, rfl, ifB (fun h => ?_) fun h => ?_⟩
    · have h : ((flat done).length : Int) < ((zs.map V.int).length : Int) := of_decide_eq_true h
      cases rest with
      | nil =>
        exfalso
        rw [lzs] at h
        have : (flat []).length = 0 := rfl
        omega
      | cons r rest =>
        rw [flat_cons] at ezs lzs
        simp only [List.length_cons, List.length_append] at lzs
        obtain ⟨hb, hr60⟩ := hall r (by rw [erows]; exact List.mem_append_right _ (List.mem_cons_self ..))
        -- what the request asks
        have hg : Rust.goes W left (Zn91Neutral.bytesOf r :: rest.map Zn91Neutral.bytesOf) = true := hg
        rw [Rust.goes] at hg
        cases eask : Rust.asked (Zn91Neutral.bytesOf r) with
        | none => rw [eask] at hg; cases hg
        | some c =>
        rw [eask] at hg
        simp only [Bool.and_eq_true] at hg
        obtain ⟨⟨⟨⟨hcan, htell⟩, hA⟩, _⟩, hg'⟩ := hg
        have estep : Rust.step W (Zn91Neutral.bytesOf r) = ((step W c).1, RWire.writeAnswer (Rust.answerOf (step W c).2)) := by
          unfold Rust.step
          rw [eask]
          simp only [hcan, if_true]
        have hA := Nat.le_of_ble_eq_true hA
        rw [estep] at hA
        have i1 : ((flat done).length : Int) + 1 = (((flat done).length + 1 : Nat) : Int) := by omega
        have g1 : (zs.map V.int)[(flat done).length + 1]? = some (V.int (r.length : Nat)) := by
          rw [List.getElem?_map, ezs, List.getElem?_append_right (by omega)]
          have : (flat done).length + 1 - (flat done).length = 1 := by omega
          rw [this]
          rfl
        have at1 : atI (zs.map V.int) (((flat done).length : Int) + 1) = some (V.int (r.length : Nat)) := by
          rw [i1]
          exact atI_nat g1
        have cut : cutV (zs.map V.int) (some (((flat done).length : Int) + 2)) (some (((flat done).length : Int) + 2 + (r.length : Nat))) = octV (Zn91Neutral.bytesOf r) := by
          have i2 : ((flat done).length : Int) + 2 = (((flat done).length + 2 : Nat) : Int) := by omega
          rw [i2, cut_mid (zs.map V.int) ((flat done).length + 2) r.length (by rw [lzs]; omega), ← bytes_oct hb, ← List.map_drop, ← List.map_take, ezs]
          congr 1
          rw [← List.drop_drop, List.drop_left]
          show (r ++ flat rest).take r.length = r
          exact List.take_left
        refine ⟨_, rfl, _, rfl, _, _, rfl, rfl, .inl ⟨a, _, _, _, rfl, rfl, sq, at1, ?_⟩⟩
        refine ⟨_, rfl, _, rfl, _, rfl, _, _, rfl, rfl, _, rfl, _, rfl, _, _, rfl, rfl, _, rfl, _, _, rfl, rfl, _, rfl, a, _, rfl, sq, fun q nq => ⟨q, _, rfl, .inl ⟨.of upd_same, fun q2 nq2 => ?_⟩⟩⟩
        have kq : Kp H3 (upd (upd H3 q (.lst (cutV (zs.map V.int) (some (((flat done).length : Int) + 2)) (some (((flat done).length : Int) + 2 + (r.length : Nat)))))) q2 (.tup (cutV (zs.map V.int) (some (((flat done).length : Int) + 2)) (some (((flat done).length : Int) + 2 + (r.length : Nat)))))) := (Keep.new nq).snoc nq2
        have D4 := D.keep kq.to (D.mm.kp kq)
        refine ⟨Dk, q2, Pl, KN, SD, kvs, sl, W, Zn91Neutral.bytesOf r, c, rfl, D4, .of (by rw [upd_same, cut]), (by unfold Zn91Neutral.bytesOf; rw [List.length_map]; omega), eask, hcan, htell, hA, fun H5 r5 hN nr e5 => ?_⟩
        have hN := hN.pre kq
        obtain ⟨k5, Pl', KN', SD', kvs', sl', D5, hfo⟩ := hN
        have efn5 : H5 fnd = some (.lst (out.map V.int)) := k5.all _ _ efnd nfo
        have nfr : fnd ≠ r5 := nr _ _ (kat kq efnd) nfo
        generalize hw : RWire.writeAnswer (Rust.answerOf (step W c).2) = wr at hA e5 estep
        have eout : PyZn91.answers zs = (out ++ ((wr.length : Nat) : Int) :: Zn91Neutral.numbersOf wr) ++ PyFlat.told (PyFlat.played stepF (step W c).1 (rest.map fun r => [r])) := by
          rw [ea, List.map_cons]
          have e1 : stepF W [r] = ((step W c).1, Zn91Neutral.numbersOf wr) := by
            show ((Rust.step W (Zn91Neutral.bytesOf r)).1, Zn91Neutral.numbersOf (Rust.step W (Zn91Neutral.bytesOf r)).2) = _
            rw [estep]
          rw [PyFlat.played, e1]
          show out ++ (((Zn91Neutral.numbersOf wr).length : Int) :: Zn91Neutral.numbersOf wr ++ PyFlat.told _) = _
          have e2 : (Zn91Neutral.numbersOf wr).length = wr.length := List.length_map _
          rw [e2, List.append_assoc]
        have enum : (Zn91Neutral.numbersOf wr).map V.int = octV wr := by
          unfold Zn91Neutral.numbersOf octV
          rw [List.map_map]
          rfl
        have lout : out.length + 1 + wr.length ≤ 10000000 := by
          have h1 := hshort
          rw [eout] at h1
          simp only [List.length_append, List.length_cons, Zn91Neutral.numbersOf, List.length_map] at h1
          omega
        have line : (10000000 : Nat) < sizeLine := by decide
        -- at
        refine ⟨_, rfl, _, rfl, _, _, rfl, rfl, _, _, rfl, rfl, ?_⟩
        -- found
        refine ⟨_, rfl, .inl ⟨rfl, _, .of efn5⟩, _, rfl, r5, _, rfl, .inl (.of e5), fnd, _, _, rfl, rfl, efn5, (by rw [List.length_map]; omega), ?_⟩
        have k6 : Keep (fun b => b = fnd) H5 (upd H5 fnd (.lst (out.map V.int ++ [V.int ((octV wr).length : Nat)]))) := Keep.put rfl efn5 (by intro z; exact HO.noConfusion) (by intro z w; exact HO.noConfusion)
        have e6 : upd H5 fnd (.lst (out.map V.int ++ [V.int ((octV wr).length : Nat)])) fnd = some (.lst (out.map V.int ++ [V.int ((octV wr).length : Nat)])) := upd_same
        generalize upd H5 fnd (.lst (out.map V.int ++ [V.int ((octV wr).length : Nat)])) = H6 at k6 e6
        have e56 : H6 r5 = some (.lst (octV wr)) := k6.all _ _ e5 nfr.symm
        refine ⟨_, rfl, .inl ⟨rfl, _, .of e6⟩, _, rfl, fnd, r5, _, _, rfl, rfl, e6, e56, (by rw [List.length_append, List.length_map, octV_lenW]; show out.length + 1 + wr.length ≤ sizeLine; omega), ?_⟩
        have k7 : Keep (fun b => b = fnd) H6 (upd H6 fnd (.lst ((out.map V.int ++ [V.int ((octV wr).length : Nat)]) ++ octV wr))) := Keep.put rfl e6 (by intro z; exact HO.noConfusion) (by intro z w; exact HO.noConfusion)
        have e7 : upd H6 fnd (.lst ((out.map V.int ++ [V.int ((octV wr).length : Nat)]) ++ octV wr)) fnd = some (.lst ((out ++ ((wr.length : Nat) : Int) :: Zn91Neutral.numbersOf wr).map V.int)) := by
          rw [upd_same, List.map_append, List.map_cons, enum, octV_lenW, List.append_assoc]
          rfl
        generalize upd H6 fnd (.lst ((out.map V.int ++ [V.int ((octV wr).length : Nat)]) ++ octV wr)) = H7 at k7 e7
        have k57 : Keep (fun b => b = fnd) H5 H7 := k6.trans k7
        have nfo' : ¬ foot KN' SD' sl' (step W c).1 fnd := fun z => by
          rcases hfo _ z with z | z
          · exact nfo z
          · rw [efnd] at z
            cases z
        have D7 : DeskAt P w K CP CS CD H7 Dk Pl' KN' SD' kvs' sl' (step W c).1 := D5.away k57 efn5 nfo'
        refine ⟨⟨done ++ [r], rest, (step W c).1, _, _, Pl', KN', SD', kvs', sl', some (.int (r.length : Nat)), some (.ref r5), ?_, ?_, hg', eout, e7, D7, nfo', ?_⟩, ?_⟩
        · rw [erows, List.append_assoc]
          rfl
        · have el : (flat (done ++ [r])).length = (flat done).length + (2 + r.length) := by
            rw [flat_app, List.length_append]
            show _ + (List.length (r ++ []) + 1 + 1) = _
            rw [List.append_nil]
            omega
          rw [el]
          have e9 : ((flat done).length : Int) + (2 + (r.length : Nat)) = (((flat done).length + (2 + r.length) : Nat) : Int) := by omega
          rw [← e9]
          rfl
        · rcases rk with ⟨h1, h2, h3⟩ | ⟨o, h1⟩ | h1
          · refine .inl ⟨k57.all _ _ (k5.all _ _ h1 h2) h3, fun z => ?_, h3⟩
            rcases hfo _ z with z | z
            · exact h2 z
            · rw [h1] at z
              cases z
          · exact .inr (.inl ⟨o, k57.frz _ _ _ (k5.frz _ _ _ h1)⟩)
          · exact .inr (.inr h1)
        · show zs.length - (((flat done).length : Int) + (2 + (r.length : Nat))).toNat < zs.length - ((flat done).length : Int).toNat
          rw [List.length_map] at lzs
          omega
    · have h : ¬ ((flat done).length : Int) < ((zs.map V.int).length : Int) := of_decide_eq_false h
      cases rest with
      | cons r rest =>
        exfalso
        rw [flat_cons] at lzs
        simp only [List.length_cons] at lzs
        omega
      | nil =>
        have e1 : PyZn91.answers zs = out := by
          rw [ea]
          show out ++ [] = out
          rw [List.append_nil]
        refine ⟨_, rfl, post H3 fnd ?_⟩
        rw [efnd, e1]
  · rintro σ H Q Q' i ⟨v0, e0, v1, e1, p, ys, e2, e3, i1, j1, a1, a2, k, a3, qq⟩
    exact ⟨v0, e0, v1, e1, p, ys, e2, e3, i1, j1, a1, a2, k, a3, i _ _ qq⟩
end
end Fs

/-! The defs together. The bundles and the bindings are printed by gen2.py. -/
namespace Fs
open PySem PySem.Spec PyProof.Rows L2 L2H

def BindF (x qual : Str) (st : Stmt) (ps : List Str) : Prop := ∀ (kV doc pm : Value) (an : Option Addr) (cdv ct : Value) (us : List Value), us.length = ps.length → bindArgs (PySem.W.fnOf x qual (defArgs st) (defBody st) (defScope st) .none kV doc pm an cdv ct) ⟨us, []⟩ = pure (ps.zip us)
section
variable {K : PySem.W.Frag} {mg : Str → Option Value} {h : Heap} {x m qual : Str} {st : Stmt} {ps : List Str} {f C : Addr} {oc kV dc pm cd ct : Value} {od an : Option Addr} {sl : Array (Option Value)}
theorem df_mk (X : K.In h) (G : h.Ns mainGlobals mg) (b : BindF x x st ps) (a : PySem.W.nsIn K mainGlobals x = some (some (.ref f))) (l : K.lookup f = some ⟨oc, od, .func (PySem.W.fnOf x x (defArgs st) (defBody st) (defScope st) .none kV dc pm an cd ct), sl⟩) (c : PySem.W.codeIn K cd x = true) (k : PySem.W.keepIn K (.ref f) = true) : Df K mg x st ps :=
  have F := fun_mk l c k
  ⟨f, _, F, PySem.W.mg_of X G a, F.binds b⟩
theorem dm_mk (b : BindF m qual st ps) (c0 : Cls K C) (a : PySem.W.findIn K (.ref C) m = some (some (.ref f))) (i : PySem.W.isFn K (.ref f) = true) (l : K.lookup f = some ⟨oc, od, .func (PySem.W.fnOf m qual (defArgs st) (defBody st) (defScope st) .none kV dc pm an cd ct), sl⟩) (c : PySem.W.codeIn K cd qual = true) (k : PySem.W.keepIn K (.ref f) = true) : Dm K C m qual st ps :=
  have F := fun_mk l c k
  ⟨f, _, F, c0, ⟨a, i, k⟩, F.binds b⟩
theorem di_mk (X : K.In h) (G : h.Ns mainGlobals mg) (b : BindF "__init__" qual st ps) (aC : PySem.W.nsIn K mainGlobals x = some (some (.ref C))) (mk : PySem.W.makesIn K C = true) (kc : PySem.W.keepIn K (.ref C) = true) (a : PySem.W.findIn K (.ref C) "__init__" = some (some (.ref f))) (i : PySem.W.isFn K (.ref f) = true) (l : K.lookup f = some ⟨oc, od, .func (PySem.W.fnOf "__init__" qual (defArgs st) (defBody st) (defScope st) .none kV dc pm an cd ct), sl⟩) (c : PySem.W.codeIn K cd qual = true) (k : PySem.W.keepIn K (.ref f) = true) : Di K mg x C qual st ps :=
  have F := fun_mk l c k
  ⟨f, _, F, ⟨mk, a, i, kc⟩, PySem.W.mg_of X G aC, F.binds b⟩
end

theorem bi_first_left : BindF "first_left" "first_left" s_first_left ["versions", "bad", "good"] := fun _ _ _ _ _ _ us hl => match us, hl with | [_, _, _], _ => rfl

theorem bi_left_by : BindF "left_by" "left_by" s_left_by ["left", "tested", "is_bad"] := fun _ _ _ _ _ _ us hl => match us, hl with | [_, _, _], _ => rfl

theorem bi_left_behind : BindF "left_behind" "left_behind" s_left_behind ["left", "answers"] := fun _ _ _ _ _ _ us hl => match us, hl with | [_, _], _ => rfl

theorem bi_Planner_new : BindF "__init__" "Planner.__init__" s_Planner_new ["self"] := fun _ _ _ _ _ _ us hl => match us, hl with | [_], _ => rfl

theorem bi_Planner_fewest : BindF "fewest" "Planner.fewest" s_Planner_fewest ["self", "left"] := fun _ _ _ _ _ _ us hl => match us, hl with | [_, _], _ => rfl

theorem bi_Planner_worse : BindF "worse" "Planner.worse" s_Planner_worse ["self", "left", "tested"] := fun _ _ _ _ _ _ us hl => match us, hl with | [_, _, _], _ => rfl

theorem bi_Planner_best_test : BindF "best_test" "Planner.best_test" s_Planner_best_test ["self", "left"] := fun _ _ _ _ _ _ us hl => match us, hl with | [_, _], _ => rfl

theorem bi_Planner_best_plan : BindF "best_plan" "Planner.best_plan" s_Planner_best_plan ["self", "left"] := fun _ _ _ _ _ _ us hl => match us, hl with | [_, _], _ => rfl

theorem bi_counterexample : BindF "counterexample" "counterexample" s_counterexample ["left", "plan", "answers"] := fun _ _ _ _ _ _ us hl => match us, hl with | [_, _, _], _ => rfl

theorem bi_are_wrong : BindF "are_wrong" "are_wrong" s_are_wrong ["version", "answers"] := fun _ _ _ _ _ _ us hl => match us, hl with | [_, _], _ => rfl

theorem bi_weight_of : BindF "weight_of" "weight_of" s_weight_of ["tests", "bad", "good", "known"] := fun _ _ _ _ _ _ us hl => match us, hl with | [_, _, _, _], _ => rfl

theorem bi_least_by_weight : BindF "least_by_weight" "least_by_weight" s_least_by_weight ["versions", "bad", "good"] := fun _ _ _ _ _ _ us hl => match us, hl with | [_, _, _], _ => rfl

theorem bi_Refused_new : BindF "__init__" "Refused.__init__" s_Refused_new ["self", "kind", "message"] := fun _ _ _ _ _ _ us hl => match us, hl with | [_, _, _], _ => rfl

theorem bi_need_kind : BindF "need_kind" "need_kind" s_need_kind ["test", "message"] := fun _ _ _ _ _ _ us hl => match us, hl with | [_, _], _ => rfl

theorem bi_need_range : BindF "need_range" "need_range" s_need_range ["test", "message"] := fun _ _ _ _ _ _ us hl => match us, hl with | [_, _], _ => rfl

theorem bi_octets_of : BindF "octets_of" "octets_of" s_octets_of ["letters"] := fun _ _ _ _ _ _ us hl => match us, hl with | [_], _ => rfl

theorem bi_text : BindF "text" "text" s_text ["letters"] := fun _ _ _ _ _ _ us hl => match us, hl with | [_], _ => rfl

theorem bi_integer : BindF "integer" "integer" s_integer ["number"] := fun _ _ _ _ _ _ us hl => match us, hl with | [_], _ => rfl

theorem bi_boolean : BindF "boolean" "boolean" s_boolean ["truth"] := fun _ _ _ _ _ _ us hl => match us, hl with | [_], _ => rfl

theorem bi_row : BindF "row" "row" s_row ["values"] := fun _ _ _ _ _ _ us hl => match us, hl with | [_], _ => rfl

theorem bi_record : BindF "record" "record" s_record ["pairs"] := fun _ _ _ _ _ _ us hl => match us, hl with | [_], _ => rfl

theorem bi_Request_new : BindF "__init__" "Request.__init__" s_Request_new ["self", "octets"] := fun _ _ _ _ _ _ us hl => match us, hl with | [_, _], _ => rfl

theorem bi_Request_take : BindF "take" "Request.take" s_Request_take ["self", "many"] := fun _ _ _ _ _ _ us hl => match us, hl with | [_, _], _ => rfl

theorem bi_Request_give_number : BindF "give_number" "Request.give_number" s_Request_give_number ["self", "many"] := fun _ _ _ _ _ _ us hl => match us, hl with | [_, _], _ => rfl

theorem bi_Request_value : BindF "value" "Request.value" s_Request_value ["self"] := fun _ _ _ _ _ _ us hl => match us, hl with | [_], _ => rfl

theorem bi_Request_arguments : BindF "arguments" "Request.arguments" s_Request_arguments ["self", "most"] := fun _ _ _ _ _ _ us hl => match us, hl with | [_, _], _ => rfl

theorem bi_number_octets : BindF "number_octets" "number_octets" s_number_octets ["number", "many"] := fun _ _ _ _ _ _ us hl => match us, hl with | [_, _], _ => rfl

theorem bi_value_octets : BindF "value_octets" "value_octets" s_value_octets ["value"] := fun _ _ _ _ _ _ us hl => match us, hl with | [_], _ => rfl

theorem bi_refusal_octets : BindF "refusal_octets" "refusal_octets" s_refusal_octets ["kind", "message"] := fun _ _ _ _ _ _ us hl => match us, hl with | [_, _], _ => rfl

theorem bi_number_in : BindF "number_in" "number_in" s_number_in ["value", "low", "high"] := fun _ _ _ _ _ _ us hl => match us, hl with | [_, _, _], _ => rfl

theorem bi_setting_of : BindF "setting_of" "setting_of" s_setting_of ["given"] := fun _ _ _ _ _ _ us hl => match us, hl with | [_], _ => rfl

theorem bi_is_answer : BindF "is_answer" "is_answer" s_is_answer ["value", "versions"] := fun _ _ _ _ _ _ us hl => match us, hl with | [_, _], _ => rfl

theorem bi_answers_of : BindF "answers_of" "answers_of" s_answers_of ["value", "versions"] := fun _ _ _ _ _ _ us hl => match us, hl with | [_, _], _ => rfl

theorem bi_is_plan : BindF "is_plan" "is_plan" s_is_plan ["value", "versions", "depth"] := fun _ _ _ _ _ _ us hl => match us, hl with | [_, _, _], _ => rfl

theorem bi_plan_of : BindF "plan_of" "plan_of" s_plan_of ["value"] := fun _ _ _ _ _ _ us hl => match us, hl with | [_], _ => rfl

theorem bi_plan_value : BindF "plan_value" "plan_value" s_plan_value ["plan"] := fun _ _ _ _ _ _ us hl => match us, hl with | [_], _ => rfl

theorem bi_number_value : BindF "number_value" "number_value" s_number_value ["number"] := fun _ _ _ _ _ _ us hl => match us, hl with | [_], _ => rfl

theorem bi_Search_new : BindF "__init__" "Search.__init__" s_Search_new ["self", "planner", "setting", "outcome"] := fun _ _ _ _ _ _ us hl => match us, hl with | [_, _, _, _], _ => rfl

theorem bi_Search_test : BindF "test" "Search.test" s_Search_test ["self"] := fun _ _ _ _ _ _ us hl => match us, hl with | [_], _ => rfl

theorem bi_Search_take : BindF "take" "Search.take" s_Search_take ["self", "reply"] := fun _ _ _ _ _ _ us hl => match us, hl with | [_, _], _ => rfl

theorem bi_Search_fail : BindF "fail" "Search.fail" s_Search_fail ["self", "reason"] := fun _ _ _ _ _ _ us hl => match us, hl with | [_, _], _ => rfl

theorem bi_rejected : BindF "rejected" "rejected" s_rejected ["planner", "refused"] := fun _ _ _ _ _ _ us hl => match us, hl with | [_, _], _ => rfl

theorem bi_Desk_new : BindF "__init__" "Desk.__init__" s_Desk_new ["self"] := fun _ _ _ _ _ _ us hl => match us, hl with | [_], _ => rfl

theorem bi_Desk_begun : BindF "begun" "Desk.begun" s_Desk_begun ["self", "door", "own"] := fun _ _ _ _ _ _ us hl => match us, hl with | [_, _, _], _ => rfl

theorem bi_Desk_search_door : BindF "search_door" "Desk.search_door" s_Desk_search_door ["self", "door", "own"] := fun _ _ _ _ _ _ us hl => match us, hl with | [_, _, _], _ => rfl

theorem bi_Desk_planning_door : BindF "planning_door" "Desk.planning_door" s_Desk_planning_door ["self", "door", "setting", "own"] := fun _ _ _ _ _ _ us hl => match us, hl with | [_, _, _, _], _ => rfl

theorem bi_Desk_answers_door : BindF "answers_door" "Desk.answers_door" s_Desk_answers_door ["self", "door", "setting", "own"] := fun _ _ _ _ _ _ us hl => match us, hl with | [_, _, _, _], _ => rfl

theorem bi_Desk_answer : BindF "answer" "Desk.answer" s_Desk_answer ["self", "door", "own"] := fun _ _ _ _ _ _ us hl => match us, hl with | [_, _, _], _ => rfl

theorem bi_reply_to : BindF "reply_to" "reply_to" s_reply_to ["desk", "octets"] := fun _ _ _ _ _ _ us hl => match us, hl with | [_, _], _ => rfl

theorem bi_answers : BindF "answers" "answers" s_answers ["calls"] := fun _ _ _ _ _ _ us hl => match us, hl with | [_], _ => rfl

structure FnD (K : PySem.W.Frag) (mg : Str → Option Value) : Prop where
  first_left : Df K mg "first_left" s_first_left ["versions", "bad", "good"]
  left_by : Df K mg "left_by" s_left_by ["left", "tested", "is_bad"]
  left_behind : Df K mg "left_behind" s_left_behind ["left", "answers"]
  counterexample : Df K mg "counterexample" s_counterexample ["left", "plan", "answers"]
  are_wrong : Df K mg "are_wrong" s_are_wrong ["version", "answers"]
  weight_of : Df K mg "weight_of" s_weight_of ["tests", "bad", "good", "known"]
  least_by_weight : Df K mg "least_by_weight" s_least_by_weight ["versions", "bad", "good"]
  need_kind : Df K mg "need_kind" s_need_kind ["test", "message"]
  need_range : Df K mg "need_range" s_need_range ["test", "message"]
  octets_of : Df K mg "octets_of" s_octets_of ["letters"]
  text : Df K mg "text" s_text ["letters"]
  integer : Df K mg "integer" s_integer ["number"]
  boolean : Df K mg "boolean" s_boolean ["truth"]
  row : Df K mg "row" s_row ["values"]
  record : Df K mg "record" s_record ["pairs"]
  number_octets : Df K mg "number_octets" s_number_octets ["number", "many"]
  value_octets : Df K mg "value_octets" s_value_octets ["value"]
  refusal_octets : Df K mg "refusal_octets" s_refusal_octets ["kind", "message"]
  number_in : Df K mg "number_in" s_number_in ["value", "low", "high"]
  setting_of : Df K mg "setting_of" s_setting_of ["given"]
  is_answer : Df K mg "is_answer" s_is_answer ["value", "versions"]
  answers_of : Df K mg "answers_of" s_answers_of ["value", "versions"]
  is_plan : Df K mg "is_plan" s_is_plan ["value", "versions", "depth"]
  plan_of : Df K mg "plan_of" s_plan_of ["value"]
  plan_value : Df K mg "plan_value" s_plan_value ["plan"]
  number_value : Df K mg "number_value" s_number_value ["number"]
  rejected : Df K mg "rejected" s_rejected ["planner", "refused"]
  reply_to : Df K mg "reply_to" s_reply_to ["desk", "octets"]

structure SrD (K : PySem.W.Frag) (mg : Str → Option Value) (C : Addr) : Prop where
  c : SrC K C
  new : Di K mg "Search" C "Search.__init__" s_Search_new ["self", "planner", "setting", "outcome"]
  test : Dm K C "test" "Search.test" s_Search_test ["self"]
  take : Dm K C "take" "Search.take" s_Search_take ["self", "reply"]
  fail : Dm K C "fail" "Search.fail" s_Search_fail ["self", "reason"]

structure DkD (K : PySem.W.Frag) (mg : Str → Option Value) (C : Addr) : Prop where
  c : DkC K C
  new : Di K mg "Desk" C "Desk.__init__" s_Desk_new ["self"]
  begun : Dm K C "begun" "Desk.begun" s_Desk_begun ["self", "door", "own"]
  search_door : Dm K C "search_door" "Desk.search_door" s_Desk_search_door ["self", "door", "own"]
  planning_door : Dm K C "planning_door" "Desk.planning_door" s_Desk_planning_door ["self", "door", "setting", "own"]
  answers_door : Dm K C "answers_door" "Desk.answers_door" s_Desk_answers_door ["self", "door", "setting", "own"]
  answer : Dm K C "answer" "Desk.answer" s_Desk_answer ["self", "door", "own"]

section
variable {K : PySem.W.Frag} {mg : Str → Option Value} {h : Heap}
def isI : Value → Option Int
  | .int i _ => some i
  | _ => none
def isS : Value → Option Str
  | .str x _ => some x
  | _ => none
theorem vals_int : ∀ {us : List Value} {ns : List Int}, us.map isI = ns.map some → Vals (ns.map V.int) us
  | [], [], _ => .nil
  | [], _ :: _, e => by cases e
  | _ :: _, [], e => by cases e
  | u :: us, n :: ns, e => by
    rw [List.map_cons, List.map_cons] at e
    injection e with e1 e2
    refine .cons ?_ (vals_int e2)
    cases u with
    | int i t =>
      obtain rfl : i = n := Option.some.inj e1
      exact ⟨t, rfl⟩
    | _ => cases e1
theorem vals_str {us : List Value} {x : Str} (e : us.map isS = [some x]) : Vals [V.str x] us := by
  cases us with
  | nil => cases e
  | cons u r =>
    rw [List.map_cons] at e
    injection e with e1 e2
    cases r with
    | cons _ _ => cases e2
    | nil =>
      refine .cons ?_ .nil
      cases u with
      | str y t =>
        obtain rfl : y = x := Option.some.inj e1
        exact ⟨t, rfl⟩
      | _ => cases e1
theorem len_of {α β γ : Type} {f : α → γ} {g : β → γ} {us : List α} {ns : List β} (e : us.map f = ns.map g) : us.length = ns.length := by
  have := congrArg List.length e
  rwa [List.length_map, List.length_map] at this
theorem ct_mk {aN aU aA : Addr} {t1 t2 t3 t4 : Tok} {dN dU dA : Option Addr} {iN iU iA : Array Value} {nN nU nA : Nat} {sN sU sA : Array (Option Value)} (X : K.In h) (G : h.Ns mainGlobals mg)
    (a1 : PySem.W.nsIn K mainGlobals "NOTHING" = some (some (.ref aN))) (a2 : PySem.W.nsIn K mainGlobals "NULL" = some (some (.ref aU))) (a3 : PySem.W.nsIn K mainGlobals "ARGUMENTS" = some (some (.ref aA)))
    (a4 : PySem.W.nsIn K mainGlobals "WRONG_KIND_things" = some (some (.int 1 t1))) (a5 : PySem.W.nsIn K mainGlobals "OUT_OF_RANGE" = some (some (.int 2 t2))) (a6 : PySem.W.nsIn K mainGlobals "DEEPEST" = some (some (.int 6 t3))) (a7 : PySem.W.nsIn K mainGlobals "WRONG_KIND_desk" = some (some (.int 1 t4)))
    (l1 : K.lookup aN = some ⟨.type "tuple", dN, .seq iN nN, sN⟩) (l2 : K.lookup aU = some ⟨.type "tuple", dU, .seq iU nU, sU⟩) (l3 : K.lookup aA = some ⟨.type "tuple", dA, .seq iA nA, sA⟩)
    (v1 : iN.toList.map isS = [some ("nothing" : Str)]) (v2 : iU.toList.map isS = [some ("null" : Str)]) (v3 : iA.toList.map isI = ([3, 4, 4, 4, 5, 5, 3, 3, 4, 4, 5, 5, 1, 2, 2, 1] : List Int).map some) : Ct K mg aN aU aA := by
  have z1 : iN.size ≤ sizeLine := by
    have := congrArg List.length v1
    rw [List.length_map, Array.length_toList] at this
    rw [this]
    exact lenL (by decide)
  have z2 : iU.size ≤ sizeLine := by
    have := congrArg List.length v2
    rw [List.length_map, Array.length_toList] at this
    rw [this]
    exact lenL (by decide)
  have z3 : iA.size ≤ sizeLine := by
    have := len_of v3
    rw [Array.length_toList] at this
    rw [this]
    exact lenL (by decide)
  exact ⟨⟨_, PySem.W.mg_of X G a1, rfl⟩, ⟨_, PySem.W.mg_of X G a2, rfl⟩, ⟨_, PySem.W.mg_of X G a3, rfl⟩, ⟨_, PySem.W.mg_of X G a4, ⟨_, rfl⟩⟩, ⟨_, PySem.W.mg_of X G a5, ⟨_, rfl⟩⟩, ⟨_, PySem.W.mg_of X G a6, ⟨_, rfl⟩⟩, ⟨_, PySem.W.mg_of X G a7, ⟨_, rfl⟩⟩,
    fun H => .inr ⟨_, iN, nN, l1, rfl, rfl, z1, vals_str v1⟩, fun H => .inr ⟨_, iU, nU, l2, rfl, rfl, z2, vals_str v2⟩, fun H => .inr ⟨_, iA, nA, l3, rfl, rfl, z3, vals_int v3⟩⟩
theorem rf_mk {C f : Addr} {oc kV dc pm cd ct : Value} {od an : Option Addr} {sl : Array (Option Value)} {nm q} {N bs sn sub ab col dd k0 k1 k2 k3 k5} (X : K.In h) (G : h.Ns mainGlobals mg) (aC : PySem.W.nsIn K mainGlobals "Refused" = some (some (.ref C)))
    (xl : K.lookup C = some (excClassObj nm q C N bs PySem.ESX.exTail true sn sub ab col dd k0 k1 k2 k3 k5 "Exception.__new__")) (sa : PySem.W.findIn K (.ref C) "__setattr__" = some (some (.builtin "object.__setattr__")))
    (ga : PySem.W.findIn K (.ref C) "__getattribute__" = some (some (.builtin "BaseException.__getattribute__"))) (gg : PySem.W.findIn K (.ref C) "__getattr__" = some none) (eC : PySem.W.subIn K (.ref C) (.type "BaseException") = some true) (hC : PySem.W.hasDictIn K C = true) (tC : PySem.W.typeIn K (.ref C) = some (.type "type")) (kC : PySem.W.keepIn K (.ref C) = true)
    (nK : PySem.W.findIn K (.ref C) "kind" = some none) (nM : PySem.W.findIn K (.ref C) "message" = some none) (a0 : PySem.W.findIn K (.ref C) "__init__" = some (some (.ref f))) (t0 : PySem.W.typeIn K (.ref f) = some (.type "function"))
    (l0 : K.lookup f = some ⟨oc, od, .func (PySem.W.fnOf "__init__" "Refused.__init__" (defArgs s_Refused_new) (defBody s_Refused_new) (defScope s_Refused_new) .none kV dc pm an cd ct), sl⟩) (c0 : PySem.W.codeIn K cd "Refused.__init__" = true) (k0' : PySem.W.keepIn K (.ref f) = true) : RfB K mg C :=
  have F := fun_mk l0 c0 k0'
  ⟨⟨⟨_, _, _, _, _, _, _, _, _, _, _, _, _, _, xl⟩, sa, ⟨ga, gg, eC, hC⟩, tC, kC⟩, nK, nM, ⟨f, _, F, a0, t0, F.binds bi_Refused_new⟩, PySem.W.mg_of X G aC⟩
/-- an error of the class at S is what its name names -/
theorem exm_own {S : Addr} (h1 : PySem.W.subIn K (.ref S) (.type "BaseException") = some true) (h2 : PySem.W.isClsIn K S = true) (h3 : PySem.W.typeIn K (.ref S) = some (.type "type")) (h4 : PySem.W.subIn K (.ref S) (.ref S) = some true) :
    PySem.W.exmOne K (.ref S) (.ref S) = some true := by
  have e1 : (PySem.W.subIn K (.ref S) (.type "BaseException") == some true) = true := by rw [h1] <;> rfl
  have e2 : ((PySem.W.clsIn K S).isSome && PySem.W.typeIn K (.ref S) == some (.type "type")) = true := by
    have h2' : (PySem.W.clsIn K S).isSome = true := h2
    rw [h2', h3] <;> rfl
  show (if (PySem.W.subIn K (.ref S) (.type "BaseException") == some true) = true then (if ((PySem.W.clsIn K S).isSome && PySem.W.typeIn K (.ref S) == some (.type "type")) = true then PySem.W.subIn K (.ref S) (.ref S) else none) else none) = some true
  rw [if_pos e1, if_pos e2]
  exact h4
theorem mg_no {n : Str} (X : K.In h) (G : h.Ns mainGlobals mg) (e : PySem.W.nsIn K mainGlobals n = some none) : mg n = none := PySem.W.mg_none_of X G e
end
theorem pl_mk {K : PySem.W.Frag} {mg : Str → Option Value} {h : Heap} {C : Addr} {f0 : Addr} {oc0 kV0 dc0 pm0 cd0 ct0 : Value} {od0 an0 : Option Addr} {sl0 : Array (Option Value)} {f1 : Addr} {oc1 kV1 dc1 pm1 cd1 ct1 : Value} {od1 an1 : Option Addr} {sl1 : Array (Option Value)} {f2 : Addr} {oc2 kV2 dc2 pm2 cd2 ct2 : Value} {od2 an2 : Option Addr} {sl2 : Array (Option Value)} {f3 : Addr} {oc3 kV3 dc3 pm3 cd3 ct3 : Value} {od3 an3 : Option Addr} {sl3 : Array (Option Value)} {f4 : Addr} {oc4 kV4 dc4 pm4 cd4 ct4 : Value} {od4 an4 : Option Addr} {sl4 : Array (Option Value)} (X : K.In h) (G : h.Ns mainGlobals mg) (aC : PySem.W.nsIn K mainGlobals "Planner" = some (some (.ref C))) (pg : PySem.W.plainGet K C Str.empty = true) (hd : PySem.W.hasDictIn K C = true) (po : PySem.W.plainOver K C = true) (sa : PySem.W.findIn K (.ref C) "__setattr__" = some (some (.builtin "object.__setattr__"))) (n0 : PySem.W.findIn K (.ref C) "known" = some none) (mk : PySem.W.makesIn K C = true) (kc : PySem.W.keepIn K (.ref C) = true)
    (a0 : PySem.W.findIn K (.ref C) "__init__" = some (some (.ref f0))) (i0 : PySem.W.isFn K (.ref f0) = true) (l0 : K.lookup f0 = some ⟨oc0, od0, .func (PySem.W.fnOf "__init__" "Planner.__init__" (defArgs s_Planner_new) (defBody s_Planner_new) (defScope s_Planner_new) .none kV0 dc0 pm0 an0 cd0 ct0), sl0⟩) (c0 : PySem.W.codeIn K cd0 "Planner.__init__" = true) (k0 : PySem.W.keepIn K (.ref f0) = true)
    (a1 : PySem.W.findIn K (.ref C) "fewest" = some (some (.ref f1))) (i1 : PySem.W.isFn K (.ref f1) = true) (l1 : K.lookup f1 = some ⟨oc1, od1, .func (PySem.W.fnOf "fewest" "Planner.fewest" (defArgs s_Planner_fewest) (defBody s_Planner_fewest) (defScope s_Planner_fewest) .none kV1 dc1 pm1 an1 cd1 ct1), sl1⟩) (c1 : PySem.W.codeIn K cd1 "Planner.fewest" = true) (k1 : PySem.W.keepIn K (.ref f1) = true)
    (a2 : PySem.W.findIn K (.ref C) "worse" = some (some (.ref f2))) (i2 : PySem.W.isFn K (.ref f2) = true) (l2 : K.lookup f2 = some ⟨oc2, od2, .func (PySem.W.fnOf "worse" "Planner.worse" (defArgs s_Planner_worse) (defBody s_Planner_worse) (defScope s_Planner_worse) .none kV2 dc2 pm2 an2 cd2 ct2), sl2⟩) (c2 : PySem.W.codeIn K cd2 "Planner.worse" = true) (k2 : PySem.W.keepIn K (.ref f2) = true)
    (a3 : PySem.W.findIn K (.ref C) "best_test" = some (some (.ref f3))) (i3 : PySem.W.isFn K (.ref f3) = true) (l3 : K.lookup f3 = some ⟨oc3, od3, .func (PySem.W.fnOf "best_test" "Planner.best_test" (defArgs s_Planner_best_test) (defBody s_Planner_best_test) (defScope s_Planner_best_test) .none kV3 dc3 pm3 an3 cd3 ct3), sl3⟩) (c3 : PySem.W.codeIn K cd3 "Planner.best_test" = true) (k3 : PySem.W.keepIn K (.ref f3) = true)
    (a4 : PySem.W.findIn K (.ref C) "best_plan" = some (some (.ref f4))) (i4 : PySem.W.isFn K (.ref f4) = true) (l4 : K.lookup f4 = some ⟨oc4, od4, .func (PySem.W.fnOf "best_plan" "Planner.best_plan" (defArgs s_Planner_best_plan) (defBody s_Planner_best_plan) (defScope s_Planner_best_plan) .none kV4 dc4 pm4 an4 cd4 ct4), sl4⟩) (c4 : PySem.W.codeIn K cd4 "Planner.best_plan" = true) (k4 : PySem.W.keepIn K (.ref f4) = true) : PlD K mg C :=
  have c0' : Cls K C := ⟨pg, hd, po, sa⟩
  ⟨⟨c0', n0⟩, di_mk X G bi_Planner_new aC mk kc a0 i0 l0 c0 k0, dm_mk bi_Planner_fewest c0' a1 i1 l1 c1 k1, dm_mk bi_Planner_worse c0' a2 i2 l2 c2 k2, dm_mk bi_Planner_best_test c0' a3 i3 l3 c3 k3, dm_mk bi_Planner_best_plan c0' a4 i4 l4 c4 k4⟩

theorem rq_mk {K : PySem.W.Frag} {mg : Str → Option Value} {h : Heap} {C : Addr} {f0 : Addr} {oc0 kV0 dc0 pm0 cd0 ct0 : Value} {od0 an0 : Option Addr} {sl0 : Array (Option Value)} {f1 : Addr} {oc1 kV1 dc1 pm1 cd1 ct1 : Value} {od1 an1 : Option Addr} {sl1 : Array (Option Value)} {f2 : Addr} {oc2 kV2 dc2 pm2 cd2 ct2 : Value} {od2 an2 : Option Addr} {sl2 : Array (Option Value)} {f3 : Addr} {oc3 kV3 dc3 pm3 cd3 ct3 : Value} {od3 an3 : Option Addr} {sl3 : Array (Option Value)} {f4 : Addr} {oc4 kV4 dc4 pm4 cd4 ct4 : Value} {od4 an4 : Option Addr} {sl4 : Array (Option Value)} (X : K.In h) (G : h.Ns mainGlobals mg) (aC : PySem.W.nsIn K mainGlobals "Request" = some (some (.ref C))) (pg : PySem.W.plainGet K C Str.empty = true) (hd : PySem.W.hasDictIn K C = true) (po : PySem.W.plainOver K C = true) (sa : PySem.W.findIn K (.ref C) "__setattr__" = some (some (.builtin "object.__setattr__"))) (n0 : PySem.W.findIn K (.ref C) "octets" = some none) (n1 : PySem.W.findIn K (.ref C) "at" = some none) (mk : PySem.W.makesIn K C = true) (kc : PySem.W.keepIn K (.ref C) = true)
    (a0 : PySem.W.findIn K (.ref C) "__init__" = some (some (.ref f0))) (i0 : PySem.W.isFn K (.ref f0) = true) (l0 : K.lookup f0 = some ⟨oc0, od0, .func (PySem.W.fnOf "__init__" "Request.__init__" (defArgs s_Request_new) (defBody s_Request_new) (defScope s_Request_new) .none kV0 dc0 pm0 an0 cd0 ct0), sl0⟩) (c0 : PySem.W.codeIn K cd0 "Request.__init__" = true) (k0 : PySem.W.keepIn K (.ref f0) = true)
    (a1 : PySem.W.findIn K (.ref C) "take" = some (some (.ref f1))) (i1 : PySem.W.isFn K (.ref f1) = true) (l1 : K.lookup f1 = some ⟨oc1, od1, .func (PySem.W.fnOf "take" "Request.take" (defArgs s_Request_take) (defBody s_Request_take) (defScope s_Request_take) .none kV1 dc1 pm1 an1 cd1 ct1), sl1⟩) (c1 : PySem.W.codeIn K cd1 "Request.take" = true) (k1 : PySem.W.keepIn K (.ref f1) = true)
    (a2 : PySem.W.findIn K (.ref C) "give_number" = some (some (.ref f2))) (i2 : PySem.W.isFn K (.ref f2) = true) (l2 : K.lookup f2 = some ⟨oc2, od2, .func (PySem.W.fnOf "give_number" "Request.give_number" (defArgs s_Request_give_number) (defBody s_Request_give_number) (defScope s_Request_give_number) .none kV2 dc2 pm2 an2 cd2 ct2), sl2⟩) (c2 : PySem.W.codeIn K cd2 "Request.give_number" = true) (k2 : PySem.W.keepIn K (.ref f2) = true)
    (a3 : PySem.W.findIn K (.ref C) "value" = some (some (.ref f3))) (i3 : PySem.W.isFn K (.ref f3) = true) (l3 : K.lookup f3 = some ⟨oc3, od3, .func (PySem.W.fnOf "value" "Request.value" (defArgs s_Request_value) (defBody s_Request_value) (defScope s_Request_value) .none kV3 dc3 pm3 an3 cd3 ct3), sl3⟩) (c3 : PySem.W.codeIn K cd3 "Request.value" = true) (k3 : PySem.W.keepIn K (.ref f3) = true)
    (a4 : PySem.W.findIn K (.ref C) "arguments" = some (some (.ref f4))) (i4 : PySem.W.isFn K (.ref f4) = true) (l4 : K.lookup f4 = some ⟨oc4, od4, .func (PySem.W.fnOf "arguments" "Request.arguments" (defArgs s_Request_arguments) (defBody s_Request_arguments) (defScope s_Request_arguments) .none kV4 dc4 pm4 an4 cd4 ct4), sl4⟩) (c4 : PySem.W.codeIn K cd4 "Request.arguments" = true) (k4 : PySem.W.keepIn K (.ref f4) = true) : RqD K mg C :=
  have c0' : Cls K C := ⟨pg, hd, po, sa⟩
  ⟨⟨c0', n0, n1⟩, di_mk X G bi_Request_new aC mk kc a0 i0 l0 c0 k0, dm_mk bi_Request_take c0' a1 i1 l1 c1 k1, dm_mk bi_Request_give_number c0' a2 i2 l2 c2 k2, dm_mk bi_Request_value c0' a3 i3 l3 c3 k3, dm_mk bi_Request_arguments c0' a4 i4 l4 c4 k4⟩

theorem sr_mk {K : PySem.W.Frag} {mg : Str → Option Value} {h : Heap} {C : Addr} {f0 : Addr} {oc0 kV0 dc0 pm0 cd0 ct0 : Value} {od0 an0 : Option Addr} {sl0 : Array (Option Value)} {f1 : Addr} {oc1 kV1 dc1 pm1 cd1 ct1 : Value} {od1 an1 : Option Addr} {sl1 : Array (Option Value)} {f2 : Addr} {oc2 kV2 dc2 pm2 cd2 ct2 : Value} {od2 an2 : Option Addr} {sl2 : Array (Option Value)} {f3 : Addr} {oc3 kV3 dc3 pm3 cd3 ct3 : Value} {od3 an3 : Option Addr} {sl3 : Array (Option Value)} (X : K.In h) (G : h.Ns mainGlobals mg) (aC : PySem.W.nsIn K mainGlobals "Search" = some (some (.ref C))) (pg : PySem.W.plainGet K C Str.empty = true) (hd : PySem.W.hasDictIn K C = true) (po : PySem.W.plainOver K C = true) (sa : PySem.W.findIn K (.ref C) "__setattr__" = some (some (.builtin "object.__setattr__"))) (n0 : PySem.W.findIn K (.ref C) "planner" = some none) (n1 : PySem.W.findIn K (.ref C) "left" = some none) (n2 : PySem.W.findIn K (.ref C) "answers_there" = some none) (n3 : PySem.W.findIn K (.ref C) "outcome" = some none) (mk : PySem.W.makesIn K C = true) (kc : PySem.W.keepIn K (.ref C) = true)
    (a0 : PySem.W.findIn K (.ref C) "__init__" = some (some (.ref f0))) (i0 : PySem.W.isFn K (.ref f0) = true) (l0 : K.lookup f0 = some ⟨oc0, od0, .func (PySem.W.fnOf "__init__" "Search.__init__" (defArgs s_Search_new) (defBody s_Search_new) (defScope s_Search_new) .none kV0 dc0 pm0 an0 cd0 ct0), sl0⟩) (c0 : PySem.W.codeIn K cd0 "Search.__init__" = true) (k0 : PySem.W.keepIn K (.ref f0) = true)
    (a1 : PySem.W.findIn K (.ref C) "test" = some (some (.ref f1))) (i1 : PySem.W.isFn K (.ref f1) = true) (l1 : K.lookup f1 = some ⟨oc1, od1, .func (PySem.W.fnOf "test" "Search.test" (defArgs s_Search_test) (defBody s_Search_test) (defScope s_Search_test) .none kV1 dc1 pm1 an1 cd1 ct1), sl1⟩) (c1 : PySem.W.codeIn K cd1 "Search.test" = true) (k1 : PySem.W.keepIn K (.ref f1) = true)
    (a2 : PySem.W.findIn K (.ref C) "take" = some (some (.ref f2))) (i2 : PySem.W.isFn K (.ref f2) = true) (l2 : K.lookup f2 = some ⟨oc2, od2, .func (PySem.W.fnOf "take" "Search.take" (defArgs s_Search_take) (defBody s_Search_take) (defScope s_Search_take) .none kV2 dc2 pm2 an2 cd2 ct2), sl2⟩) (c2 : PySem.W.codeIn K cd2 "Search.take" = true) (k2 : PySem.W.keepIn K (.ref f2) = true)
    (a3 : PySem.W.findIn K (.ref C) "fail" = some (some (.ref f3))) (i3 : PySem.W.isFn K (.ref f3) = true) (l3 : K.lookup f3 = some ⟨oc3, od3, .func (PySem.W.fnOf "fail" "Search.fail" (defArgs s_Search_fail) (defBody s_Search_fail) (defScope s_Search_fail) .none kV3 dc3 pm3 an3 cd3 ct3), sl3⟩) (c3 : PySem.W.codeIn K cd3 "Search.fail" = true) (k3 : PySem.W.keepIn K (.ref f3) = true) : SrD K mg C :=
  have c0' : Cls K C := ⟨pg, hd, po, sa⟩
  ⟨⟨c0', n0, n1, n2, n3⟩, di_mk X G bi_Search_new aC mk kc a0 i0 l0 c0 k0, dm_mk bi_Search_test c0' a1 i1 l1 c1 k1, dm_mk bi_Search_take c0' a2 i2 l2 c2 k2, dm_mk bi_Search_fail c0' a3 i3 l3 c3 k3⟩

theorem dk_mk {K : PySem.W.Frag} {mg : Str → Option Value} {h : Heap} {C : Addr} {f0 : Addr} {oc0 kV0 dc0 pm0 cd0 ct0 : Value} {od0 an0 : Option Addr} {sl0 : Array (Option Value)} {f1 : Addr} {oc1 kV1 dc1 pm1 cd1 ct1 : Value} {od1 an1 : Option Addr} {sl1 : Array (Option Value)} {f2 : Addr} {oc2 kV2 dc2 pm2 cd2 ct2 : Value} {od2 an2 : Option Addr} {sl2 : Array (Option Value)} {f3 : Addr} {oc3 kV3 dc3 pm3 cd3 ct3 : Value} {od3 an3 : Option Addr} {sl3 : Array (Option Value)} {f4 : Addr} {oc4 kV4 dc4 pm4 cd4 ct4 : Value} {od4 an4 : Option Addr} {sl4 : Array (Option Value)} {f5 : Addr} {oc5 kV5 dc5 pm5 cd5 ct5 : Value} {od5 an5 : Option Addr} {sl5 : Array (Option Value)} (X : K.In h) (G : h.Ns mainGlobals mg) (aC : PySem.W.nsIn K mainGlobals "Desk" = some (some (.ref C))) (pg : PySem.W.plainGet K C Str.empty = true) (hd : PySem.W.hasDictIn K C = true) (po : PySem.W.plainOver K C = true) (sa : PySem.W.findIn K (.ref C) "__setattr__" = some (some (.builtin "object.__setattr__"))) (n0 : PySem.W.findIn K (.ref C) "planner" = some none) (n1 : PySem.W.findIn K (.ref C) "searches" = some none) (mk : PySem.W.makesIn K C = true) (kc : PySem.W.keepIn K (.ref C) = true)
    (a0 : PySem.W.findIn K (.ref C) "__init__" = some (some (.ref f0))) (i0 : PySem.W.isFn K (.ref f0) = true) (l0 : K.lookup f0 = some ⟨oc0, od0, .func (PySem.W.fnOf "__init__" "Desk.__init__" (defArgs s_Desk_new) (defBody s_Desk_new) (defScope s_Desk_new) .none kV0 dc0 pm0 an0 cd0 ct0), sl0⟩) (c0 : PySem.W.codeIn K cd0 "Desk.__init__" = true) (k0 : PySem.W.keepIn K (.ref f0) = true)
    (a1 : PySem.W.findIn K (.ref C) "begun" = some (some (.ref f1))) (i1 : PySem.W.isFn K (.ref f1) = true) (l1 : K.lookup f1 = some ⟨oc1, od1, .func (PySem.W.fnOf "begun" "Desk.begun" (defArgs s_Desk_begun) (defBody s_Desk_begun) (defScope s_Desk_begun) .none kV1 dc1 pm1 an1 cd1 ct1), sl1⟩) (c1 : PySem.W.codeIn K cd1 "Desk.begun" = true) (k1 : PySem.W.keepIn K (.ref f1) = true)
    (a2 : PySem.W.findIn K (.ref C) "search_door" = some (some (.ref f2))) (i2 : PySem.W.isFn K (.ref f2) = true) (l2 : K.lookup f2 = some ⟨oc2, od2, .func (PySem.W.fnOf "search_door" "Desk.search_door" (defArgs s_Desk_search_door) (defBody s_Desk_search_door) (defScope s_Desk_search_door) .none kV2 dc2 pm2 an2 cd2 ct2), sl2⟩) (c2 : PySem.W.codeIn K cd2 "Desk.search_door" = true) (k2 : PySem.W.keepIn K (.ref f2) = true)
    (a3 : PySem.W.findIn K (.ref C) "planning_door" = some (some (.ref f3))) (i3 : PySem.W.isFn K (.ref f3) = true) (l3 : K.lookup f3 = some ⟨oc3, od3, .func (PySem.W.fnOf "planning_door" "Desk.planning_door" (defArgs s_Desk_planning_door) (defBody s_Desk_planning_door) (defScope s_Desk_planning_door) .none kV3 dc3 pm3 an3 cd3 ct3), sl3⟩) (c3 : PySem.W.codeIn K cd3 "Desk.planning_door" = true) (k3 : PySem.W.keepIn K (.ref f3) = true)
    (a4 : PySem.W.findIn K (.ref C) "answers_door" = some (some (.ref f4))) (i4 : PySem.W.isFn K (.ref f4) = true) (l4 : K.lookup f4 = some ⟨oc4, od4, .func (PySem.W.fnOf "answers_door" "Desk.answers_door" (defArgs s_Desk_answers_door) (defBody s_Desk_answers_door) (defScope s_Desk_answers_door) .none kV4 dc4 pm4 an4 cd4 ct4), sl4⟩) (c4 : PySem.W.codeIn K cd4 "Desk.answers_door" = true) (k4 : PySem.W.keepIn K (.ref f4) = true)
    (a5 : PySem.W.findIn K (.ref C) "answer" = some (some (.ref f5))) (i5 : PySem.W.isFn K (.ref f5) = true) (l5 : K.lookup f5 = some ⟨oc5, od5, .func (PySem.W.fnOf "answer" "Desk.answer" (defArgs s_Desk_answer) (defBody s_Desk_answer) (defScope s_Desk_answer) .none kV5 dc5 pm5 an5 cd5 ct5), sl5⟩) (c5 : PySem.W.codeIn K cd5 "Desk.answer" = true) (k5 : PySem.W.keepIn K (.ref f5) = true) : DkD K mg C :=
  have c0' : Cls K C := ⟨pg, hd, po, sa⟩
  ⟨⟨c0', n0, n1⟩, di_mk X G bi_Desk_new aC mk kc a0 i0 l0 c0 k0, dm_mk bi_Desk_begun c0' a1 i1 l1 c1 k1, dm_mk bi_Desk_search_door c0' a2 i2 l2 c2 k2, dm_mk bi_Desk_planning_door c0' a3 i3 l3 c3 k3, dm_mk bi_Desk_answers_door c0' a4 i4 l4 c4 k4, dm_mk bi_Desk_answer c0' a5 i5 l5 c5 k5⟩

section
variable {P : Program} {w : World} {K : PySem.W.Frag} {mg : Str → Option Value} {base : Heap} {CP CQ CS CD CR aN aU aA : Addr}
/-- all the promises, from what stands in the text -/
theorem promises (B : Bt mg) (T : Ct K mg aN aU aA) (R : RfB K mg CR) (eR : PySem.W.exmOne K (.ref CR) (.ref CR) = some true) (pl : PlD K mg CP) (rq : RqD K mg CQ) (sr : SrD K mg CS) (dk : DkD K mg CD) (fn : FnD K mg) :
    Mak P w K mg base 3 "Desk" CD (spDkNew P w K CP CS CD) ∧ Cal P w K mg base 116 "reply_to" (spReply P w K CP CS CD) := by
  have rx : RfX P w K mg base CR := R.x
  have c_first_left : Cal P w K mg base 1 "first_left" spFirst := fn.first_left.cal sc_first_left (fun _ _ _ _ h => by obtain ⟨_, _, _, rfl, _⟩ := h; rfl) (b_first_left B)
  have c_first_leftH : CalH P w K mg base 1 "first_left" (fun _ _ _ _ => False) := fn.first_left.calH (k := 0) sc_first_left (fun _ _ _ _ h => h.elim) (fun _ _ _ _ _ _ _ _ _ _ _ _ h => h.elim)
  have c_left_by : Cal P w K mg base 1 "left_by" spLeftBy := fn.left_by.cal sc_left_by (fun _ _ _ _ h => by obtain ⟨_, _, _, _, rfl, _⟩ := h; rfl) (b_left_by B)
  have c_left_behind : Cal P w K mg base 2 "left_behind" spLeftBehind := fn.left_behind.cal sc_left_behind (fun _ _ _ _ h => by obtain ⟨_, _, _, _, rfl, _⟩ := h; rfl) (b_left_behind B c_left_by)
  have c_are_wrong : Cal P w K mg base 1 "are_wrong" spAreWrong := fn.are_wrong.cal sc_are_wrong (fun _ _ _ _ h => by obtain ⟨_, _, _, rfl, _⟩ := h; rfl) (b_are_wrong B)
  have c_weight_of : Cal P w K mg base 61 "weight_of" (spWeight 60) := ok_weight_of B fn.weight_of 60
  have c_least_by_weight : Cal P w K mg base 62 "least_by_weight" spLeast := fn.least_by_weight.cal sc_least_by_weight (fun _ _ _ _ h => by obtain ⟨_, _, _, rfl, _⟩ := h; rfl) (b_least_by_weight B c_weight_of)
  have c_counterexample : Cal P w K mg base 9 "counterexample" (spCounter 7) := ok_counterexample B c_left_by fn.counterexample 7
  have c_octets_of : Cal P w K mg base 1 "octets_of" (spOctets (K := K)) := fn.octets_of.cal sc_octets_of (fun _ _ _ _ h => by obtain ⟨_, rfl, _⟩ := h; rfl) (b_octets_of B)
  have c_octets_ofH : CalH P w K mg base 1 "octets_of" (spOctets (K := K)) := fn.octets_of.calH sc_octets_of (fun _ _ _ _ h => by obtain ⟨_, rfl, _⟩ := h; rfl) (b_octets_ofH B)
  have c_text : Cal P w K mg base 2 "text" (spText K) := fn.text.cal sc_text (fun _ _ _ _ h => by obtain ⟨_, _, rfl, _⟩ := h; rfl) (b_text B c_octets_of)
  have c_textH : CalH P w K mg base 2 "text" (spText K) := fn.text.calH sc_text (fun _ _ _ _ h => by obtain ⟨_, _, rfl, _⟩ := h; rfl) (b_textH B c_octets_ofH)
  have c_integer : Cal P w K mg base 1 "integer" (spInteger K) := fn.integer.cal sc_integer (fun _ _ _ _ h => by obtain ⟨_, rfl, _⟩ := h; rfl) b_integer
  have c_boolean : Cal P w K mg base 1 "boolean" (spBoolean K) := fn.boolean.cal sc_boolean (fun _ _ _ _ h => by obtain ⟨_, rfl, _⟩ := h; rfl) b_boolean
  have c_row : Cal P w K mg base 1 "row" (spRow K) := fn.row.cal sc_row (fun _ _ _ _ h => by obtain ⟨_, _, _, rfl, _⟩ := h; rfl) (b_row B)
  have c_rowH : CalH P w K mg base 1 "row" (spRow K) := fn.row.calH sc_row (fun _ _ _ _ h => by obtain ⟨_, _, _, rfl, _⟩ := h; rfl) (b_rowH B)
  have c_record : Cal P w K mg base 2 "record" (spRecord K) := fn.record.cal sc_record (fun _ _ _ _ h => by obtain ⟨_, _, _, rfl, _⟩ := h; rfl) (b_record B c_octets_of)
  have c_number_octets : Cal P w K mg base 1 "number_octets" spNumOct := fn.number_octets.cal sc_number_octets (fun _ _ _ _ h => by obtain ⟨_, _, rfl, _⟩ := h; rfl) (b_number_octets B)
  have c_number_octetsH : CalH P w K mg base 1 "number_octets" spNumOct := fn.number_octets.calH sc_number_octets (fun _ _ _ _ h => by obtain ⟨_, _, rfl, _⟩ := h; rfl) (b_number_octetsH B)
  have c_refusal_octetsH : CalH P w K mg base 2 "refusal_octets" spRefusal := fn.refusal_octets.calH sc_refusal_octets (fun _ _ _ _ h => by obtain ⟨_, _, _, rfl, _⟩ := h; rfl) (b_refusal_octetsH B c_octets_ofH c_number_octetsH)
  have c_number_in : Cal P w K mg base 1 "number_in" (spNumberIn K) := fn.number_in.cal sc_number_in (fun _ _ _ _ h => by obtain ⟨_, _, _, _, rfl, _⟩ := h; rfl) b_number_in
  have c_value_octets : Cal P w K mg base 35 "value_octets" (spVO K 33) := ok_value_octets B c_number_octets fn.value_octets 33
  have c_need_kind : CalX P w K mg base 3 "need_kind" (spNeed CR 1) := fn.need_kind.calX sc_need_kind (fun _ _ _ _ h => by obtain ⟨_, _, rfl, _⟩ := h; rfl) (b_need_kind T rx)
  have c_need_range : CalX P w K mg base 3 "need_range" (spNeed CR 2) := fn.need_range.calX sc_need_range (fun _ _ _ _ h => by obtain ⟨_, _, rfl, _⟩ := h; rfl) (b_need_range T rx)
  have c_setting_of : CalX P w K mg base 4 "setting_of" (spSetting K CR) := fn.setting_of.calX sc_setting_of (fun _ _ _ _ h => by obtain ⟨_, _, _, _, _, _, _, _, rfl, _⟩ := h; rfl) (b_setting_of T c_number_in c_need_range)
  have c_is_answer : Cal P w K mg base 2 "is_answer" (spIsAns K) := fn.is_answer.cal sc_is_answer (fun _ _ _ _ h => by obtain ⟨_, _, _, rfl, _⟩ := h; rfl) (b_is_answer B c_number_in)
  have c_answers_of : CalX P w K mg base 4 "answers_of" (spAnsOf K CR) := fn.answers_of.calX sc_answers_of (fun _ _ _ _ h => by obtain ⟨_, _, _, rfl, _⟩ := h; rfl) (b_answers_of B T c_is_answer c_need_kind)
  have c_is_plan : Cal P w K mg base 9 "is_plan" (spIsPlan K 7) := ok_is_plan B c_number_in fn.is_plan 7
  have c_plan_of : Cal P w K mg base 8 "plan_of" (spPlanOf K 7) := ok_plan_of fn.plan_of 7
  have c_plan_value : Cal P w K mg base 9 "plan_value" (spPlanValue K 7) := ok_plan_value B c_integer c_row fn.plan_value 7
  have c_number_value : Cal P w K mg base 2 "number_value" (spNumberValue K) := fn.number_value.cal sc_number_value (fun _ _ _ _ h => by obtain ⟨_, rfl, _⟩ := h; rfl) (b_number_value T c_integer)
  have c_few : Met P w K mg base 104 CP "fewest" (spFew P w CP 51) := ok_fewest B pl c_left_by 51
  have c_bt : Met P w K mg base 105 CP "best_test" (spBest P w CP) := ok_best_test B pl c_left_by
  have c_bp : Met P w K mg base 113 CP "best_plan" (spPlan P w CP 7) := ok_best_plan B pl c_left_by 7
  have c_Search_new : Mak P w K mg base 2 "Search" CS (spSrNew K CS) := sr.new.mak sc_Search_new (fun _ _ _ _ h => by obtain ⟨_, _, _, _, _, _, rfl, _⟩ := h; rfl) (b_Search_new sr.c c_first_left)
  have c_Search_newH : MakH P w K mg base 2 "Search" CS (spSrNone CS) := sr.new.makH sc_Search_new (fun _ _ _ _ h => by obtain ⟨_, _, _, _, rfl, _⟩ := h; rfl) (b_Search_newH sr.c c_first_leftH)
  have c_test : Met P w K mg base 106 CS "test" (spTest P w K CP CS) := sr.test.met sc_Search_test (fun _ _ _ _ h => by obtain ⟨_, _, _, _, _, _, rfl, _⟩ := h; rfl) (b_Search_test sr.c c_bt)
  have c_fail : Met P w K mg base 3 CS "fail" (spFail K CS) := sr.fail.met sc_Search_fail (fun _ _ _ _ h => by obtain ⟨_, _, _, _, _, _, _, rfl, _⟩ := h; rfl) (b_Search_fail sr.c c_text c_row)
  have c_take : Met P w K mg base 107 CS "take" (spTakeS P w K CP CS) := sr.take.met sc_Search_take (fun _ _ _ _ h => by obtain ⟨_, _, _, _, _, _, _, _, rfl, _⟩ := h; rfl) (b_Search_take B sr.c c_left_by c_are_wrong c_text c_row c_record c_integer c_test)
  have c_rejected : CalP P w K mg base 4 "rejected" (spRej K CS CR) := fn.rejected.calP sc_rejected (fun _ _ _ _ _ h => by obtain ⟨_, _, _, _, rfl, _⟩ := h; rfl) (b_rejected T R c_textH c_rowH c_Search_newH)
  have c_begun : Met P w K mg base 108 CD "begun" (spBegun P w K CP CS CD) := dk.begun.met sc_Desk_begun (fun _ _ _ _ h => by obtain ⟨_, _, _, _, _, _, _, _, _, _, _, _, _, _, _, _, rfl, _⟩ := h; rfl) (b_Desk_begun B T R eR dk.c sr.c c_setting_of c_need_kind c_Search_new c_fail c_take c_text c_rejected)
  have c_search_door : Met P w K mg base 109 CD "search_door" (spSearchDoor P w K CP CS CD) := dk.search_door.met sc_Desk_search_door (fun _ _ _ _ h => by obtain ⟨_, _, _, _, _, _, _, _, _, _, _, _, rfl, _⟩ := h; rfl) (b_Desk_search_door B T dk.c sr.c c_integer c_row c_begun c_test c_take c_fail)
  have c_planning_door : MetX P w K mg base 114 CD "planning_door" (spPlanning P w K CP CD CR) := dk.planning_door.metX sc_Desk_planning_door (fun _ _ _ _ h => by obtain ⟨_, _, _, _, _, _, _, _, _, _, _, _, _, rfl, _⟩ := h; rfl) (b_Desk_planning_door B T dk.c c_first_left c_integer c_boolean c_row c_record c_few c_bp c_least_by_weight c_counterexample c_plan_of c_plan_value c_is_plan c_need_kind c_need_range)
  have c_answers_door : MetX P w K mg base 114 CD "answers_door" (spAnswersDoor P w K CP CD CR) := dk.answers_door.metX sc_Desk_answers_door (fun _ _ _ _ h => by obtain ⟨_, _, _, _, _, _, _, _, _, _, _, _, _, _, _, rfl, _⟩ := h; rfl) (b_Desk_answers_door B T dk.c c_first_left c_left_by c_left_behind c_are_wrong c_integer c_boolean c_row c_record c_number_value c_number_in c_few c_bt c_answers_of c_need_range)
  have c_answer : MetX P w K mg base 115 CD "answer" (spAnswer P w K CP CS CD CR) := dk.answer.metX sc_Desk_answer (fun _ _ _ _ h => by obtain ⟨_, _, _, _, _, _, _, _, _, _, _, _, rfl, _⟩ := h; rfl) (b_Desk_answer B T c_setting_of c_search_door c_planning_door c_answers_door)
  exact ⟨dk.new.mak sc_Desk_new (fun _ _ _ _ h => by obtain ⟨_, _, rfl, _⟩ := h; rfl) (b_Desk_new dk.c (ok_Planner_new pl)), fn.reply_to.cal sc_reply_to (fun _ _ _ _ h => by obtain ⟨_, _, _, _, _, _, _, _, _, _, rfl, _⟩ := h; rfl) (b_reply_to B T R eR rq.c (ok_Request_new rq) (ok_give rq) (ok_arguments B T rq) c_value_octets c_refusal_octetsH c_answer)⟩
theorem all_mk {h : Heap} {fa f : Addr} {oc kV dc pm cd ct : Value} {od an : Option Addr} {sl : Array (Option Value)} (X : K.In h) (G : h.Ns mainGlobals mg) (hfa : mg "answers" = some (.ref fa)) (B : Bt mg) (T : Ct K mg aN aU aA) (R : RfB K mg CR) (eR : PySem.W.exmOne K (.ref CR) (.ref CR) = some true) (pl : PlD K mg CP) (rq : RqD K mg CQ) (sr : SrD K mg CS) (dk : DkD K mg CD) (fn : FnD K mg)
    (aA : PySem.W.nsIn K mainGlobals "answers" = some (some (.ref f))) (lA : K.lookup f = some ⟨oc, od, .func (PySem.W.fnOf "answers" "answers" (defArgs s_answers) (defBody s_answers) (defScope s_answers) .none kV dc pm an cd ct), sl⟩) (cA : PySem.W.codeIn K cd "answers" = true) (kA : PySem.W.keepIn K (.ref f) = true) :
    ∃ fd : FuncData, (∀ (s : Shared) (us : List Value), us.length = (["calls"] : List Str).length → BindsTo s fd ⟨us, []⟩ ((["calls"] : List Str).zip us)) ∧ ∀ base : Heap, K.In base → base.Ns mainGlobals mg → FnOk P w K mg base CX0 117 fa fd ["calls"] (spAns K) := by
  have e := hfa.symm.trans (PySem.W.mg_of X G aA)
  cases e
  have F := fun_mk (st := s_answers) lA cA kA
  refine ⟨PySem.W.fnOf "answers" "answers" (defArgs s_answers) (defBody s_answers) (defScope s_answers) .none kV dc pm an cd ct, fun s us hu => match us, hu with | [_], _ => .of_eq rfl, fun base _ _ => ?_⟩
  have p := promises (P := P) (w := w) (base := base) B T R eR pl rq sr dk fn
  exact fnBd F sc_answers (fun _ _ _ _ h => by obtain ⟨_, _, rfl, _⟩ := h; rfl) (b_answers B p.1 p.2)
end
end Fs

open PySem PySem.W PyProof.Rows
set_option maxRecDepth 100000 in
set_option maxHeartbeats 16000000 in
theorem PySem.Challenge.cw_flakysearches_s01_answers_holds : PySem.Challenge.rw_flakysearches_s01_answers.Holds := by
  w_on; k_headS; (case hw => exact ⟨[.list [.int 0, .int 3, .int 0, .int 0, .int 0]], by decide +kernel, by decide +kernel⟩)
  k_fillS
  refine L2.walk_specK (r := PySem.Challenge.rw_flakysearches_s01_answers) (k := 117) (CX := L2.CX0) (ps := ["calls"]) (sp := Fs.spAns) (by decide +kernel) rfl rfl ⟨rfl, by decide, by decide⟩ (fun w h Y => PySem.W.kIn_of Y) ?F ?S (fun _ _ _ _ z => z)
  case F =>
    intro w mg fa h Y KX G hmg
    refine' Fs.all_mk KX G hmg ?bt ?ct ?rf ?eR ?pl ?rq ?sr ?dk ?fn ?aA ?lA ?cA ?kA
    case bt =>
      refine' ⟨?_, ?_, ?_, ?_, ?_, ?_, ?_, ?_, ?_, ?_, ?_⟩
      all_goals exact Fs.mg_no KX G (by k_is)
    case ct =>
      refine' Fs.ct_mk KX G ?a1 ?a2 ?a3 ?a4 ?a5 ?a6 ?a7 ?l1 ?l2 ?l3 ?v1 ?v2 ?v3
      (case a1 => k_is); (case a2 => k_is); (case a3 => k_is); (case a4 => k_is); (case a5 => k_is); (case a6 => k_is); (case a7 => k_is); (case l1 => k_is); (case l2 => k_is); (case l3 => k_is)
      (case v1 => first | rfl | decide +kernel); (case v2 => first | rfl | decide +kernel); (case v3 => first | rfl | decide +kernel)
    case rf =>
      refine' Fs.rf_mk KX G ?aC ?xl ?sa ?ga ?gg ?eC ?hC ?tC ?kC ?nK ?nM ?a0 ?t0 ?l0 ?c0 ?k0
      (case aC => k_is); (case xl => k_is); (case sa => k_is); (case ga => k_is); (case gg => k_is); (case eC => k_is); (case hC => k_is); (case tC => k_is); (case kC => k_is); (case nK => k_is); (case nM => k_is); (case a0 => k_is); (case t0 => k_is); (case l0 => k_is); (case c0 => k_is); (case k0 => k_is)
    case eR =>
      refine' Fs.exm_own ?b ?i ?t ?s
      (case b => k_is); (case i => k_is); (case t => k_is); (case s => first | rfl | k_is)
    case pl =>
      refine' Fs.pl_mk KX G ?aC ?pg ?hd ?po ?sa ?n0 ?mk ?kc ?a0 ?i0 ?l0 ?c0 ?k0 ?a1 ?i1 ?l1 ?c1 ?k1 ?a2 ?i2 ?l2 ?c2 ?k2 ?a3 ?i3 ?l3 ?c3 ?k3 ?a4 ?i4 ?l4 ?c4 ?k4
      (case aC => k_is); (case pg => k_is); (case hd => k_is); (case po => k_is); (case sa => k_is); (case n0 => k_is); (case mk => k_is); (case kc => k_is); (case a0 => k_is); (case i0 => k_is); (case l0 => k_is); (case c0 => k_is); (case k0 => k_is); (case a1 => k_is); (case i1 => k_is); (case l1 => k_is); (case c1 => k_is); (case k1 => k_is); (case a2 => k_is); (case i2 => k_is); (case l2 => k_is); (case c2 => k_is); (case k2 => k_is); (case a3 => k_is); (case i3 => k_is); (case l3 => k_is); (case c3 => k_is); (case k3 => k_is); (case a4 => k_is); (case i4 => k_is); (case l4 => k_is); (case c4 => k_is); (case k4 => k_is)
    case rq =>
      refine' Fs.rq_mk KX G ?aC ?pg ?hd ?po ?sa ?n0 ?n1 ?mk ?kc ?a0 ?i0 ?l0 ?c0 ?k0 ?a1 ?i1 ?l1 ?c1 ?k1 ?a2 ?i2 ?l2 ?c2 ?k2 ?a3 ?i3 ?l3 ?c3 ?k3 ?a4 ?i4 ?l4 ?c4 ?k4
      (case aC => k_is); (case pg => k_is); (case hd => k_is); (case po => k_is); (case sa => k_is); (case n0 => k_is); (case n1 => k_is); (case mk => k_is); (case kc => k_is); (case a0 => k_is); (case i0 => k_is); (case l0 => k_is); (case c0 => k_is); (case k0 => k_is); (case a1 => k_is); (case i1 => k_is); (case l1 => k_is); (case c1 => k_is); (case k1 => k_is); (case a2 => k_is); (case i2 => k_is); (case l2 => k_is); (case c2 => k_is); (case k2 => k_is); (case a3 => k_is); (case i3 => k_is); (case l3 => k_is); (case c3 => k_is); (case k3 => k_is); (case a4 => k_is); (case i4 => k_is); (case l4 => k_is); (case c4 => k_is); (case k4 => k_is)
    case sr =>
      refine' Fs.sr_mk KX G ?aC ?pg ?hd ?po ?sa ?n0 ?n1 ?n2 ?n3 ?mk ?kc ?a0 ?i0 ?l0 ?c0 ?k0 ?a1 ?i1 ?l1 ?c1 ?k1 ?a2 ?i2 ?l2 ?c2 ?k2 ?a3 ?i3 ?l3 ?c3 ?k3
      (case aC => k_is); (case pg => k_is); (case hd => k_is); (case po => k_is); (case sa => k_is); (case n0 => k_is); (case n1 => k_is); (case n2 => k_is); (case n3 => k_is); (case mk => k_is); (case kc => k_is); (case a0 => k_is); (case i0 => k_is); (case l0 => k_is); (case c0 => k_is); (case k0 => k_is); (case a1 => k_is); (case i1 => k_is); (case l1 => k_is); (case c1 => k_is); (case k1 => k_is); (case a2 => k_is); (case i2 => k_is); (case l2 => k_is); (case c2 => k_is); (case k2 => k_is); (case a3 => k_is); (case i3 => k_is); (case l3 => k_is); (case c3 => k_is); (case k3 => k_is)
    case dk =>
      refine' Fs.dk_mk KX G ?aC ?pg ?hd ?po ?sa ?n0 ?n1 ?mk ?kc ?a0 ?i0 ?l0 ?c0 ?k0 ?a1 ?i1 ?l1 ?c1 ?k1 ?a2 ?i2 ?l2 ?c2 ?k2 ?a3 ?i3 ?l3 ?c3 ?k3 ?a4 ?i4 ?l4 ?c4 ?k4 ?a5 ?i5 ?l5 ?c5 ?k5
      (case aC => k_is); (case pg => k_is); (case hd => k_is); (case po => k_is); (case sa => k_is); (case n0 => k_is); (case n1 => k_is); (case mk => k_is); (case kc => k_is); (case a0 => k_is); (case i0 => k_is); (case l0 => k_is); (case c0 => k_is); (case k0 => k_is); (case a1 => k_is); (case i1 => k_is); (case l1 => k_is); (case c1 => k_is); (case k1 => k_is); (case a2 => k_is); (case i2 => k_is); (case l2 => k_is); (case c2 => k_is); (case k2 => k_is); (case a3 => k_is); (case i3 => k_is); (case l3 => k_is); (case c3 => k_is); (case k3 => k_is); (case a4 => k_is); (case i4 => k_is); (case l4 => k_is); (case c4 => k_is); (case k4 => k_is); (case a5 => k_is); (case i5 => k_is); (case l5 => k_is); (case c5 => k_is); (case k5 => k_is)
    case fn =>
      refine' ⟨Fs.df_mk KX G Fs.bi_first_left ?a0 ?l0 ?c0 ?k0, Fs.df_mk KX G Fs.bi_left_by ?a1 ?l1 ?c1 ?k1, Fs.df_mk KX G Fs.bi_left_behind ?a2 ?l2 ?c2 ?k2, Fs.df_mk KX G Fs.bi_counterexample ?a3 ?l3 ?c3 ?k3, Fs.df_mk KX G Fs.bi_are_wrong ?a4 ?l4 ?c4 ?k4, Fs.df_mk KX G Fs.bi_weight_of ?a5 ?l5 ?c5 ?k5, Fs.df_mk KX G Fs.bi_least_by_weight ?a6 ?l6 ?c6 ?k6, Fs.df_mk KX G Fs.bi_need_kind ?a7 ?l7 ?c7 ?k7, Fs.df_mk KX G Fs.bi_need_range ?a8 ?l8 ?c8 ?k8, Fs.df_mk KX G Fs.bi_octets_of ?a9 ?l9 ?c9 ?k9, Fs.df_mk KX G Fs.bi_text ?a10 ?l10 ?c10 ?k10, Fs.df_mk KX G Fs.bi_integer ?a11 ?l11 ?c11 ?k11, Fs.df_mk KX G Fs.bi_boolean ?a12 ?l12 ?c12 ?k12, Fs.df_mk KX G Fs.bi_row ?a13 ?l13 ?c13 ?k13, Fs.df_mk KX G Fs.bi_record ?a14 ?l14 ?c14 ?k14, Fs.df_mk KX G Fs.bi_number_octets ?a15 ?l15 ?c15 ?k15, Fs.df_mk KX G Fs.bi_value_octets ?a16 ?l16 ?c16 ?k16, Fs.df_mk KX G Fs.bi_refusal_octets ?a17 ?l17 ?c17 ?k17, Fs.df_mk KX G Fs.bi_number_in ?a18 ?l18 ?c18 ?k18, Fs.df_mk KX G Fs.bi_setting_of ?a19 ?l19 ?c19 ?k19, Fs.df_mk KX G Fs.bi_is_answer ?a20 ?l20 ?c20 ?k20, Fs.df_mk KX G Fs.bi_answers_of ?a21 ?l21 ?c21 ?k21, Fs.df_mk KX G Fs.bi_is_plan ?a22 ?l22 ?c22 ?k22, Fs.df_mk KX G Fs.bi_plan_of ?a23 ?l23 ?c23 ?k23, Fs.df_mk KX G Fs.bi_plan_value ?a24 ?l24 ?c24 ?k24, Fs.df_mk KX G Fs.bi_number_value ?a25 ?l25 ?c25 ?k25, Fs.df_mk KX G Fs.bi_rejected ?a26 ?l26 ?c26 ?k26, Fs.df_mk KX G Fs.bi_reply_to ?a27 ?l27 ?c27 ?k27⟩
      (case a0 => k_is); (case l0 => k_is); (case c0 => k_is); (case k0 => k_is)
      (case a1 => k_is); (case l1 => k_is); (case c1 => k_is); (case k1 => k_is)
      (case a2 => k_is); (case l2 => k_is); (case c2 => k_is); (case k2 => k_is)
      (case a3 => k_is); (case l3 => k_is); (case c3 => k_is); (case k3 => k_is)
      (case a4 => k_is); (case l4 => k_is); (case c4 => k_is); (case k4 => k_is)
      (case a5 => k_is); (case l5 => k_is); (case c5 => k_is); (case k5 => k_is)
      (case a6 => k_is); (case l6 => k_is); (case c6 => k_is); (case k6 => k_is)
      (case a7 => k_is); (case l7 => k_is); (case c7 => k_is); (case k7 => k_is)
      (case a8 => k_is); (case l8 => k_is); (case c8 => k_is); (case k8 => k_is)
      (case a9 => k_is); (case l9 => k_is); (case c9 => k_is); (case k9 => k_is)
      (case a10 => k_is); (case l10 => k_is); (case c10 => k_is); (case k10 => k_is)
      (case a11 => k_is); (case l11 => k_is); (case c11 => k_is); (case k11 => k_is)
      (case a12 => k_is); (case l12 => k_is); (case c12 => k_is); (case k12 => k_is)
      (case a13 => k_is); (case l13 => k_is); (case c13 => k_is); (case k13 => k_is)
      (case a14 => k_is); (case l14 => k_is); (case c14 => k_is); (case k14 => k_is)
      (case a15 => k_is); (case l15 => k_is); (case c15 => k_is); (case k15 => k_is)
      (case a16 => k_is); (case l16 => k_is); (case c16 => k_is); (case k16 => k_is)
      (case a17 => k_is); (case l17 => k_is); (case c17 => k_is); (case k17 => k_is)
      (case a18 => k_is); (case l18 => k_is); (case c18 => k_is); (case k18 => k_is)
      (case a19 => k_is); (case l19 => k_is); (case c19 => k_is); (case k19 => k_is)
      (case a20 => k_is); (case l20 => k_is); (case c20 => k_is); (case k20 => k_is)
      (case a21 => k_is); (case l21 => k_is); (case c21 => k_is); (case k21 => k_is)
      (case a22 => k_is); (case l22 => k_is); (case c22 => k_is); (case k22 => k_is)
      (case a23 => k_is); (case l23 => k_is); (case c23 => k_is); (case k23 => k_is)
      (case a24 => k_is); (case l24 => k_is); (case c24 => k_is); (case k24 => k_is)
      (case a25 => k_is); (case l25 => k_is); (case c25 => k_is); (case k25 => k_is)
      (case a26 => k_is); (case l26 => k_is); (case c26 => k_is); (case k26 => k_is)
      (case a27 => k_is); (case l27 => k_is); (case c27 => k_is); (case k27 => k_is)
    (case aA => k_is); (case lA => k_is); (case cA => k_is); (case kA => k_is)
  case S =>
    intro K H xs a hO hwi hask hx
    cases hx with
    | cons h1 h2 =>
      cases h2
      cases h1 with
      | lst hs ha =>
        have e := L2.ints_dw a.1 _ ha
        subst e
        have q : ((Codec.inLen 0 61000 a.1 && a.1.all (Codec.inInt 0 65535)) && true) = true := hwi
        rw [Bool.and_eq_true, Bool.and_eq_true] at q
        exact ⟨_, a.1, rfl, hs, hask, (Codec.inNat_iff.mp q.1.1).2, fun H' p hp => .lst (L2.SqL.of hp) (L2.dw_ints _)⟩
