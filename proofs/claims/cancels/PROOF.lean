import PyProof.Rows.All
import Wide.All
import OpenK.AllK
import Wide.FinOn
import Open.SpecLaws
import KE.OsGo
import HandS.ForSpec
import HandS.Comp
import HandS.Iter
import HandS.Text
import HandS.Style
import KE.KDictZip
import PySem.Challenge.RW_whocomes_s02_cancels
set_option Elab.async false
set_option linter.all false
set_option maxRecDepth 100000
set_option maxHeartbeats 2000000
/-! The plain law: what the program computes, over numbers and lists, is what the specification says. -/
namespace Wc
open Kzf1 (Net net okNet knows has bits)

/-! ### bits -/
theorem has_tb (m i : Nat) : has m i = m.testBit i := by
  unfold has
  rw [Nat.testBit_eq_decide_div_mod_eq]
  rfl
theorem has_ext {m k n : Nat} (hm : m < 2 ^ n) (hk : k < 2 ^ n) (h : ∀ j, j < n → has m j = has k j) : m = k := by
  apply Nat.eq_of_testBit_eq
  intro j
  by_cases c : j < n
  · have := h j c
    rw [has_tb, has_tb] at this
    exact this
  · have hp : 2 ^ n ≤ 2 ^ j := Nat.pow_le_pow_right (by omega) (by omega)
    rw [Nat.testBit_lt_two_pow (Nat.lt_of_lt_of_le hm hp), Nat.testBit_lt_two_pow (Nat.lt_of_lt_of_le hk hp)]
theorem has_zero (i : Nat) : has 0 i = false := by rw [has_tb, Nat.zero_testBit]
theorem has_le {m i : Nat} (h : has m i = true) : 2 ^ i ≤ m := by
  rw [has_tb] at h
  exact Nat.ge_two_pow_of_testBit h
theorem has_and (a b i : Nat) : has (a &&& b) i = (has a i && has b i) := by
  rw [has_tb, has_tb, has_tb, Nat.testBit_and]
theorem has_or (a b i : Nat) : has (a ||| b) i = (has a i || has b i) := by
  rw [has_tb, has_tb, has_tb, Nat.testBit_or]
theorem has_one (i j : Nat) : has (2 ^ i) j = decide (i = j) := by
  rw [has_tb, Nat.testBit_two_pow]
theorem div_past {m i : Nat} (h : m / 2 ^ i % 2 = 0) (d : Nat) : (m + 2 ^ i) / 2 ^ (i + 1 + d) = m / 2 ^ (i + 1 + d) := by
  have hp : 0 < 2 ^ i := Nat.two_pow_pos i
  rw [Nat.pow_add, Nat.pow_succ, ← Nat.div_div_eq_div_mul, ← Nat.div_div_eq_div_mul, ← Nat.div_div_eq_div_mul, ← Nat.div_div_eq_div_mul, Nat.add_div_right _ hp]
  congr 1
  omega
theorem has_add {m i : Nat} (h : has m i = false) (j : Nat) : has (m + 2 ^ i) j = (has m j || decide (i = j)) := by
  by_cases c : i = j
  · subst c
    rw [has_tb, Nat.add_comm, Nat.testBit_two_pow_add_eq, ← has_tb, h]
    simp
  · rw [show decide (i = j) = false from decide_eq_false c, Bool.or_false]
    by_cases d : j < i
    · rw [has_tb, has_tb, Nat.add_comm, Nat.testBit_two_pow_add_gt d]
    · have h0 : m / 2 ^ i % 2 = 0 := by
        unfold has at h
        have : ¬ m / 2 ^ i % 2 = 1 := by simpa using h
        omega
      have e := div_past h0 (j - (i + 1))
      rw [show i + 1 + (j - (i + 1)) = j by omega] at e
      unfold has
      rw [e]
theorem or_bit {a i : Nat} : a ||| 2 ^ i = if has a i then a else a + 2 ^ i := by
  apply Nat.eq_of_testBit_eq
  intro j
  cases c : has a i with
  | true =>
    rw [if_pos rfl, ← has_tb, ← has_tb, has_or, has_one]
    by_cases e : i = j
    · subst e; simp [c]
    · simp [e]
  | false =>
    rw [if_neg (by decide), ← has_tb, ← has_tb, has_or, has_one, has_add c]
theorem has_sub {m i : Nat} (h : has m i = true) (j : Nat) : has (m - 2 ^ i) j = (has m j && !decide (i = j)) := by
  have hle := has_le h
  have e0 : has (m - 2 ^ i) i = false := by
    unfold has at h ⊢
    have hp : 0 < 2 ^ i := Nat.two_pow_pos i
    have h1 : m / 2 ^ i % 2 = 1 := by simpa using h
    have e : (m - 2 ^ i) / 2 ^ i = m / 2 ^ i - 1 := by
      have := Nat.sub_mul_div m (2 ^ i) 1
      simpa using this
    rw [e]
    have : (m / 2 ^ i - 1) % 2 = 0 := by omega
    rw [this]; rfl
  have e1 := has_add e0 j
  rw [Nat.sub_add_cancel hle] at e1
  rw [e1]
  by_cases e : i = j
  · subst e; simp [e0]
  · simp [e]
theorem and_bit_ne (m i : Nat) : decide (m &&& 2 ^ i ≠ 0) = has m i := by
  cases c : has m i with
  | true =>
    apply decide_eq_true
    intro z
    have := has_and m (2 ^ i) i
    rw [z, has_zero, c, has_one] at this
    simp at this
  | false =>
    apply decide_eq_false
    intro z
    apply z
    apply Nat.eq_of_testBit_eq
    intro k
    rw [← has_tb, ← has_tb, has_and, has_one, has_zero]
    by_cases e : i = k
    · subst e; simp [c]
    · simp [e]
theorem has_every (n i : Nat) : has (2 ^ n - 1) i = decide (i < n) := by
  rw [has_tb, Nat.testBit_two_pow_sub_one]

/-! ### the numbers told by a list -/
theorem bits_acc : ∀ (l : List Nat) (s : Nat), l.Nodup → (∀ i ∈ l, has s i = false) → ∀ j, has (l.foldl (fun s i => s + 2 ^ i) s) j = (has s j || decide (j ∈ l))
  | [], s, _, _, j => by simp
  | x :: r, s, hn, hd, j => by
    have hx := hd x List.mem_cons_self
    obtain ⟨hxr, hr⟩ := List.nodup_cons.mp hn
    rw [List.foldl_cons, bits_acc r (s + 2 ^ x) hr (fun i hi => ?_) j, has_add hx]
    · have e : decide (j ∈ x :: r) = (decide (x = j) || decide (j ∈ r)) := by
        simp only [List.mem_cons, Bool.decide_or]
        congr 1
        exact decide_eq_decide.mpr eq_comm
      rw [e, Bool.or_assoc]
    · rw [has_add hx, hd i (List.mem_cons_of_mem _ hi)]
      have : x ≠ i := fun e => hxr (e ▸ hi)
      simp [this]
theorem has_bits {l : List Nat} (h : l.Nodup) (j : Nat) : has (bits l) j = decide (j ∈ l) := by
  unfold bits
  rw [bits_acc l 0 h (fun i _ => has_zero i), has_zero, Bool.false_or]
theorem range_nodup (n : Nat) : (List.range n).Nodup := List.nodup_range
theorem has_bits_filter (n : Nat) (p : Nat → Bool) (j : Nat) : has (bits ((List.range n).filter p)) j = (decide (j < n) && p j) := by
  rw [has_bits ((range_nodup n).filter p)]
  rw [show decide (j ∈ (List.range n).filter p) = decide (j < n ∧ p j = true) from decide_eq_decide.mpr (by rw [List.mem_filter, List.mem_range])]
  rw [Bool.decide_and]
  simp
theorem lt_of_bits {m n : Nat} (h : ∀ j, n ≤ j → has m j = false) : m < 2 ^ n := by
  apply Nat.lt_of_not_le
  intro c
  have hne : m ≠ 0 := by
    have := Nat.two_pow_pos n
    omega
  obtain ⟨i, hi, hb⟩ := Nat.exists_ge_and_testBit_of_ge_two_pow c
  have := h i hi
  rw [has_tb, hb] at this
  cases this
theorem bits_lt (n : Nat) (p : Nat → Bool) : bits ((List.range n).filter p) < 2 ^ n := lt_of_bits fun j hj => by
  rw [has_bits_filter]
  simp [Nat.not_lt.mpr hj]

/-! ### without -/
/-- those of m but for some among them -/
def wo (m : Nat) (l : List Nat) : Nat := l.foldl (fun s i => s - 2 ^ i) m
theorem wo_has : ∀ (l : List Nat) (m : Nat), l.Nodup → (∀ i ∈ l, has m i = true) → ∀ j, has (wo m l) j = (has m j && !decide (j ∈ l))
  | [], m, _, _, j => by simp [wo]
  | x :: r, m, hn, hd, j => by
    have hx := hd x List.mem_cons_self
    obtain ⟨hxr, hr⟩ := List.nodup_cons.mp hn
    have e1 : wo m (x :: r) = wo (m - 2 ^ x) r := rfl
    rw [e1, wo_has r (m - 2 ^ x) hr (fun i hi => ?_) j, has_sub hx]
    · have e : decide (j ∈ x :: r) = (decide (x = j) || decide (j ∈ r)) := by
        simp only [List.mem_cons, Bool.decide_or]
        congr 1
        exact decide_eq_decide.mpr eq_comm
      rw [e, Bool.not_or, Bool.and_assoc]
    · rw [has_sub hx, hd i (List.mem_cons_of_mem _ hi)]
      have : x ≠ i := fun e => hxr (e ▸ hi)
      simp [this]
theorem wo_le : ∀ (l : List Nat) (m : Nat), wo m l ≤ m
  | [], _ => Nat.le_refl _
  | x :: r, m => Nat.le_trans (wo_le r (m - 2 ^ x)) (Nat.sub_le _ _)
/-- the next one can be taken away -/
theorem wo_take {l : List Nat} {m i x : Nat} (hn : l.Nodup) (hd : ∀ i ∈ l, has m i = true) (h : l[i]? = some x) : wo m (l.take (i + 1)) = wo m (l.take i) - 2 ^ x ∧ 2 ^ x ≤ wo m (l.take i) := by
  have hlt : i < l.length := (List.getElem?_eq_some_iff.mp h).1
  have e : l.take (i + 1) = l.take i ++ [x] := by rw [List.take_add_one, h]; rfl
  constructor
  · rw [e]; unfold wo; rw [List.foldl_append]; rfl
  · have hsub : (l.take i).Sublist l := List.take_sublist _ _
    apply has_le
    rw [wo_has (l.take i) m (hn.sublist hsub) (fun j hj => hd j (hsub.subset hj))]
    have hx : x ∈ l := List.mem_of_getElem? h
    rw [hd x hx]
    have : x ∉ l.take i := fun hm => by
      have hn' : (l.take (i + 1)).Nodup := hn.sublist (List.take_sublist _ _)
      rw [e] at hn'
      have := (List.nodup_append.mp hn').2.2 x hm x (by simp)
      exact this rfl
    simp [this]

/-! ### who is among, who can't -/
def gs (n m : Nat) : List Nat := (List.range n).filter (has m)
theorem gs_size (n m : Nat) : (gs n m).length = Kzf2.size n m := rfl
theorem gs_nodup (n m : Nat) : (gs n m).Nodup := (range_nodup n).filter _
theorem gs_len (n m : Nat) : (gs n m).length ≤ n := by
  have := List.length_filter_le (has m) (List.range n)
  rw [List.length_range] at this
  exact this
/-- the masks of those whom each knows -/
def KnowsOk (n : Nat) (g : Net) (ks : List Nat) : Prop := ks.length = n ∧ ∀ i, i < n → ∃ x, ks[i]? = some x ∧ ∀ j, j < n → has x j = knows g i j
theorem among_of {n : Nat} {g : Net} {ks : List Nat} (K : KnowsOk n g ks) {i x m : Nat} (hi : i < n) (hx : ks[i]? = some x) : Kzf2.size n (x &&& m) = Kzf2.among n g m i := by
  obtain ⟨y, hy, hk⟩ := K.2 i hi
  rw [hx] at hy
  have e : x = y := Option.some.inj hy
  subst e
  unfold Kzf2.size Kzf2.among
  congr 1
  apply List.filter_congr
  intro j hj
  rw [has_and, hk j (List.mem_range.mp hj), Bool.and_comm]
def cant (n k : Nat) (g : Net) (a m i : Nat) : Bool := !has a i && decide (Kzf2.among n g m i < k)
def wc (n k : Nat) (g : Net) (a m : Nat) : List Nat := (gs n m).filter (cant n k g a m)
theorem wc_eq (n k : Nat) (g : Net) (a m : Nat) : wc n k g a m = (List.range n).filter fun i => has m i && !Kzf2.stays n k g a m i := by
  unfold wc gs
  rw [List.filter_filter]
  apply List.filter_congr
  intro i _
  unfold cant Kzf2.stays
  have e : decide (Kzf2.among n g m i < k) = !decide (k ≤ Kzf2.among n g m i) := by
    rw [← decide_not]
    exact decide_eq_decide.mpr (by omega)
  rw [e]
  cases has m i <;> cases has a i <;> simp
theorem wc_nodup (n k : Nat) (g : Net) (a m : Nat) : (wc n k g a m).Nodup := (gs_nodup n m).filter _
theorem wc_has {n k : Nat} {g : Net} {a m i : Nat} (h : i ∈ wc n k g a m) : i < n ∧ has m i = true := by
  have := (List.mem_filter.mp h).1
  have := List.mem_filter.mp this
  exact ⟨List.mem_range.mp this.1, this.2⟩
theorem wc_len (n k : Nat) (g : Net) (a m : Nat) : (wc n k g a m).length ≤ n := Nat.le_trans (List.length_filter_le _ _) (gs_len n m)
theorem stays_has {n k : Nat} {g : Net} {a m i : Nat} (h : Kzf2.stays n k g a m i = true) : has m i = true := by
  unfold Kzf2.stays at h
  exact (Bool.and_eq_true _ _ ▸ h).1
theorem round_has (n k : Nat) (g : Net) (a m j : Nat) : has (Kzf2.round n k g a m) j = (decide (j < n) && Kzf2.stays n k g a m j) := has_bits_filter _ _ _
theorem round_lt (n k : Nat) (g : Net) (a m : Nat) : Kzf2.round n k g a m < 2 ^ n := bits_lt _ _
theorem wo_round {n k : Nat} {g : Net} {a m : Nat} (hm : m < 2 ^ n) : wo m (wc n k g a m) = Kzf2.round n k g a m := by
  refine has_ext (Nat.lt_of_le_of_lt (wo_le _ _) hm) (round_lt _ _ _ _ _) fun j hj => ?_
  rw [wo_has _ _ (wc_nodup _ _ _ _ _) (fun i hi => (wc_has hi).2), round_has]
  rw [show decide (j ∈ wc n k g a m) = (has m j && !Kzf2.stays n k g a m j) from ?_]
  · cases e : Kzf2.stays n k g a m j with
    | true => rw [stays_has e]; simp [hj]
    | false => cases has m j <;> simp
  · rw [wc_eq]
    have : (j ∈ (List.range n).filter fun i => has m i && !Kzf2.stays n k g a m i) ↔ (has m j && !Kzf2.stays n k g a m j) = true := by
      rw [List.mem_filter, List.mem_range]
      exact ⟨fun h => h.2, fun h => ⟨hj, h⟩⟩
    cases c : (has m j && !Kzf2.stays n k g a m j) with
    | true => exact decide_eq_true (this.mpr c)
    | false => exact decide_eq_false fun z => by rw [this.mp z] at c; cases c
theorem wc_nil {n k : Nat} {g : Net} {a m : Nat} (hm : m < 2 ^ n) : wc n k g a m = [] ↔ Kzf2.round n k g a m = m := by
  constructor
  · intro h
    rw [← wo_round hm, h]; rfl
  · intro h
    apply List.eq_nil_iff_forall_not_mem.mpr
    intro i hi
    obtain ⟨h1, h2⟩ := wc_has hi
    rw [wc_eq] at hi
    have h3 := (List.mem_filter.mp hi).2
    have h4 := round_has n k g a m i
    rw [h, h2] at h4
    rw [h2] at h3
    simp [h1] at h4
    rw [h4] at h3
    simp at h3

/-! ### sizes -/
theorem size_lt {n m r : Nat} (hs : ∀ j, has r j = true → has m j = true) {i : Nat} (hi : i < n) (h1 : has m i = true) (h2 : has r i = false) : Kzf2.size n r < Kzf2.size n m := by
  have key : ∀ l : List Nat, (l.filter (has r)).length ≤ (l.filter (has m)).length ∧ (i ∈ l → (l.filter (has r)).length < (l.filter (has m)).length) := by
    intro l
    induction l with
    | nil => simp
    | cons x t ih =>
      obtain ⟨ih1, ih2⟩ := ih
      by_cases cr : has r x = true
      · rw [List.filter_cons_of_pos cr, List.filter_cons_of_pos (hs x cr)]
        simp only [List.length_cons]
        refine ⟨by omega, fun hm => ?_⟩
        have : i ∈ t := by
          rcases List.mem_cons.mp hm with e | e
          · subst e; rw [h2] at cr; cases cr
          · exact e
        have := ih2 this
        omega
      · rw [List.filter_cons_of_neg cr]
        by_cases cm : has m x = true
        · rw [List.filter_cons_of_pos cm]
          simp only [List.length_cons]
          exact ⟨by omega, fun _ => by omega⟩
        · rw [List.filter_cons_of_neg cm]
          refine ⟨ih1, fun hm => ih2 ?_⟩
          rcases List.mem_cons.mp hm with e | e
          · subst e; exact absurd h1 cm
          · exact e
  exact (key (List.range n)).2 (List.mem_range.mpr hi)
theorem round_sub {n k : Nat} {g : Net} {a m j : Nat} (h : has (Kzf2.round n k g a m) j = true) : has m j = true := by
  rw [round_has] at h
  exact stays_has ((Bool.and_eq_true _ _ ▸ h).2)
theorem size_round {n k : Nat} {g : Net} {a m : Nat} (hm : m < 2 ^ n) (h : wc n k g a m ≠ []) : Kzf2.size n (Kzf2.round n k g a m) < Kzf2.size n m := by
  obtain ⟨i, hi⟩ := List.exists_mem_of_ne_nil _ h
  obtain ⟨h1, h2⟩ := wc_has hi
  refine size_lt (fun j hj => round_sub hj) h1 h2 ?_
  rw [← wo_round hm, wo_has _ _ (wc_nodup _ _ _ _ _) (fun i hi => (wc_has hi).2)]
  simp [hi]
theorem size_sub {n m i : Nat} (hi : i < n) (h : has m i = true) : Kzf2.size n (m - 2 ^ i) < Kzf2.size n m := by
  refine size_lt (fun j hj => ?_) hi h ?_
  · rw [has_sub h] at hj
    exact (Bool.and_eq_true _ _ ▸ hj).1
  · rw [has_sub h]; simp
theorem size_le (n m : Nat) : Kzf2.size n m ≤ n := gs_len n m

/-! ### by rounds -/
/-- behind r rounds those of m mean to come -/
def RInv (n k : Nat) (g : Net) (a r m : Nat) : Prop := m < 2 ^ n ∧ ∃ f, Kzf2.size n m ≤ f ∧ Kzf2.rounds n k g a = (r + (Kzf2.roundsOn n k g a f m).1, (Kzf2.roundsOn n k g a f m).2)
theorem rinv_start (n k : Nat) (g : Net) (a : Nat) : RInv n k g a 0 (2 ^ n - 1) := by
  refine ⟨?_, n, size_le _ _, ?_⟩
  · have := Nat.two_pow_pos n
    omega
  · unfold Kzf2.rounds Kzf2.everybody
    rw [Nat.zero_add]
theorem rinv_turn {n k : Nat} {g : Net} {a r m : Nat} (h : RInv n k g a r m) (hw : wc n k g a m ≠ []) : RInv n k g a (r + 1) (wo m (wc n k g a m)) ∧ Kzf2.size n (wo m (wc n k g a m)) < Kzf2.size n m := by
  obtain ⟨hm, f, hf, e⟩ := h
  rw [wo_round hm]
  have hs := size_round hm hw
  refine ⟨⟨round_lt _ _ _ _ _, ?_⟩, hs⟩
  cases f with
  | zero => omega
  | succ f =>
    refine ⟨f, by omega, ?_⟩
    have hne : ¬ Kzf2.round n k g a m = m := fun z => hw ((wc_nil hm).mpr z)
    have e1 : Kzf2.roundsOn n k g a (f + 1) m = ((Kzf2.roundsOn n k g a f (Kzf2.round n k g a m)).1 + 1, (Kzf2.roundsOn n k g a f (Kzf2.round n k g a m)).2) := by
      show (if Kzf2.round n k g a m = m then _ else _) = _
      rw [if_neg hne]
    rw [e, e1]
    show (r + ((Kzf2.roundsOn n k g a f (Kzf2.round n k g a m)).1 + 1), _) = _
    congr 1
    omega
theorem rinv_end {n k : Nat} {g : Net} {a r m : Nat} (h : RInv n k g a r m) (hw : wc n k g a m = []) : (r, m) = Kzf2.rounds n k g a := by
  obtain ⟨hm, f, hf, e⟩ := h
  rw [e]
  cases f with
  | zero => rfl
  | succ f =>
    have e1 : Kzf2.roundsOn n k g a (f + 1) m = (0, m) := by
      show (if Kzf2.round n k g a m = m then _ else _) = _
      rw [if_pos ((wc_nil hm).mp hw)]
    rw [e1]; rfl
theorem core_lt (n k : Nat) (g : Net) (a : Nat) : Kzf2.core n k g a < 2 ^ n := by
  have key : ∀ f m, m < 2 ^ n → (Kzf2.roundsOn n k g a f m).2 < 2 ^ n := by
    intro f
    induction f with
    | zero => intro m h; exact h
    | succ f ih =>
      intro m h
      show (if Kzf2.round n k g a m = m then _ else _ : Nat × Nat).2 < _
      by_cases c : Kzf2.round n k g a m = m
      · rw [if_pos c]; exact h
      · rw [if_neg c]; exact ih _ (round_lt _ _ _ _ _)
  refine key n _ ?_
  have := Nat.two_pow_pos n
  show 2 ^ n - 1 < _
  omega

/-! ### one by one -/
def LInv (n k : Nat) (g : Net) (a : Nat) (found : List Nat) (m : Nat) : Prop := m < 2 ^ n ∧ ∃ f, Kzf2.size n m ≤ f ∧ Kzf2.cancels n k g a = found ++ Kzf2.lastOn n k g a f m
theorem linv_start (n k : Nat) (g : Net) (a : Nat) : LInv n k g a [] (2 ^ n - 1) := by
  refine ⟨?_, n, size_le _ _, rfl⟩
  have := Nat.two_pow_pos n
  omega
theorem find_wc (n k : Nat) (g : Net) (a m : Nat) : ((List.range n).find? fun i => has m i && !(Kzf2.stays n k g a m i)) = (wc n k g a m).head? := by
  rw [wc_eq, List.head?_filter]
theorem linv_turn {n k : Nat} {g : Net} {a : Nat} {found : List Nat} {m x : Nat} {r : List Nat} (h : LInv n k g a found m) (hw : wc n k g a m = x :: r) : LInv n k g a (found ++ [x]) (m - 2 ^ x) ∧ Kzf2.size n (m - 2 ^ x) < Kzf2.size n m := by
  obtain ⟨hm, f, hf, e⟩ := h
  have hx : x ∈ wc n k g a m := by rw [hw]; exact List.mem_cons_self
  obtain ⟨h1, h2⟩ := wc_has hx
  have hs := size_sub h1 h2
  refine ⟨⟨Nat.lt_of_le_of_lt (Nat.sub_le _ _) hm, ?_⟩, hs⟩
  cases f with
  | zero => omega
  | succ f =>
    refine ⟨f, by omega, ?_⟩
    have e1 : Kzf2.lastOn n k g a (f + 1) m = x :: Kzf2.lastOn n k g a f (m - 2 ^ x) := by
      show (match (List.range n).find? fun i => has m i && !(Kzf2.stays n k g a m i) with
        | none => []
        | some i => i :: Kzf2.lastOn n k g a f (m - 2 ^ i)) = _
      rw [find_wc, hw]; rfl
    rw [e, e1]
    simp
theorem linv_end {n k : Nat} {g : Net} {a : Nat} {found : List Nat} {m : Nat} (h : LInv n k g a found m) (hw : wc n k g a m = []) : found = Kzf2.cancels n k g a := by
  obtain ⟨hm, f, hf, e⟩ := h
  rw [e]
  cases f with
  | zero => simp [Kzf2.lastOn]
  | succ f =>
    have e1 : Kzf2.lastOn n k g a (f + 1) m = [] := by
      show (match (List.range n).find? fun i => has m i && !(Kzf2.stays n k g a m i) with
        | none => []
        | some i => i :: Kzf2.lastOn n k g a f (m - 2 ^ i)) = _
      rw [find_wc, hw]; rfl
    rw [e1]; simp
theorem linv_len {n k : Nat} {g : Net} {a : Nat} {found : List Nat} {m : Nat} (h : LInv n k g a found m) : found.length ≤ n := by
  obtain ⟨hm, f, hf, e⟩ := h
  have key : ∀ f m, (Kzf2.lastOn n k g a f m).length ≤ f := by
    intro f
    induction f with
    | zero => intro m; simp [Kzf2.lastOn]
    | succ f ih =>
      intro m
      show (match (List.range n).find? fun i => has m i && !(Kzf2.stays n k g a m i) with
        | none => []
        | some i => i :: Kzf2.lastOn n k g a f (m - 2 ^ i)).length ≤ _
      split
      · simp
      · simp only [List.length_cons]
        have := ih (m - 2 ^ ‹Nat›)
        omega
  have h1 : (Kzf2.cancels n k g a).length ≤ n := key n _
  rw [e, List.length_append] at h1
  omega
theorem cancels_len (n k : Nat) (g : Net) (a : Nat) : (Kzf2.cancels n k g a).length ≤ n := by
  have key : ∀ f m, (Kzf2.lastOn n k g a f m).length ≤ f := by
    intro f
    induction f with
    | zero => intro m; simp [Kzf2.lastOn]
    | succ f ih =>
      intro m
      show (match (List.range n).find? fun i => has m i && !(Kzf2.stays n k g a m i) with
        | none => []
        | some i => i :: Kzf2.lastOn n k g a f (m - 2 ^ i)).length ≤ _
      split
      · simp
      · simp only [List.length_cons]
        have := ih (m - 2 ^ ‹Nat›)
        omega
  exact key n _

/-! ### depth -/
theorem knows_self (g : Net) (i : Nat) : knows g i i = false := by
  unfold knows
  simp
theorem among_lt {n : Nat} {g : Net} {m i : Nat} (hi : i < n) : Kzf2.among n g m i < n := by
  unfold Kzf2.among
  have h1 : ((List.range n).filter fun j => has m j && knows g i j).length ≤ ((List.range n).filter fun j => decide (j ≠ i)).length := by
    have : ∀ l : List Nat, (l.filter fun j => has m j && knows g i j).length ≤ (l.filter fun j => decide (j ≠ i)).length := by
      intro l
      induction l with
      | nil => simp
      | cons x t ih =>
        by_cases c : x = i
        · subst c
          rw [List.filter_cons_of_neg (by rw [knows_self]; simp), List.filter_cons_of_neg (by simp)]
          exact ih
        · rw [List.filter_cons_of_pos (a := x) (p := fun j => decide (j ≠ i)) (by simp [c])]
          have := List.length_filter_le (fun j => has m j && knows g i j) [x]
          by_cases d : (has m x && knows g i x) = true
          · rw [List.filter_cons_of_pos (p := fun j => has m j && knows g i j) d]
            simp only [List.length_cons]
            omega
          · rw [List.filter_cons_of_neg (p := fun j => has m j && knows g i j) d]
            simp only [List.length_cons]
            omega
    exact this _
  have h2 : ((List.range n).filter fun j => decide (j ≠ i)).length < (List.range n).length := by
    apply List.length_filter_lt_length_iff_exists.mpr
    exact ⟨i, List.mem_range.mpr hi, by simp⟩
  rw [List.length_range] at h2
  omega
theorem core_big {n k : Nat} {g : Net} (hn : 1 ≤ n) (hk : n ≤ k) : Kzf2.core n k g 0 = 0 := by
  have r0 : ∀ m, Kzf2.round n k g 0 m = 0 := by
    intro m
    refine has_ext (round_lt _ _ _ _ _) (Nat.two_pow_pos n) fun j hj => ?_
    rw [round_has, has_zero]
    unfold Kzf2.stays
    rw [has_zero]
    have := among_lt (g := g) (m := m) hj
    have : ¬ k ≤ Kzf2.among n g m j := by omega
    simp [this]
  have key : ∀ f m, (f = 0 → m = 0) → (Kzf2.roundsOn n k g 0 f m).2 = 0 := by
    intro f
    induction f with
    | zero => intro m h; exact h rfl
    | succ f ih =>
      intro m h
      show (if Kzf2.round n k g 0 m = m then _ else _ : Nat × Nat).2 = _
      by_cases c : Kzf2.round n k g 0 m = m
      · rw [if_pos c]
        show m = 0
        rw [← c, r0]
      · rw [if_neg c]
        show (Kzf2.roundsOn n k g 0 f (Kzf2.round n k g 0 m)).2 = 0
        exact ih _ fun _ => r0 m
  exact key n _ (by omega)
/-- the program's turn at k -/
def dTurn (n : Nat) (g : Net) (b k : Nat) : Nat := if Kzf2.core n k g 0 ≠ 0 then k else b
/-- what greatest_wish has found behind i turns -/
def dUpTo (n : Nat) (g : Net) (i : Nat) : Nat := (List.range i).foldl (fun b k => dTurn n g b (k + 1)) 0
theorem dUpTo_succ (n : Nat) (g : Net) (i : Nat) : dUpTo n g (i + 1) = dTurn n g (dUpTo n g i) (i + 1) := by
  unfold dUpTo
  rw [List.range_succ, List.foldl_append]
  rfl
theorem depth_is {n : Nat} {g : Net} (hn : 1 ≤ n) (h8 : n ≤ 8) : dUpTo n g 8 = Kzf2.depth n g := by
  have e1 : dUpTo n g 8 = (List.range 9).foldl (dTurn n g) 0 := by
    rw [List.range_succ_eq_map, List.foldl_cons, List.foldl_map]
    have : dTurn n g 0 0 = 0 := by unfold dTurn; split <;> rfl
    rw [this]; rfl
  have e2 : ∀ t, (List.range (n + t)).foldl (dTurn n g) 0 = (List.range n).foldl (dTurn n g) 0 := by
    intro t
    induction t with
    | zero => rfl
    | succ t ih =>
      rw [← Nat.add_assoc, List.range_succ, List.foldl_append, ih]
      show dTurn n g _ (n + t) = _
      unfold dTurn
      rw [core_big hn (by omega)]
      rfl
  rw [e1]
  have := e2 (9 - n)
  rw [show n + (9 - n) = 9 by omega] at this
  rw [this]
  rfl

/-! ### sure -/
def broughtN (n k : Nat) (g : Net) (a i : Nat) : Nat := Kzf2.size n (Kzf2.core n k g (a ||| 2 ^ i))
def bTurn (n k : Nat) (g : Net) (a : Nat) (b : Nat × Nat) (i : Nat) : Nat × Nat := if b.2 < broughtN n k g a i then (i, broughtN n k g a i) else b
def bUpTo (n k : Nat) (g : Net) (a i : Nat) : Nat × Nat := (List.range i).foldl (bTurn n k g a) (0, 0)
theorem bUpTo_one (n k : Nat) (g : Net) (a : Nat) : bUpTo n k g a 1 = (0, broughtN n k g a 0) := by
  show bTurn n k g a (0, 0) 0 = _
  unfold bTurn
  by_cases c : 0 < broughtN n k g a 0
  · exact if_pos c
  · rw [if_neg c]
    have : broughtN n k g a 0 = 0 := by omega
    rw [this]
theorem bUpTo_succ (n k : Nat) (g : Net) (a i : Nat) : bUpTo n k g a (i + 1) = bTurn n k g a (bUpTo n k g a i) i := by
  unfold bUpTo
  rw [List.range_succ, List.foldl_append]
  rfl
theorem best_is (n k : Nat) (g : Net) (a : Nat) : bUpTo n k g a n = Kzf2.bestSure n k g a := by
  unfold bUpTo Kzf2.bestSure
  congr 1
  funext b i
  unfold bTurn broughtN
  rw [or_bit]

/-! ### pairs -/
def evens : List Int → List Int
  | a :: _ :: l => a :: evens l
  | [a] => [a]
  | [] => []
def odds : List Int → List Int
  | _ :: b :: l => b :: odds l
  | _ => []
/-- the pairs of a row -/
def prs : List Int → List (Int × Int)
  | a :: b :: l => (a, b) :: prs l
  | _ => []
theorem zip_prs : ∀ l : List Int, (evens l).zip (odds l) = prs l
  | a :: b :: l => by
    show (a :: evens l).zip (b :: odds l) = (a, b) :: prs l
    rw [List.zip_cons_cons, zip_prs l]
  | [a] => rfl
  | [] => rfl
theorem prs_len : ∀ l : List Int, (prs l).length = l.length / 2
  | a :: b :: l => by
    show (prs l).length + 1 = _
    rw [prs_len l]
    simp only [List.length_cons]
    omega
  | [a] => by simp [prs]
  | [] => rfl
def natsOf (l : List Int) : List Nat := l.map Int.toNat
def toN (p : Int × Int) : Nat × Nat := (p.1.toNat, p.2.toNat)
theorem net_prs : ∀ l : List Int, net (natsOf l) = (prs l).map toN
  | a :: b :: l => by
    show (a.toNat, b.toNat) :: net (natsOf l) = _
    rw [net_prs l]
    rfl
  | [a] => rfl
  | [] => rfl
/-- what is_pair says -/
def okPair (n : Nat) (p : Int × Int) : Bool := decide (p.1 < (n : Int)) && (decide (p.2 < (n : Int)) && !decide (p.1 = p.2))
theorem prs_mem : ∀ {l : List Int} {p : Int × Int}, p ∈ prs l → p.1 ∈ l ∧ p.2 ∈ l
  | a :: b :: l, p, h => by
    rcases List.mem_cons.mp (show p ∈ (a, b) :: prs l from h) with e | e
    · subst e; simp
    · have := prs_mem e
      simp [this]
  | [a], p, h => by simp [prs] at h
  | [], p, h => by simp [prs] at h
theorem okPair_is {n : Nat} {p : Int × Int} (h1 : 0 ≤ p.1) (h2 : 0 ≤ p.2) : okPair n p = (decide ((toN p).1 < n) && decide ((toN p).2 < n) && (toN p).1 != (toN p).2) := by
  unfold okPair toN
  obtain ⟨x, hx⟩ := Int.eq_ofNat_of_zero_le h1
  obtain ⟨y, hy⟩ := Int.eq_ofNat_of_zero_le h2
  rw [hx, hy]
  simp only [Int.toNat_natCast]
  rw [Bool.and_assoc]
  congr 1
  · exact decide_eq_decide.mpr Int.ofNat_lt
  · congr 1
    · exact decide_eq_decide.mpr Int.ofNat_lt
    · rw [bne, show (x == y) = decide (x = y) from (Bool.beq_eq_decide_eq x y), decide_eq_decide.mpr (show ((x : Int) = (y : Int)) ↔ x = y from Int.ofNat_inj)]
/-- whether guests and pairs are as told, in the program's words -/
def told (n : Nat) (l : List Int) : Bool := decide (1 ≤ n) && decide (n ≤ 8) && (decide (l.length % 2 = 0) && decide (l.length ≤ 56) && (prs l).all (okPair n))
theorem all_congr_mem {α : Type} {p q : α → Bool} : ∀ {l : List α}, (∀ a ∈ l, p a = q a) → l.all p = l.all q
  | [], _ => rfl
  | x :: r, h => by
    rw [List.all_cons, List.all_cons, h x List.mem_cons_self, all_congr_mem fun a ha => h a (List.mem_cons_of_mem _ ha)]
theorem good_is {n : Nat} {l : List Int} (h : ∀ x ∈ l, 0 ≤ x) : Kzf2.good n (natsOf l) = told n l := by
  unfold Kzf2.good Kzf1.good okNet told
  rw [net_prs, List.length_map, prs_len, List.all_map]
  have e1 : (natsOf l).length = l.length := List.length_map ..
  rw [e1]
  have e2 : ((fun e : Nat × Nat => decide (e.1 < n) && decide (e.2 < n) && e.1 != e.2) ∘ toN) = fun p : Int × Int => (decide ((toN p).1 < n) && decide ((toN p).2 < n) && (toN p).1 != (toN p).2) := rfl
  have e3 : (prs l).all (okPair n) = (prs l).all fun p => (decide ((toN p).1 < n) && decide ((toN p).2 < n) && (toN p).1 != (toN p).2) := by
    refine all_congr_mem fun p hp => ?_
    obtain ⟨a, b⟩ := prs_mem hp
    exact okPair_is (h _ a) (h _ b)
  rw [e2, e3]
  have e4 : decide (l.length / 2 ≤ 28) = (decide (l.length % 2 = 0 → l.length ≤ 56)) ∨ True := .inr trivial
  cases hz : decide (l.length % 2 = 0) with
  | false => simp
  | true =>
    have hz' := of_decide_eq_true hz
    have e5 : decide (l.length / 2 ≤ 28) = decide (l.length ≤ 56) := decide_eq_decide.mpr (by omega)
    rw [e5]
    cases decide (1 ≤ n) <;> cases decide (n ≤ 8) <;> cases decide (l.length ≤ 56) <;> simp

/-! ### who knows whom -/
def knSet (ks : List Nat) (i x : Nat) : List Nat := ks.set i ((ks.getD i 0) ||| 2 ^ x)
def knTurn (ks : List Nat) (e : Nat × Nat) : List Nat := knSet (knSet ks e.1 e.2) e.2 e.1
def known (n : Nat) (g : Net) : List Nat := g.foldl knTurn (List.replicate n 0)
theorem knSet_len (ks : List Nat) (i x : Nat) : (knSet ks i x).length = ks.length := List.length_set ..
theorem knTurn_len (ks : List Nat) (e : Nat × Nat) : (knTurn ks e).length = ks.length := by unfold knTurn; rw [knSet_len, knSet_len]
theorem known_len (n : Nat) (g : Net) : (known n g).length = n := by
  have : ∀ (g : Net) (ks : List Nat), (g.foldl knTurn ks).length = ks.length := by
    intro g
    induction g with
    | nil => intro ks; rfl
    | cons e r ih => intro ks; rw [List.foldl_cons, ih, knTurn_len]
  unfold known
  rw [this, List.length_replicate]
theorem knSet_has {ks : List Nat} {i x j y : Nat} (hi : i < ks.length) : has ((knSet ks i x).getD j 0) y = (has (ks.getD j 0) y || (decide (i = j) && decide (x = y))) := by
  unfold knSet
  simp only [List.getD_eq_getElem?_getD]
  by_cases c : i = j
  · subst c
    rw [List.getElem?_set_self hi]
    simp only [Option.getD_some]
    rw [has_or, has_one]
    simp
  · rw [List.getElem?_set_ne c]
    simp [c]
theorem known_has {n : Nat} : ∀ (g : Net) (ks : List Nat), ks.length = n → (∀ e ∈ g, e.1 < n ∧ e.2 < n) → ∀ i j, has ((g.foldl knTurn ks).getD i 0) j = (has (ks.getD i 0) j || g.any fun e => (e.1 == i && e.2 == j) || (e.1 == j && e.2 == i))
  | [], ks, _, _, i, j => by simp
  | e :: r, ks, hl, hv, i, j => by
    obtain ⟨h1, h2⟩ := hv e List.mem_cons_self
    rw [List.foldl_cons, known_has r (knTurn ks e) (by rw [knTurn_len, hl]) (fun x hx => hv x (List.mem_cons_of_mem _ hx)) i j]
    unfold knTurn
    rw [knSet_has (by rw [knSet_len, hl]; exact h2), knSet_has (by rw [hl]; exact h1), List.any_cons, Bool.or_assoc, Bool.or_assoc]
    congr 1
    rw [← Bool.or_assoc]
    congr 1
    have d : ∀ a b : Nat, decide (a = b) = (a == b) := fun a b => by
      by_cases c : a = b
      · subst c; simp
      · simp [c]
    rw [d, d, d, d, Bool.and_comm (e.2 == i)]
theorem known_ok {n : Nat} {g : Net} (h : ∀ e ∈ g, e.1 < n ∧ e.2 < n ∧ e.1 ≠ e.2) : KnowsOk n g (known n g) := by
  refine ⟨known_len n g, fun i hi => ?_⟩
  refine ⟨(known n g).getD i 0, ?_, fun j _ => ?_⟩
  · rw [List.getD_eq_getElem?_getD, List.getElem?_eq_getElem (by rw [known_len]; exact hi)]
    rfl
  · unfold known
    rw [known_has (n := n) g _ List.length_replicate (fun e he => ⟨(h e he).1, (h e he).2.1⟩)]
    have z : has ((List.replicate n 0).getD i 0) j = false := by
      rw [List.getD_eq_getElem?_getD, List.getElem?_replicate]
      split <;> exact has_zero j
    rw [z, Bool.false_or]
    unfold knows
    by_cases c : i = j
    · subst c
      rw [show (i != i) = false by simp, Bool.false_and]
      apply List.any_eq_false.mpr
      intro e he
      have := (h e he).2.2
      simp only [Bool.or_self, Bool.and_eq_true, beq_iff_eq]
      intro y
      exact this (y.1.trans y.2.symm)
    · rw [show (i != j) = true by simp [c], Bool.true_and]
/-! ### what is due -/
theorem due_test {n k b : Nat} {ns : List Int} (h : ∀ x ∈ ns, 0 ≤ x) : (Kzf2.good n (natsOf ns) = false ∨ 8 < k ∨ 2 ^ n ≤ b) ↔ (told n ns && (decide (k ≤ 8) && decide (b < 2 ^ n))) = false := by
  rw [good_is h]
  cases told n ns with
  | false => simp
  | true =>
    simp only [Bool.true_and, Bool.and_eq_false_iff, decide_eq_false_iff_not, Nat.not_le, Nat.not_lt]
    constructor
    · rintro (z | z)
      · cases z
      · exact z
    · exact .inr
theorem comes_is {n k b : Nat} {ns : List Int} (h : ∀ x ∈ ns, 0 ≤ x) : PyKzf2.comes n k b ns = if (told n ns && (decide (k ≤ 8) && decide (b < 2 ^ n))) = true then
    [(Kzf2.size n (Kzf2.core n k (net (natsOf ns)) b) : Int), (Kzf2.core n k (net (natsOf ns)) b : Int), ((Kzf2.rounds n k (net (natsOf ns)) b).1 : Int)] else [-22] := by
  have e : PyKzf2.comes n k b ns = (Kzf2.answer (.comes n k b (natsOf ns))).value :: Kzf2Neutral.ints (Kzf2.answer (.comes n k b (natsOf ns))).nums := rfl
  rw [e]
  show (if Kzf2.good n (natsOf ns) = false ∨ 8 < k ∨ 2 ^ n ≤ b then Kzf1.say (-22) else _ : Kzf1.Ans).value :: Kzf2Neutral.ints (if Kzf2.good n (natsOf ns) = false ∨ 8 < k ∨ 2 ^ n ≤ b then Kzf1.say (-22) else _ : Kzf1.Ans).nums = _
  cases c : (told n ns && (decide (k ≤ 8) && decide (b < 2 ^ n))) with
  | false =>
    rw [if_pos ((due_test h).mpr c), if_neg (by decide)]
    rfl
  | true =>
    rw [if_neg (fun z => by have := (due_test h).mp z; rw [c] at this; cases this), if_pos rfl]
    rfl
theorem cancels_is {n k b : Nat} {ns : List Int} (h : ∀ x ∈ ns, 0 ≤ x) : PyKzf2.cancels n k b ns = if (told n ns && (decide (k ≤ 8) && decide (b < 2 ^ n))) = true then
    ((Kzf2.cancels n k (net (natsOf ns)) b).length : Int) :: (Kzf2.cancels n k (net (natsOf ns)) b).map (fun (x : Nat) => (x : Int)) else [-22] := by
  have e : PyKzf2.cancels n k b ns = (Kzf2.answer (.cancels n k b (natsOf ns))).value :: Kzf2Neutral.ints (Kzf2.answer (.cancels n k b (natsOf ns))).nums := rfl
  rw [e]
  show (if Kzf2.good n (natsOf ns) = false ∨ 8 < k ∨ 2 ^ n ≤ b then Kzf1.say (-22) else _ : Kzf1.Ans).value :: Kzf2Neutral.ints (if Kzf2.good n (natsOf ns) = false ∨ 8 < k ∨ 2 ^ n ≤ b then Kzf1.say (-22) else _ : Kzf1.Ans).nums = _
  cases c : (told n ns && (decide (k ≤ 8) && decide (b < 2 ^ n))) with
  | false =>
    rw [if_pos ((due_test h).mpr c), if_neg (by decide)]
    rfl
  | true =>
    rw [if_neg (fun z => by have := (due_test h).mp z; rw [c] at this; cases this), if_pos rfl]
    rfl
theorem sure_is {n k b : Nat} {ns : List Int} (h : ∀ x ∈ ns, 0 ≤ x) : PyKzf2.sure n k b ns = if (told n ns && (decide (k ≤ 8) && decide (b < 2 ^ n))) = true then
    [((Kzf2.bestSure n k (net (natsOf ns)) b).1 : Int), ((Kzf2.bestSure n k (net (natsOf ns)) b).2 : Int)] else [-22] := by
  have e : PyKzf2.sure n k b ns = (Kzf2.answer (.sure n k b (natsOf ns))).value :: Kzf2Neutral.ints (Kzf2.answer (.sure n k b (natsOf ns))).nums := rfl
  rw [e]
  show (if Kzf2.good n (natsOf ns) = false ∨ 8 < k ∨ 2 ^ n ≤ b then Kzf1.say (-22) else _ : Kzf1.Ans).value :: Kzf2Neutral.ints (if Kzf2.good n (natsOf ns) = false ∨ 8 < k ∨ 2 ^ n ≤ b then Kzf1.say (-22) else _ : Kzf1.Ans).nums = _
  cases c : (told n ns && (decide (k ≤ 8) && decide (b < 2 ^ n))) with
  | false =>
    rw [if_pos ((due_test h).mpr c), if_neg (by decide)]
    rfl
  | true =>
    rw [if_neg (fun z => by have := (due_test h).mp z; rw [c] at this; cases this), if_pos rfl]
    rfl
theorem depth_due {n : Nat} {ns : List Int} (h : ∀ x ∈ ns, 0 ≤ x) : PyKzf2.depth n ns = if told n ns = true then
    [(Kzf2.depth n (net (natsOf ns)) : Int), (Kzf2.core n (Kzf2.depth n (net (natsOf ns))) (net (natsOf ns)) 0 : Int)] else [-22] := by
  have e : PyKzf2.depth n ns = (Kzf2.answer (.depth n (natsOf ns))).value :: Kzf2Neutral.ints (Kzf2.answer (.depth n (natsOf ns))).nums := rfl
  rw [e]
  show (if Kzf2.good n (natsOf ns) = false then Kzf1.say (-22) else _ : Kzf1.Ans).value :: Kzf2Neutral.ints (if Kzf2.good n (natsOf ns) = false then Kzf1.say (-22) else _ : Kzf1.Ans).nums = _
  rw [good_is h]
  cases c : told n ns with
  | false =>
    rw [if_pos rfl, if_neg (by decide)]
    rfl
  | true =>
    rw [if_neg (by decide), if_pos rfl]
    rfl
/-- of what is told: at least one guest, an even row, each pair in order -/
theorem told_parts {n : Nat} {ns : List Int} (h : told n ns = true) : 1 ≤ n ∧ n ≤ 8 ∧ ns.length % 2 = 0 ∧ (prs ns).all (okPair n) = true := by
  unfold told at h
  simp only [Bool.and_eq_true, decide_eq_true_eq] at h
  exact ⟨h.1.1, h.1.2, h.2.1.1, h.2.2⟩
theorem told_known {n : Nat} {ns : List Int} (h0 : ∀ x ∈ ns, 0 ≤ x) (h : (prs ns).all (okPair n) = true) : KnowsOk n (net (natsOf ns)) (known n (net (natsOf ns))) := by
  refine known_ok fun e he => ?_
  rw [net_prs] at he
  obtain ⟨p, hp, rfl⟩ := List.mem_map.mp he
  obtain ⟨a, b⟩ := prs_mem hp
  have h1 := List.all_eq_true.mp h p hp
  rw [okPair_is (h0 _ a) (h0 _ b)] at h1
  simp only [Bool.and_eq_true, decide_eq_true_eq, bne_iff_ne] at h1
  exact ⟨h1.1.1, h1.1.2, h1.2⟩
end Wc
/-! Two rules that the layer lacks: a list's slice by a step of two, list(zip(xs, ys)). -/
namespace WcR
open PySem PySem.Spec PyProof.Rows L2

/-! ### xs[i::2], i 0 or 1 -/
def ev {α : Type} : List α → List α
  | a :: _ :: l => a :: ev l
  | [a] => [a]
  | [] => []
def od {α : Type} : List α → List α
  | _ :: b :: l => b :: od l
  | _ => []
theorem ev_len {α : Type} : ∀ l : List α, (ev l).length = (l.length + 1) / 2
  | a :: b :: l => by
    show (ev l).length + 1 = _
    rw [ev_len l]
    simp only [List.length_cons]
    omega
  | [a] => by simp [ev]
  | [] => by simp [ev]
theorem od_len {α : Type} : ∀ l : List α, (od l).length = l.length / 2
  | a :: b :: l => by
    show (od l).length + 1 = _
    rw [od_len l]
    simp only [List.length_cons]
    omega
  | [a] => by simp [od]
  | [] => by simp [od]
theorem ev_vals : ∀ {xs : List V} {us : List Value}, Vals xs us → Vals (ev xs) (ev us)
  | _, _, .nil => .nil
  | _, _, .cons r .nil => .cons r .nil
  | _, _, .cons r (.cons _ t) => .cons r (ev_vals t)
theorem od_vals : ∀ {xs : List V} {us : List Value}, Vals xs us → Vals (od xs) (od us)
  | _, _, .nil => .nil
  | _, _, .cons _ .nil => .nil
  | _, _, .cons _ (.cons r t) => .cons r (od_vals t)
theorem ev_map {α β : Type} (f : α → β) : ∀ l : List α, ev (l.map f) = (ev l).map f
  | a :: b :: l => by
    show f a :: ev (l.map f) = f a :: (ev l).map f
    rw [ev_map f l]
  | [a] => rfl
  | [] => rfl
theorem od_map {α β : Type} (f : α → β) : ∀ l : List α, od (l.map f) = (od l).map f
  | a :: b :: l => by
    show f b :: od (l.map f) = f b :: (od l).map f
    rw [od_map f l]
  | [a] => rfl
  | [] => rfl
theorem range_ev {α : Type} : ∀ l : List α, ((List.range ((l.length + 1) / 2)).map fun k => 2 * k).filterMap (l[·]?) = ev l
  | a :: b :: l => by
    have e : ((a :: b :: l).length + 1) / 2 = (l.length + 1) / 2 + 1 := by simp only [List.length_cons]; omega
    rw [e, List.range_succ_eq_map, List.map_cons, List.map_map, List.filterMap_cons]
    show a :: _ = a :: ev l
    rw [← range_ev l, List.filterMap_map, List.filterMap_map]
    congr 1
  | [a] => by simp [ev]
  | [] => by simp [ev]
theorem range_od {α : Type} : ∀ l : List α, ((List.range (l.length / 2)).map fun k => 1 + 2 * k).filterMap (l[·]?) = od l
  | a :: b :: l => by
    have e : (a :: b :: l).length / 2 = l.length / 2 + 1 := by simp only [List.length_cons]; omega
    rw [e, List.range_succ_eq_map, List.map_cons, List.map_map, List.filterMap_cons]
    show b :: _ = b :: od l
    rw [← range_od l, List.filterMap_map, List.filterMap_map]
    congr 1
  | [a] => by simp [od]
  | [] => by simp [od]
theorem pick_ev (l : List Value) : slicePick l.toArray (some 0) none (some 2) = (ev l).toArray := by
  unfold slicePick
  have hb : sliceBounds (some 0) none (some 2) l.toArray.size = ((0 : Int), (l.length : Int), (2 : Int)) := by
    simp only [sliceBounds, Option.getD_some, List.size_toArray]
    simp
    omega
  rw [hb]
  unfold sliceRange
  rw [← range_ev l]
  have hc : (if (2 : Int) > 0 then (if (0 : Int) < (l.length : Int) then ((l.length : Int) - 0 + 2 - 1) / 2 else 0) else (if (0 : Int) > (l.length : Int) then ((0 : Int) - (l.length : Int) - 2 - 1) / (-2) else 0)).toNat = (l.length + 1) / 2 := by
    rw [if_pos (by decide)]
    split <;> omega
  simp only [hc]
  congr 2
  · funext i
    simp
  · apply List.map_congr_left
    intro k _
    omega
theorem pick_od (l : List Value) : slicePick l.toArray (some 1) none (some 2) = (od l).toArray := by
  unfold slicePick
  have hb : sliceBounds (some 1) none (some 2) l.toArray.size = (max 0 (min 1 (l.length : Int)), (l.length : Int), (2 : Int)) := by
    simp only [sliceBounds, Option.getD_some, List.size_toArray]
    simp
  rw [hb]
  unfold sliceRange
  rw [← range_od l]
  have hc : (if (2 : Int) > 0 then (if max 0 (min 1 (l.length : Int)) < (l.length : Int) then ((l.length : Int) - max 0 (min 1 (l.length : Int)) + 2 - 1) / 2 else 0) else (if max 0 (min 1 (l.length : Int)) > (l.length : Int) then (max 0 (min 1 (l.length : Int)) - (l.length : Int) - 2 - 1) / (-2) else 0)).toNat = l.length / 2 := by
    rw [if_pos (by decide)]
    split <;> omega
  simp only [hc]
  congr 2
  · funext i
    simp
  · apply List.map_congr_left
    intro k hk
    have := List.mem_range.mp hk
    omega
/-- xs[i::e], the step's value 2: what pick picks -/
def tBy2 (K : PySem.W.Frag) (pick : List V → List V) (te ts : TE) : TE := fun σ H Q => te σ H fun x H1 => ts σ H1 fun y H2 => y = .int 2 ∧ ∃ a xs, x = .ref a ∧ SqL K H2 a xs ∧ ∀ p, H2 p = none → Q (.ref p) (upd H2 p (.lst (pick xs)))
abbrev tEvL (K : PySem.W.Frag) : TE → TE → TE := tBy2 K ev
abbrev tOdL (K : PySem.W.Frag) : TE → TE → TE := tBy2 K od
section
variable {X : Cx}
theorem pe_by2 {e : Expr} {te ts : TE} {i : Int} {k : Nat} {y : Str} {p1 p2 p3 pos : Pos} {pick : List V → List V} {vpick : List Value → List Value} (hpick : ∀ l : List Value, slicePick l.toArray (some i) none (some 2) = (vpick l).toArray)
    (hvals : ∀ {xs : List V} {us : List Value}, Vals xs us → Vals (pick xs) (vpick us)) (hshort : ∀ l : List V, (pick l).length ≤ l.length) (he : PE X e te) (hs : PE X (.Name y p2) ts) :
    PE X (.Subscript e (.Slice (some (.Constant (.int i) k p1)) none (some (.Name y p2)) p3) pos) (tBy2 X.K pick te ts) := by
  have first : PO X (some (.Constant (.int i) k p1)) (tPart (tC (.int i))) := po_some pe_int
  constructor
  intro pins s σ H Q I h
  apply Subscript_
  refine thn (he.run pins s σ H _ I h) fun ov s1 ⟨x, H1, J1, rx, q1⟩ => wpAny_Slice ?_
  refine thn (first.run pins s1 σ H1 (fun o H2 => o = some i ∧ H2 = H1) J1 ⟨i, rfl, rfl, rfl⟩) fun vlo s2 ⟨lo, H2, J2, plo, elo, eH⟩ => ?_
  subst elo eH
  refine thn (po_none.run pins s2 σ H2 (fun o H3 => o = none ∧ H3 = H2) J2 ⟨rfl, rfl⟩) fun vhi s3 ⟨hi, H3, J3, phi, ehi, eH⟩ => ?_
  subst ehi eH
  rw [evalPart_some]
  refine thn (hs.run pins s3 σ H3 _ J3 q1) fun vst s4 ⟨z, H4, J4, rz, ez, a, xs, ex, hx, q⟩ => ?_
  subst ez ex
  cases rx
  obtain ⟨tk, rfl⟩ := rz
  -- the slice object is laid, untracked
  have J5 : Inv X pins σ H4 { s4 with heap := s4.heap.push { cls := .type "slice", data := .fields #[vlo, vhi, .int 2 tk] } } := J4.kept (t' := s4.toks) fun _ ob q => Heap.get?_push_of_some _ q
  obtain ⟨its, rv, pl, hz⟩ := J5.list hx
  have hl := rv.length
  have room : its.toArray.size ≤ sizeLine := by
    rw [List.size_toArray, ← hl]
    exact hz
  refine tail_any (ops := [.ref a, .ref s4.heap.objs.size]) pl.isList.typeIs PySem.slot_list_getitem.lookup
    (wpAny_getItem_list_slice pl.isList (Heap.IsSliceOf.new _ vlo vhi (.int 2 tk)) plo phi (.int 2 tk) (by decide) ?_ room) (by with_unfolding_all rfl)
  rw [hpick]
  have new : ∀ (H' : Hp) (h' : Heap) (b : Addr), h'.get? b = some { cls := .type "list", data := .seq (vpick its).toArray } → ObjOk X.prog X.w H' h' b (.lst (pick xs)) := fun _ _ _ eh => ⟨Nat.le_trans (hshort xs) hz, _, 0, hvals rv, eh⟩
  exact ⟨.ref _, _, J5.laid (t' := s4.toks) (fun _ ob q => Heap.get?_push_of_some _ q) (Nat.le_refl _) (new _ _ _ (Heap.get?_push_size _ rfl)), rfl, q _ (J5.hok.fresh (Nat.le_refl _))⟩
theorem pe_evL {e : Expr} {te ts : TE} {k : Nat} {y : Str} {p1 p2 p3 pos : Pos} (he : PE X e te) (hs : PE X (.Name y p2) ts) : PE X (.Subscript e (.Slice (some (.Constant (.int 0) k p1)) none (some (.Name y p2)) p3) pos) (tEvL X.K te ts) :=
  pe_by2 pick_ev ev_vals (fun l => by rw [ev_len]; omega) he hs
theorem pe_odL {e : Expr} {te ts : TE} {k : Nat} {y : Str} {p1 p2 p3 pos : Pos} (he : PE X e te) (hs : PE X (.Name y p2) ts) : PE X (.Subscript e (.Slice (some (.Constant (.int 1) k p1)) none (some (.Name y p2)) p3) pos) (tOdL X.K te ts) :=
  pe_by2 pick_od od_vals (fun l => by rw [od_len]; omega) he hs
end
end WcR
namespace WcR
open PySem PySem.Spec PyProof.Rows L2

/-! ### list(zip(xs, ys)) -/
theorem zip_no_len : typeLookup (.type "zip") "__len__" = pure none := am_miss_of_fast (by decide +kernel)
theorem zip_no_hint : typeLookup (.type "zip") "__length_hint__" = pure none := am_miss_of_fast (by decide +kernel)
/-- at each of ps a pair: those of zs -/
def PrsAt (H : Hp) (ps : List Addr) (zs : List (V × V)) : Prop := ps.length = zs.length ∧ ∀ (i : Nat) (p : Addr) (z : V × V), ps[i]? = some p → zs[i]? = some z → H p = some (.tup [z.1, z.2])
theorem PrsAt.same {H H' : Hp} {ps : List Addr} {zs : List (V × V)} (h : PrsAt H ps zs) (s : Same H H') : PrsAt H' ps zs := ⟨h.1, fun i p z a b => s _ _ (h.2 i p z a b)⟩
theorem PrsAt.nil (H : Hp) : PrsAt H [] [] := ⟨rfl, fun i p z a _ => by simp at a⟩
theorem PrsAt.push {H : Hp} {ps : List Addr} {zs : List (V × V)} {p : Addr} {z : V × V} (h : PrsAt H ps zs) (e : H p = some (.tup [z.1, z.2])) : PrsAt H (ps ++ [p]) (zs ++ [z]) := by
  refine ⟨by rw [List.length_append, List.length_append, h.1]; rfl, fun i p' z' a b => ?_⟩
  by_cases c : i < ps.length
  · rw [List.getElem?_append_left c] at a
    rw [List.getElem?_append_left (by rw [← h.1]; exact c)] at b
    exact h.2 i p' z' a b
  · rw [List.getElem?_append_right (by omega)] at a
    rw [List.getElem?_append_right (by rw [← h.1]; omega), ← h.1] at b
    have ei : i - ps.length = 0 := by
      have := (List.getElem?_eq_some_iff.mp a).1
      simp at this
      omega
    rw [ei] at a b
    have e1 : p = p' := Option.some.inj a
    have e2 : z = z' := Option.some.inj b
    rw [← e1, ← e2]
    exact e
/-- the zip's own objects -/
abbrev zOwn (z TI TO i1 i2 : Addr) : List Addr := [z, TI, TO, i1, i2]
theorem zOwn_all {p : Addr → Prop} {z TI TO i1 i2 : Addr} (h1 : p z) (h2 : p TI) (h3 : p TO) (h4 : p i1) (h5 : p i2) : ∀ c ∈ zOwn z TI TO i1 i2, p c := by
  simp only [zOwn, List.mem_cons, List.not_mem_nil, or_false]
  rintro c (rfl | rfl | rfl | rfl | rfl) <;> assumption
theorem zOwn_off {z TI TO i1 i2 c : Addr} (h : c ∉ zOwn z TI TO i1 i2) : c ≠ z ∧ c ≠ TO ∧ c ≠ i1 ∧ c ≠ i2 := by
  simp only [zOwn, List.mem_cons, List.not_mem_nil, or_false, not_or] at h
  exact ⟨h.1, h.2.2.1, h.2.2.2.1, h.2.2.2.2⟩
/-- a zip over the lists at a and b, i turns gone; what it gave out last is still there (or nothing was given out) -/
structure StZ (z TI TO i1 i2 a b : Addr) (i : Nat) (h : Heap) (H : Hp) : Prop where
  ti : IsPair h TI (.ref i1) (.ref i2)
  l1 : h.IsListIter i1 a i
  l2 : h.IsListIter i2 b i
  to : ∃ x y, IsPair h TO x y
  zip : IsZip h z TI TO .none ∨ ∃ T f u, IsZipHeld h z TI TO T f ∧ H T = some (.tup u)
theorem StZ.lt {z TI TO i1 i2 a b : Addr} {i : Nat} {h : Heap} {H : Hp} (st : StZ z TI TO i1 i2 a b i h H) : ∀ c ∈ zOwn z TI TO i1 i2, c < h.objs.size := by
  obtain ⟨ti, ⟨_, e1, _⟩, ⟨_, e2, _⟩, ⟨_, _, to⟩, zz⟩ := st
  refine zOwn_all ?_ (Heap.lt_size ti) (Heap.lt_size to) (Heap.lt_size e1) (Heap.lt_size e2)
  rcases zz with w0 | ⟨_, _, _, w0, _⟩ <;> exact Heap.lt_size w0
/-- it stands where its objects are kept, and where what is tracked is kept -/
theorem StZ.keep {z TI TO i1 i2 a b : Addr} {i : Nat} {h h' : Heap} {H H' : Hp} (st : StZ z TI TO i1 i2 a b i h H) (k : ∀ c ∈ zOwn z TI TO i1 i2, ∀ o, h.get? c = some o → h'.get? c = some o) (s : Same H H') : StZ z TI TO i1 i2 a b i h' H' := by
  obtain ⟨ti, w1, w2, ⟨x, y, to⟩, zz⟩ := st
  refine ⟨k _ (by simp) _ ti, w1.at fun o => k _ (by simp) o, w2.at fun o => k _ (by simp) o, ⟨x, y, k _ (by simp) _ to⟩, ?_⟩
  rcases zz with w0 | ⟨T, f, u, w0, w3⟩
  · exact .inl (k _ (by simp) _ w0)
  · exact .inr ⟨T, f, u, k _ (by simp) _ w0, s _ _ w3⟩
theorem zip_take {α β : Type} {xs : List α} {ys : List β} {i : Nat} {x : α} {y : β} (hx : xs[i]? = some x) (hy : ys[i]? = some y) : (xs.zip ys).take (i + 1) = (xs.zip ys).take i ++ [(x, y)] := by
  have : (xs.zip ys)[i]? = some (x, y) := List.getElem?_zip_eq_some.mpr ⟨hx, hy⟩
  rw [List.take_add_one, this]
  rfl
theorem free_upd {H : Hp} {p : Addr} {o : HO} (h : H p = none) : Same H (upd H p o) := fun b x e => by
  rw [upd_ne (ne_of_none e h)]
  exact e
section
variable {X : Cx} {pins : List (Addr × Obj)} {σ : L2.St}
/-- the zip's next pair: a new tuple, tracked -/
theorem zip_next {z TI TO i1 i2 a b : Addr} {i : Nat} {xs ys : List V} {x y : V} {A1 : Around} {E : Value → Shared → Prop} {R : Option Value → Shared → Prop} {H : Hp} {s : Shared} (D : ZipApart z TI TO i1 i2 a b) (I : Inv X pins σ H s) (hf : ∀ c ∈ zOwn z TI TO i1 i2, FpOk X pins H c)
    (st : StZ z TI TO i1 i2 a b i s.heap H) (qa : SqL X.K H a xs) (qb : SqL X.K H b ys) (hx : xs[i]? = some x) (hy : ys[i]? = some y)
    (go : ∀ h' : Heap, Inv X pins σ (upd H s.heap.objs.size (.tup [x, y])) { s with heap := h' } → StZ z TI TO i1 i2 a b (i + 1) h' (upd H s.heap.objs.size (.tup [x, y])) → R (some (.ref s.heap.objs.size)) { s with heap := h' }) :
    wpAny (model X.prog X.w) A1 (pyNext (.ref z)) R E s := by
  obtain ⟨ti, w1, w2, ⟨x0, y0, to⟩, zz⟩ := st
  obtain ⟨us, va, pa, _⟩ := I.list qa
  obtain ⟨ws, vb, pb, _⟩ := I.list qb
  obtain ⟨u, eu, ru⟩ := va.get hx
  obtain ⟨v, ew, rv⟩ := vb.get hy
  have eu' : us.toArray[i]? = some u := by simpa using eu
  have ew' : ws.toArray[i]? = some v := by simpa using ew
  have fresh := I.hok.fresh (Nat.le_refl s.heap.objs.size)
  have track : ∀ h' : Heap, IsPair h' s.heap.objs.size u v → (∀ c o, c ∉ zOwn z TI TO i1 i2 → s.heap.get? c = some o → h'.get? c = some o) → Inv X pins σ (upd H s.heap.objs.size (.tup [x, y])) { s with heap := h' } := fun h' ep kp =>
    I.turnedNew (t' := s.toks) (ch := zOwn z TI TO i1 i2) kp hf (Nat.le_refl _) ⟨(by decide : 2 ≤ sizeLine), [u, v], .cons ru (.cons rv .nil), _, ep, rfl, 0, rfl⟩
  rcases zz with w0 | ⟨T, f, t, w0, hT⟩
  · refine wpAny_pyNext_zip_item D w0 ti to w1 w2 pa.isList pb.isList eu' ew' fun h' k1 k2 k3 k4 k5 _ kp => go h' (track h' k5 fun c o n e => ?_) ⟨kp _ _ D.TIz D.TITO D.TIi1 D.TIi2 ti, k3, k4, ⟨_, _, k2⟩, .inr ⟨_, false, _, k1, upd_same⟩⟩
    obtain ⟨n1, n2, n3, n4⟩ := zOwn_off n
    exact kp c o n1 n2 n3 n4 e
  · obtain ⟨_, _, _, oT, atT, _⟩ := I.hok T _ hT
    refine wpAny_pyNext_zip_item_held D w0 atT ti w1 w2 pa.isList pb.isList eu' ew' fun h' k1 k3 k4 k5 _ kp => go h' (track h' k5 fun c o n e => ?_) ⟨kp _ _ D.TIz D.TIi1 D.TIi2 ti, k3, k4, ⟨_, _, kp _ _ D.TOz D.TOi1 D.TOi2 to⟩, .inr ⟨T, true, t, k1, free_upd fresh _ _ hT⟩⟩
    obtain ⟨n1, _, n3, n4⟩ := zOwn_off n
    exact kp c o n1 n3 n4 e
/-- the zip is at its end -/
theorem zip_over {z TI TO i1 i2 a b : Addr} {xs ys : List V} {A1 : Around} {E : Value → Shared → Prop} {R : Option Value → Shared → Prop} {H : Hp} {s : Shared} (hA : A1.handled = none) (D : ZipApart z TI TO i1 i2 a b) (I : Inv X pins σ H s) (hf : ∀ c ∈ zOwn z TI TO i1 i2, FpOk X pins H c)
    (st : StZ z TI TO i1 i2 a b xs.length s.heap H) (qa : SqL X.K H a xs) (qb : SqL X.K H b ys) (done : ∀ h' : Heap, Inv X pins σ H { s with heap := h' } → R none { s with heap := h' }) :
    wpAny (model X.prog X.w) A1 (pyNext (.ref z)) R E s := by
  obtain ⟨ti, w1, w2, ⟨x0, y0, to⟩, zz⟩ := st
  obtain ⟨us, va, pa, _⟩ := I.list qa
  obtain ⟨ws, vb, pb, _⟩ := I.list qb
  have last : us.toArray[xs.length]? = none ∨ ws.toArray[xs.length]? = none := .inl (by simp [va.length])
  rcases zz with w0 | ⟨T, f, t, w0, hT⟩
  · refine wpAny_pyNext_zip_end hA D w0 ti to w1 w2 pa.isList pb.isList last fun h' kp => done h' (I.turnedL (t' := s.toks) (ch := zOwn z TI TO i1 i2) (fun c o n e => ?_) hf)
    obtain ⟨n1, n2, n3, n4⟩ := zOwn_off n
    exact kp c o n1 n2 n3 n4 e
  · obtain ⟨_, _, _, oT, atT, _⟩ := I.hok T _ hT
    refine wpAny_pyNext_zip_end_held hA D w0 atT ti w1 w2 pa.isList pb.isList last fun h' kp => done h' (I.turnedL (t' := s.toks) (ch := zOwn z TI TO i1 i2) (fun c o n e => ?_) hf)
    obtain ⟨n1, _, n3, n4⟩ := zOwn_off n
    exact kp c o n1 n3 n4 e
/-- list.extend over a zip: ps are the pairs that stand in the list at S so far -/
theorem zip_loop {z TI TO i1 i2 a b S : Addr} {xs ys : List V} {H0 : Hp} {A1 : Around} {Rs : Result → Shared → Prop} (hA : A1.in1.handled = none) (D : ZipApart z TI TO i1 i2 a b) (same : xs.length = ys.length) (room : xs.length < sizeLine) (h0 : H0 S = none)
    (qa : SqL X.K H0 a xs) (qb : SqL X.K H0 b ys)
    (hdone : ∀ ps H s, Inv X pins σ H s → Same H0 H → H S = some (.lst (ps.map V.ref)) → PrsAt H ps (xs.zip ys) → Rs (.ok (.ret .none)) s) :
    ∀ (k i : Nat) (ps : List Addr) (H : Hp) (s : Shared), xs.length - i = k → i ≤ xs.length → Inv X pins σ H s → (∀ c ∈ zOwn z TI TO i1 i2, FpOk X pins H c) → StZ z TI TO i1 i2 a b i s.heap H → Same H0 H → H S = some (.lst (ps.map V.ref)) → PrsAt H ps ((xs.zip ys).take i) →
      codeAny (model X.prog X.w) A1 (.builtin "list.extend.loop" ⟨[.ref S, .ref z, .none], []⟩) Rs s := by
  intro k
  induction k with
  | zero =>
    intro i ps H s hk hi I hf st sm atS hp
    obtain rfl : i = xs.length := by omega
    rw [List.take_of_length_le (by rw [List.length_zip]; omega)] at hp
    apply codeAny_builtin PySem.F.entry_extend_loop
    rw [Around.under_plainId PySem.F.plain_extend_loop]
    exact wpAny_bind (zip_over hA D I hf st (sm.seq qa) (sm.seq qb) fun h' J => wpAny_pure (hdone ps H _ J sm atS hp))
  | succ k ih =>
    intro i ps H s hk hi I hf st sm atS hp
    have lx : i < xs.length := by omega
    have ly : i < ys.length := by omega
    have gx := List.getElem?_eq_getElem lx
    have gy := List.getElem?_eq_getElem ly
    have own := st.lt
    apply codeAny_builtin PySem.F.entry_extend_loop
    rw [Around.under_plainId PySem.F.plain_extend_loop]
    have nT : H s.heap.objs.size = none := I.hok.fresh (Nat.le_refl _)
    refine wpAny_bind (zip_next D I hf st (sm.seq qa) (sm.seq qb) gx gy fun h' J st' => ?_)
    generalize s.heap.objs.size = T at own nT J st'
    have sT : Same H (upd H T (.tup [xs[i], ys[i]])) := free_upd nT
    have hps : (ps.map V.ref).length = i := by
      have := hp.1
      rw [List.length_take, List.length_zip] at this
      rw [List.length_map]
      omega
    obtain ⟨_, its, n, rS, lS, eS⟩ := J.lstM (sT _ _ atS)
    have J2 := J.lset (its' := its ++ [.ref T]) (ys := (ps ++ [T]).map V.ref) (f := (·.push (.ref T))) (t' := s.toks) (sT _ _ atS) eS (by simp) (by rw [List.map_append]; exact rS.append (.cons (show L2.RelV (V.ref T) (Value.ref T) from rfl) .nil)) (by rw [List.length_map, List.length_append]; simp at hps ⊢; omega)
    have nS : ∀ c ∈ zOwn z TI TO i1 i2, c ≠ S := fun c hc e => by
      have free := (hf c hc).1
      rw [e, atS] at free
      cases free
    have nTS : S ≠ T := ne_of_none atS nT
    have tups : ∀ c u, upd H T (.tup [xs[i], ys[i]]) c = some (.tup u) → upd (upd H T (.tup [xs[i], ys[i]])) S (.lst ((ps ++ [T]).map V.ref)) c = some (.tup u) := fun c u e => by
      rw [upd_ne (fun q => by rw [q, sT _ _ atS] at e; cases e)]
      exact e
    have s0 : Same H0 (upd (upd H T (.tup [xs[i], ys[i]])) S (.lst ((ps ++ [T]).map V.ref))) := fun c o e => by
      rw [upd_ne (ne_of_none e h0)]
      exact sT _ _ (sm _ _ e)
    have at' : ∀ c ∈ zOwn z TI TO i1 i2, ∀ o, h'.get? c = some o → (h'.update S (Obj.mapSeq (·.push (.ref T)))).get? c = some o := fun c hc o e => (Heap.get?_update_other _ _ (nS c hc).symm).trans e
    refine wpAny_bind (wpAny_updateSeq eS rfl (wpAny_pure ⟨plainId_quiet PySem.F.plain_extend_loop _, ?_⟩) (by rw [List.size_toArray]; omega) (by show (its.toArray.push _).size ≤ sizeLine + 1; rw [Array.size_push, List.size_toArray]; omega))
    refine ih (i + 1) (ps ++ [T]) _ _ (by omega) (by omega) J2 (fun c hc => ⟨?_, (hf c hc).2⟩) ?_ s0 upd_same ?_
    · rw [upd_ne (nS c hc), upd_ne (Nat.ne_of_lt (own c hc))]
      exact (hf c hc).1
    · obtain ⟨ti, w1, w2, ⟨x1, y1, to⟩, zz⟩ := st'
      refine ⟨at' _ (by simp) _ ti, w1.at fun o => at' _ (by simp) o, w2.at fun o => at' _ (by simp) o, ⟨x1, y1, at' _ (by simp) _ to⟩, ?_⟩
      rcases zz with w0 | ⟨T', f, u, w0, w3⟩
      · exact .inl (at' _ (by simp) _ w0)
      · exact .inr ⟨T', f, u, at' _ (by simp) _ w0, tups _ _ w3⟩
    · rw [zip_take gx gy]
      exact PrsAt.push ⟨hp.1, fun j q w e1 e2 => tups _ _ (sT _ _ (hp.2 j q w e1 e2))⟩ (tups _ _ upd_same)
/-- the heap with a new empty list; .. emptied once more (list.__init__); .. its room made -/
abbrev newL (h : Heap) : Heap := h.push { cls := .type "list", data := .seq #[] }
abbrev newL0 (h : Heap) : Heap := (newL h).update h.objs.size (Obj.mapSeq fun _ => (#[] : Array Value))
abbrev newL1 (h : Heap) : Heap := ((newL0 h).update h.objs.size (Obj.mapSeq (·.push Value.none))).update h.objs.size (Obj.mapSeq (·.pop))
theorem newL0_other {h : Heap} {c : Addr} {o : Obj} (n : c ≠ h.objs.size) (e : h.get? c = some o) : (newL0 h).get? c = some o := (Heap.get?_update_other _ _ n.symm).trans (Heap.get?_push_of_some _ e)
theorem newL1_other {h : Heap} {c : Addr} {o : Obj} (n : c ≠ h.objs.size) (e : h.get? c = some o) : (newL1 h).get? c = some o := (Heap.get?_update_other _ _ n.symm).trans ((Heap.get?_update_other _ _ n.symm).trans (newL0_other n e))
theorem newL_at (h : Heap) : (newL h).get? h.objs.size = some { cls := .type "list", data := .seq #[] } := Heap.get?_push_size _ rfl
/-- what list.__init__ does with a zip -/
theorem init_zip {z TI TO i1 i2 a b : Addr} {xs ys : List V} {A1 : Around} {Rs : Result → Shared → Prop} {H : Hp} {s : Shared} (hA : A1.in1.handled = none) (D : ZipApart z TI TO i1 i2 a b) (same : xs.length = ys.length) (room : xs.length < sizeLine)
    (I : Inv X pins σ H s) (hf : ∀ c ∈ zOwn z TI TO i1 i2, FpOk X pins H c) (st : StZ z TI TO i1 i2 a b 0 s.heap H) (hz : IsZip s.heap z TI TO .none) (qa : SqL X.K H a xs) (qb : SqL X.K H b ys)
    (hdone : ∀ ps H' s', Inv X pins σ H' s' → Same H H' → H' s.heap.objs.size = some (.lst (ps.map V.ref)) → PrsAt H' ps (xs.zip ys) → Rs (.ok (.ret .none)) s') :
    wpAny (model X.prog X.w) A1.in1 (Builtin.«list.__init__» ⟨[.ref s.heap.objs.size, .ref z], []⟩)
      (fun fin s' => match fin with | .done f => Rs (.ok f) s' | .again c' => c'.quiet = true ∧ codeAny (model X.prog X.w) A1 c' Rs s') (fun e s' => Rs (.error e) s') { s with heap := newL s.heap } := by
  have nl : H s.heap.objs.size = none := I.hok.fresh (Nat.le_refl _)
  have own : ∀ c ∈ zOwn z TI TO i1 i2, c ≠ s.heap.objs.size := fun c hc => Nat.ne_of_lt (st.lt c hc)
  have J0 : Inv X pins σ (upd H s.heap.objs.size (.lst [])) { s with heap := newL s.heap } := I.lnew (its := []) (t' := s.toks) .nil (Nat.zero_le _)
  have J1 := J0.lset (f := fun _ => #[]) (its := []) (its' := []) (ys := []) (t' := s.toks) upd_same (newL_at _) rfl .nil (Nat.zero_le _)
  have zAt : (newL0 s.heap).get? z = _ := newL0_other (own z (by simp)) hz
  have zTy : ({ s with heap := newL0 s.heap } : Shared).TypeIs (.ref z) "zip" := ⟨_, zAt, rfl⟩
  show wpAny _ _ (do let old ← Builtin.List.listItems (.ref s.heap.objs.size); Builtin.List.listUpdate (.ref s.heap.objs.size) (fun _ => #[]); letGo old.toList.reverse; Builtin.List.listExtendWith (.ref s.heap.objs.size) (.ref z) .none) _ _ _
  -- the old items: none
  apply wpAny_bind
  unfold Builtin.List.listItems
  apply wpAny_bind
  refine wpAny_seqItems (newL_at _) rfl (wpAny_pure ?_)
  show wpAny _ _ (updateSeq s.heap.objs.size (fun _ => #[]) >>= fun _ => letGo (#[] : Array Value).toList.reverse >>= fun _ => Builtin.List.listExtendWith (.ref s.heap.objs.size) (.ref z) .none) _ _ _
  apply wpAny_bind
  refine wpAny_updateSeq (newL_at _) rfl (wpAny_bind (wpAny_letGo ?_))
  -- list.extend: no list, no tuple; its own iterator; no length told; room is made
  have n1 : Builtin.List.listSameRef (.ref s.heap.objs.size) (.ref z) = false := by simp [Builtin.List.listSameRef, (own z (by simp)).symm]
  have n2 : (Value.type "zip" == Value.type "list") = false := by decide
  have n3 : (Value.type "zip" == Value.type "tuple") = false := by decide
  unfold Builtin.List.listExtendWith
  apply wpAny_bind
  refine wpAny_typeOf zTy ?_
  simp only [n1, n2, n3, Bool.or_false, Bool.false_eq_true, if_false]
  apply wpAny_bind
  refine wpAny_pyIter_zip zAt (wpAny_bind (wpAny_holding ?_))
  unfold Builtin.List.listLengthHint
  apply wpAny_bind
  refine wpAny_specialOf zTy zip_no_len ?_
  show wpAny _ _ (specialOf (Value.ref z) (Str.ofString "__length_hint__") >>= _) _ _ _
  apply wpAny_bind
  refine wpAny_specialOf zTy zip_no_hint (wpAny_pure ?_)
  show wpAny _ _ (rule "list.extend.makes-room" >>= fun _ => Builtin.List.listTouch (.ref s.heap.objs.size) >>= fun _ => again (.builtin "list.extend.loop" ⟨[.ref s.heap.objs.size, .ref z, .none], []⟩)) _ _ _
  apply wpAny_bind
  refine wpAny_rule (wpAny_bind ?_)
  show wpAny _ _ (updateSeq s.heap.objs.size (·.push .none) >>= fun _ => updateSeq s.heap.objs.size (·.pop)) _ _ _
  rw [upd_upd] at J1
  obtain ⟨_, l1, k1, v1, _, e1⟩ := J1.lstM upd_same
  cases v1
  have J2 := J1.lset (f := (·.push Value.none)) (its' := [Value.none]) (ys := [V.non]) (t' := s.toks) upd_same e1 (by simp) (.cons rfl .nil) (by rw [sizeLine_eq]; decide)
  rw [upd_upd] at J2
  obtain ⟨_, l2, k2, v2, _, e2⟩ := J2.lstM upd_same
  obtain ⟨w, rfl, _⟩ := v2.one
  have J3 := J2.lset (f := (·.pop)) (its := [w]) (its' := []) (ys := []) (t' := s.toks) upd_same e2 (by rfl) .nil (Nat.zero_le _)
  rw [upd_upd] at J3
  apply wpAny_bind
  refine wpAny_updateSeq e1 rfl (wpAny_updateSeq e2 rfl ?_ (by show 1 ≤ sizeLine; decide) (Nat.zero_le _))
  have sm : Same H (upd H s.heap.objs.size (.lst [])) := free_upd nl
  refine wpAny_pure ⟨plainId_quiet PySem.F.plain_extend_loop _, ?_⟩
  refine zip_loop hA D same room nl qa qb hdone xs.length 0 [] _ _ rfl (Nat.zero_le _) J3 (fun c hc => ⟨?_, (hf c hc).2⟩) (st.keep (fun c hc o e => newL1_other (own c hc) e) sm) sm upd_same (PrsAt.nil _)
  rw [upd_ne (own c hc)]
  exact (hf c hc).1
theorem call_listZip {z TI TO i1 i2 a b : Addr} {xs ys : List V} {Q : VK} {H : Hp} {s : Shared} (hr : X.A.handled = none) (D : ZipApart z TI TO i1 i2 a b) (same : xs.length = ys.length) (room : xs.length < sizeLine)
    (I : Inv X pins σ H s) (hf : ∀ c ∈ zOwn z TI TO i1 i2, FpOk X pins H c) (st : StZ z TI TO i1 i2 a b 0 s.heap H) (hz : IsZip s.heap z TI TO .none) (qa : SqL X.K H a xs) (qb : SqL X.K H b ys)
    (hQ : ∀ (l : Addr) (ps : List Addr) (H' : Hp), Same H H' → H l = none → H' l = some (.lst (ps.map V.ref)) → PrsAt H' ps (xs.zip ys) → Q (.ref l) H') :
    wpAny (model X.prog X.w) X.A (call (.type "list") [.ref z]) (EP X pins σ Q) X.xe s := by
  refine callType_codes (Q₁ := fun made s₁ => made = .ref s.heap.objs.size ∧ s₁ = { s with heap := newL s.heap }) PySem.F.called_list (PySem.F.typeCall_list_1 _) PySem.F.entry_list_init (code_list_new _ ⟨rfl, rfl⟩) ?_
  rintro _ _ ⟨rfl, rfl⟩
  exact ⟨⟨_, newL_at _, rfl⟩, PySem.F.args_list_init_2 _ _, init_zip (A1 := X.A.in1) (Rs := wants (fun r s₂ => r = .none ∧ EP X pins σ Q (.ref s.heap.objs.size) s₂) X.xe) hr D same room I hf st hz qa qb
    fun ps H' s' J sm at' hp => ⟨rfl, .ref s.heap.objs.size, H', J, rfl, hQ _ ps H' sm (I.hok.fresh (Nat.le_refl _)) at' hp⟩⟩
end
/-- list(zip(a, b)) of two lists of one length -/
def tLZ (K : PySem.W.Frag) (ta : TA) : TE := fun σ H Q => ta σ H fun vs H1 => ∃ a b xs ys, vs = [.ref a, .ref b] ∧ SqL K H1 a xs ∧ SqL K H1 b ys ∧ xs.length = ys.length ∧ xs.length < sizeLine ∧
  ∀ (l : Addr) (ps : List Addr) (H' : Hp), Same H1 H' → H1 l = none → H' l = some (.lst (ps.map V.ref)) → PrsAt H' ps (xs.zip ys) → Q (.ref l) H'
theorem pe_listZip {X : Cx} {e e2 : Expr} {ta : TA} {p p2 pos pos2 : Pos} (hr : X.A.handled = none) (hg : Gl X "list") (hm : X.mg "list" = none) (hgz : Gl X "zip") (hmz : X.mg "zip" = none) (ha : PA X [e, e2] ta)
    (hs : starEach [e, e2] X.env = (false, eval e X.env) :: starEach [e2] X.env := by rfl) (hpl : (backTo pos2 (starEach [e2] X.env)).any (·.1) = false := by rfl)
    (hs2 : starEach [.Call (.Name "zip" p2) [e, e2] [] pos2] X.env = [(false, eval (.Call (.Name "zip" p2) [e, e2] [] pos2) X.env)] := by rfl) :
    PE X (.Call (.Name "list" p) [.Call (.Name "zip" p2) [e, e2] [] pos2] [] pos) (tLZ X.K ta) := by
  constructor
  intro pins s σ H Q I h
  apply wpAny_Call_Name_kw
  refine ld_blt I hg hm (by decide +kernel : bootBuiltins "list" = some (.type "list")) (PyProof.Rows.callWith_type1 (args_cons ?_ hs2) hs2 (by rfl))
  refine Call_ (ld_blt I hgz hmz PyProof.Rows.boot_zip (PyProof.Rows.callWith_type1 (thn (ha.run pos2 pins s σ H _ I h) fun us s1 ⟨vs, H1, J, rel, a, b, xs, ys, ev, qa, qb, same, room, q⟩ => ?_) hs hpl))
  subst ev
  obtain ⟨ua, ub, rfl, ra, rb⟩ : ∃ ua ub, us = [ua, ub] ∧ RelV (.ref a) ua ∧ RelV (.ref b) ub := by
    cases rel with
    | cons r1 rel =>
      cases rel with
      | cons r2 rel =>
        cases rel
        exact ⟨_, _, rfl, r1, r2⟩
  cases ra
  cases rb
  obtain ⟨_, _, pa, _⟩ := J.list qa
  obtain ⟨_, _, pb, _⟩ := J.list qb
  refine call_zip_2 pa.isList pb.isList fun h' hz hTI hTO h1 h2 _ kp => args_nil ?_
  have old : ∀ c ∈ zOwn (s1.heap.objs.size + 4) (s1.heap.objs.size + 2) (s1.heap.objs.size + 3) s1.heap.objs.size (s1.heap.objs.size + 1), s1.heap.objs.size ≤ c := zOwn_all (by omega) (by omega) (by omega) (by omega) (by omega)
  exact call_listZip hr (PySem.W.ktu_apart s1.heap.objs.size a b pa.lt pb.lt) same room (J.kept (t' := s1.toks) kp) (fun c hc => J.fpOk (old c hc) (J.hok.fresh (old c hc))) ⟨hTI, h1, h2, ⟨_, _, hTO⟩, .inl hz⟩ hz qa qb q
end WcR
namespace WcB
open PySem PySem.Spec PyProof.Rows L2 WcR
open Kzf1 (Net net)
/-! ### values, heaps -/
def nv (n : Nat) : V := .int (n : Int)
abbrev nvs (l : List Nat) : List V := l.map nv
theorem same_upd {H : Hp} {p : Addr} {o : HO} (h : H p = none) : Same H (upd H p o) := fun b x e => by
  rw [upd_ne (ne_of_none e h)]
  exact e
theorem same_set {H0 H : Hp} {p : Addr} {o : HO} (s : Same H0 H) (h : H0 p = none) : Same H0 (upd H p o) := fun b x e => by
  rw [upd_ne (ne_of_none e h)]
  exact s _ _ e
theorem lk_here {k : Str} {v : V} {r : List (Str × V)} : List.lookup k ((k, v) :: r) = some v := by
  have e : (k == k) = true := beq_self_eq_true k
  simp only [List.lookup, e]
theorem lk_past {k g : Str} {v : V} {r : List (Str × V)} (h : (k == g) = false) : List.lookup k ((g, v) :: r) = List.lookup k r := by
  simp only [List.lookup, h]
theorem put_past {f g : Str} {v x : V} {r : List (Str × V)} (h : ¬ g = f) : putF f v ((g, x) :: r) = (g, x) :: putF f v r := if_neg h
def pF (n : Nat) (q : Addr) : List (Str × V) := [("many", nv n), ("known", .ref q)]
theorem pF_many (n : Nat) (q : Addr) : (pF n q).lookup ("many" : Str) = some (nv n) := lk_here
theorem pF_known (n : Nat) (q : Addr) : (pF n q).lookup ("known" : Str) = some (.ref q) := (lk_past (by decide +kernel)).trans lk_here
theorem pF_new (n : Nat) (q : Addr) : putF "known" (.ref q) (putF "many" (nv n) []) = pF n q := (put_past (by decide +kernel)).trans rfl
/-- a party at p: n guests, whom each knows -/
def PartyAt (C : Addr) (H : Hp) (p : Addr) (n : Nat) (ks : List Nat) : Prop := ∃ dx q, H p = some (.ins C dx (pF n q)) ∧ H q = some (.lst (nvs ks))
theorem PartyAt.same {C : Addr} {H H' : Hp} {p : Addr} {n : Nat} {ks : List Nat} (h : PartyAt C H p n ks) (s : Same H H') : PartyAt C H' p n ks := by
  obtain ⟨dx, q, h1, h2⟩ := h
  exact ⟨dx, q, s _ _ h1, s _ _ h2⟩
theorem nv_get {l : List Nat} {i : Nat} {y : V} (h : (nvs l)[i]? = some y) : ∃ x, l[i]? = some x ∧ y = nv x := by
  rw [List.getElem?_map] at h
  cases e : l[i]? with
  | none =>
    rw [e] at h
    cases h
  | some x =>
    rw [e] at h
    exact ⟨x, rfl, (Option.some.inj h).symm⟩
theorem take_more {α : Type} {l : List α} {i : Nat} {x : α} (h : l[i]? = some x) : l.take (i + 1) = l.take i ++ [x] := by
  rw [List.take_add_one, h]
  rfl
theorem nvs_push (l : List Nat) (x : Nat) : nvs (l ++ [x]) = nvs l ++ [nv x] := List.map_append
theorem filt_more {α : Type} {p : α → Bool} {l : List α} {i : Nat} {x : α} (h : l[i]? = some x) : (l.take (i + 1)).filter p = if p x = true then (l.take i).filter p ++ [x] else (l.take i).filter p := by
  rw [take_more h, List.filter_append]
  by_cases c : p x = true
  · rw [if_pos c, List.filter_cons_of_pos c, List.filter_nil]
  · rw [if_neg c, List.filter_cons_of_neg c, List.filter_nil, List.append_nil]
theorem range_get {n i : Nat} (h : i < n) : (List.range n)[i]? = some i := by rw [List.getElem?_range h]
theorem zero_cast (i : Nat) : (0 : Int) + (i : Int) = (i : Int) := Int.zero_add _
/-- what is written at the top of the class -/
structure Txt (K : PySem.W.Frag) (mg : Str → Option Value) (C : Addr) : Prop where
  cl : Cls K C
  nM : NoAttr K C "many"
  nK : NoAttr K C "known"
  gC : mg "Party" = some (.ref C)
/-- a def that may be called by its name x: at most k levels, the promise sp -/
structure Cal (P : Program) (w : World) (K : PySem.W.Frag) (mg : Str → Option Value) (base : Heap) (x : Str) (k : Nat) (ps : List Str) (sp : Sp) (f : Addr) (fd : FuncData) : Prop where
  g : mg x = some (.ref f)
  ok : FnOk P w K mg base CX0 k f fd ps sp
  b : Binds K fd ps []
  kp : PySem.W.keepIn K (.ref f) = true
theorem pe_c {X : Cx} {x : Str} {k : Nat} {f : Addr} {fd : FuncData} {ps : List Str} {sp : Sp} {e : Expr} {es : List Expr} {t : TA} {p pos : Pos} (c : Cal X.prog X.w X.K X.mg X.base x k ps sp f fd) (hr : Room k X.A) (hg : Gl X x) (ha : PA X (e :: es) t)
    (hdb : (x == ("__debug__" : Str)) = false := by decide) (he : starEach (e :: es) X.env = (false, eval e X.env) :: starEach es X.env := by rfl) (hpl : (backTo pos (starEach es X.env)).any (·.1) = false := by rfl) :
    PE X (.Call (.Name x p) (e :: es) [] pos) (tCall sp [] E0 t) := pe_call c.ok hr hg c.g c.kp c.b .nil pass0 ha hdb he hpl
theorem qe {Q : VK} {x y : V} {H : Hp} (e : x = y) (q : Q y H) : Q x H := e ▸ q
theorem bl_eq {a b : Bool} (e : a = b) : V.bl a = V.bl b := congrArg V.bl e
/-! ### the promises -/
def spBit : Sp := fun vs H Q _ => ∃ i : Nat, vs = [nv i] ∧ i ≤ 1000 ∧ Q (nv (2 ^ i)) H
def spHas : Sp := fun vs H Q _ => ∃ m i : Nat, vs = [nv m, nv i] ∧ i ≤ 1000 ∧ Q (.bl (Kzf1.has m i)) H
def spEvery : Sp := fun vs H Q _ => ∃ n : Nat, vs = [nv n] ∧ n ≤ 1000 ∧ Q (nv (2 ^ n - 1)) H
def spGuests : Sp := fun vs H Q _ => ∃ m n : Nat, vs = [nv m, nv n] ∧ n ≤ 1000 ∧ ∀ l H', Same H H' → H l = none → H' l = some (.lst (nvs (Wc.gs n m))) → Q (.ref l) H'
def spCount : Sp := fun vs H Q _ => ∃ m n : Nat, vs = [nv m, nv n] ∧ n ≤ 1000 ∧ ∀ H', Same H H' → Q (nv (Kzf2.size n m)) H'
def spCannot (C : Addr) : Sp := fun vs H Q _ => ∃ (p : Addr) (n k a m i : Nat) (g : Net) (ks : List Nat), vs = [.ref p, nv k, nv a, nv m, nv i] ∧ PartyAt C H p n ks ∧ Wc.KnowsOk n g ks ∧ i < n ∧ n ≤ 1000 ∧ ∀ H', Same H H' → Q (.bl (Wc.cant n k g a m i)) H'
def spWho (C : Addr) : Sp := fun vs H Q _ => ∃ (p : Addr) (n k a m : Nat) (g : Net) (ks : List Nat), vs = [.ref p, nv k, nv a, nv m] ∧ PartyAt C H p n ks ∧ Wc.KnowsOk n g ks ∧ n ≤ 1000 ∧
  ∀ l H', Same H H' → H l = none → H' l = some (.lst (nvs (Wc.wc n k g a m))) → Q (.ref l) H'
def spWithout (K : PySem.W.Frag) : Sp := fun vs H Q _ => ∃ (m : Nat) (l : Addr) (xs : List Nat), vs = [nv m, .ref l] ∧ SqL K H l (nvs xs) ∧ xs.Nodup ∧ (∀ i ∈ xs, Kzf1.has m i = true ∧ i ≤ 1000) ∧ Q (nv (Wc.wo m xs)) H
def spRounds (C : Addr) : Sp := fun vs H Q _ => ∃ (p : Addr) (n k a : Nat) (g : Net) (ks : List Nat), vs = [.ref p, nv k, nv a] ∧ PartyAt C H p n ks ∧ Wc.KnowsOk n g ks ∧ n ≤ 1000 ∧
  ∀ t H', Same H H' → H t = none → H' t = some (.tup [nv (Kzf2.core n k g a), nv (Kzf2.rounds n k g a).1]) → Q (.ref t) H'
def spOne (C : Addr) : Sp := fun vs H Q _ => ∃ (p : Addr) (n k a : Nat) (g : Net) (ks : List Nat), vs = [.ref p, nv k, nv a] ∧ PartyAt C H p n ks ∧ Wc.KnowsOk n g ks ∧ n ≤ 1000 ∧
  ∀ l H', Same H H' → H l = none → H' l = some (.lst (nvs (Kzf2.cancels n k g a))) → Q (.ref l) H'
def spInit (C : Addr) : Sp := fun vs H Q _ => ∃ (p dx q : Addr) (n : Nat), vs = [.ref p, nv n, .ref q] ∧ H p = some (.ins C dx []) ∧
  ∀ H' : Hp, H' p = some (.ins C dx (pF n q)) → (∀ b o, H b = some o → b ≠ p → H' b = some o) → Q .non H'
def iv (p : Int × Int) : V × V := (.int p.1, .int p.2)
def spPairs (K : PySem.W.Frag) : Sp := fun vs H Q _ => ∃ (a : Addr) (ns : List Int), vs = [.ref a] ∧ SqL K H a (ns.map V.int) ∧ ns.length % 2 = 0 ∧ ns.length ≤ 1000 ∧
  ∀ l ps H', Same H H' → H l = none → H' l = some (.lst (ps.map V.ref)) → PrsAt H' ps ((Wc.prs ns).map iv) → Q (.ref l) H'
def spIsPair : Sp := fun vs H Q _ => ∃ (n : Nat) (z : Int × Int), vs = [nv n, .int z.1, .int z.2] ∧ Q (.bl (Wc.okPair n z)) H
def spGT : Sp := fun vs H Q _ => ∃ n : Nat, vs = [nv n] ∧ Q (.bl (decide (1 ≤ n) && decide (n ≤ 8))) H
def pairsTold (n : Nat) (ns : List Int) : Bool := decide (ns.length % 2 = 0) && decide (ns.length ≤ 56) && (Wc.prs ns).all (Wc.okPair n)
def spPT (K : PySem.W.Frag) : Sp := fun vs H Q _ => ∃ (n : Nat) (a : Addr) (ns : List Int), vs = [nv n, .ref a] ∧ SqL K H a (ns.map V.int) ∧ ns.length ≤ 1000 ∧ ∀ H', Same H H' → Q (.bl (pairsTold n ns)) H'
def spWT : Sp := fun vs H Q _ => ∃ n k a : Nat, vs = [nv n, nv k, nv a] ∧ n ≤ 1000 ∧ Q (.bl (decide (k ≤ 8) && decide (a < 2 ^ n))) H
def spPartyOf (K : PySem.W.Frag) (C : Addr) : Sp := fun vs H Q _ => ∃ (n : Nat) (a : Addr) (ns : List Int), vs = [nv n, .ref a] ∧ SqL K H a (ns.map V.int) ∧ ns.length ≤ 1000 ∧ ns.length % 2 = 0 ∧ n ≤ 1000 ∧ (∀ x ∈ ns, 0 ≤ x) ∧ (Wc.prs ns).all (Wc.okPair n) = true ∧
  ∀ p H', Same H H' → H p = none → PartyAt C H' p n (Wc.known n (net (Wc.natsOf ns))) → Q (.ref p) H'
def spIPT (K : PySem.W.Frag) : Sp := fun vs H Q _ => ∃ (n : Nat) (a : Addr) (ns : List Int), vs = [nv n, .ref a] ∧ SqL K H a (ns.map V.int) ∧ ns.length ≤ 1000 ∧ ∀ H', Same H H' → Q (.bl (Wc.told n ns)) H'
def spIAT (K : PySem.W.Frag) : Sp := fun vs H Q _ => ∃ (n k b : Nat) (a : Addr) (ns : List Int), vs = [nv n, nv k, nv b, .ref a] ∧ SqL K H a (ns.map V.int) ∧ ns.length ≤ 1000 ∧ ∀ H', Same H H' → Q (.bl (Wc.told n ns && (decide (k ≤ 8) && decide (b < 2 ^ n)))) H'
def spWC (C : Addr) : Sp := fun vs H Q _ => ∃ (p : Addr) (n k a : Nat) (g : Net) (ks : List Nat), vs = [.ref p, nv k, nv a] ∧ PartyAt C H p n ks ∧ Wc.KnowsOk n g ks ∧ n ≤ 1000 ∧ ∀ H', Same H H' → Q (nv (Kzf2.core n k g a)) H'
def spGW (C : Addr) : Sp := fun vs H Q _ => ∃ (p : Addr) (n : Nat) (g : Net) (ks : List Nat), vs = [.ref p] ∧ PartyAt C H p n ks ∧ Wc.KnowsOk n g ks ∧ 1 ≤ n ∧ n ≤ 8 ∧ ∀ H', Same H H' → Q (nv (Kzf2.depth n g)) H'
def spBr (C : Addr) : Sp := fun vs H Q _ => ∃ (p : Addr) (n k a i : Nat) (g : Net) (ks : List Nat), vs = [.ref p, nv k, nv a, nv i] ∧ PartyAt C H p n ks ∧ Wc.KnowsOk n g ks ∧ n ≤ 1000 ∧ i ≤ 1000 ∧ ∀ H', Same H H' → Q (nv (Wc.broughtN n k g a i)) H'
def spBest (C : Addr) : Sp := fun vs H Q _ => ∃ (p : Addr) (n k a : Nat) (g : Net) (ks : List Nat), vs = [.ref p, nv k, nv a] ∧ PartyAt C H p n ks ∧ Wc.KnowsOk n g ks ∧ 1 ≤ n ∧ n ≤ 1000 ∧
  ∀ t H', Same H H' → H t = none → H' t = some (.tup [nv (Kzf2.bestSure n k g a).1, nv (Kzf2.bestSure n k g a).2]) → Q (.ref t) H'
/-! ### numbers -/
theorem shl_bit (i : Nat) : V.int (1 * 2 ^ ((i : Int)).toNat) = nv (2 ^ i) := by
  show V.int _ = V.int _
  rw [Int.one_mul, Int.toNat_natCast, Int.natCast_pow]
  rfl
theorem band (a b : Nat) : Builtin.bitAnd (a : Int) (b : Int) = ((a &&& b : Nat) : Int) := by
  rw [bitAnd_pp (by omega) (by omega), Int.toNat_natCast, Int.toNat_natCast]
theorem bor (a b : Nat) : Builtin.bitOr (a : Int) (b : Int) = ((a ||| b : Nat) : Int) := by
  rw [Bits.bitOr_pp (by omega) (by omega), Int.toNat_natCast, Int.toNat_natCast]
theorem has_test (m i : Nat) : (!decide (((m &&& 2 ^ i : Nat) : Int) = 0)) = Kzf1.has m i := by
  rw [← Wc.and_bit_ne, decide_not]
  congr 1
  exact decide_eq_decide.mpr (by omega)
theorem every_sub (n : Nat) : V.int (((2 ^ n : Nat) : Int) - 1) = nv (2 ^ n - 1) := by
  have := Nat.two_pow_pos n
  show V.int _ = V.int _
  congr 1
  omega
/-! ### a list of numbers, not empty -/
def dat (l : List Nat) : List PyData := l.map fun (i : Nat) => PyData.int (i : Int)
theorem dat_of {K : PySem.W.Frag} {H : Hp} : ∀ l : List Nat, DpAll K H (nvs l) (dat l)
  | [] => .nil
  | x :: r => .cons (.int (x : Int)) (dat_of r)
theorem dat_lay : ∀ l : List Nat, PyData.canLayAll0 (dat l) = true
  | [] => by simp [dat, PyData.canLayAll0]
  | x :: r => by
    have h := dat_lay r
    unfold dat at h ⊢
    simp only [List.map_cons, PyData.canLayAll0, PyData.canLay0, h, Bool.and_self]
theorem dat_depth : ∀ l : List Nat, PyData.depthAll (dat l) ≤ 1
  | [] => by simp [dat, PyData.depthAll]
  | x :: r => by
    have h := dat_depth r
    unfold dat at h ⊢
    simp only [List.map_cons, PyData.depthAll, PyData.depth]
    omega
theorem dat_shaped (l : List Nat) : SeqAt.shaped (.list (dat l)) = true := by
  have h1 := dat_depth l
  have h2 : PyData.depth (.list (dat l)) ≤ 64 := by
    simp only [PyData.depth]
    omega
  show (PyData.canLay0 (.list (dat l)) && decide (PyData.depth (.list (dat l)) ≤ 64)) = true
  rw [Bool.and_eq_true]
  exact ⟨by simp only [PyData.canLay0]; exact dat_lay l, decide_eq_true h2⟩
theorem dat_ne (l : List Nat) : (!PyData.eqv (.list (dat l)) (.list [])) = !l.isEmpty := by
  cases l with
  | nil => simp [dat, PyData.eqv, PyData.eqvAll]
  | cons x r => simp [dat, PyData.eqv, PyData.eqvAll]
/-! ### the text -/
def topS (i : Nat) : Stmt := PySem.Challenge.pw_whocomes_s02_cancels.main.body.getD i (.Pass ⟨0, 0, 0, 0⟩)
abbrev sBit : Stmt := topS 1
abbrev sHas : Stmt := topS 2
abbrev sEvery : Stmt := topS 3
abbrev sGuests : Stmt := topS 4
abbrev sCount : Stmt := topS 5
abbrev sCannot : Stmt := topS 7
abbrev sWho : Stmt := topS 8
abbrev sWithout : Stmt := topS 9
abbrev sInit : Stmt := inClass (topS 16) 0
abbrev sPairs : Stmt := topS 17
abbrev sIsPair : Stmt := topS 18
abbrev sGT : Stmt := topS 19
abbrev sPT : Stmt := topS 20
abbrev sPartyOf : Stmt := topS 22
abbrev sIPT : Stmt := topS 25
theorem scBit : FnScope ["guest"] ["guest"] (defScope sBit) := ⟨rfl, rfl, rfl, by decide +kernel, rfl, by decide +kernel, by decide +kernel⟩
theorem scHas : FnScope ["some", "guest"] ["some", "guest"] (defScope sHas) := ⟨rfl, rfl, rfl, by decide +kernel, rfl, by decide +kernel, by decide +kernel⟩
theorem scEvery : FnScope ["many"] ["many"] (defScope sEvery) := ⟨rfl, rfl, rfl, by decide +kernel, rfl, by decide +kernel, by decide +kernel⟩
theorem scGuests : FnScope ["some", "many", "guest"] ["some", "many"] (defScope sGuests) := ⟨rfl, rfl, rfl, by decide +kernel, rfl, by decide +kernel, by decide +kernel⟩
theorem scCount : FnScope ["some", "many"] ["some", "many"] (defScope sCount) := ⟨rfl, rfl, rfl, by decide +kernel, rfl, by decide +kernel, by decide +kernel⟩
section
variable {P : Program} {w : World} {K : PySem.W.Frag} {mg : Str → Option Value} {base : Heap} {C : Addr}
theorem ok_bit {f : Addr} {fd : FuncData} (F : Fun K "bit" "bit" sBit f fd) : FnOk P w K mg base CX0 1 f fd ["guest"] spBit := by
  refine F.ok scBit (fun vs H Q E h => ?_) (fun cdv A outer s H vs Q E hr h => ?_)
  · obtain ⟨i, rfl, _⟩ := h
    rfl
  · obtain ⟨i, rfl, hi, q⟩ := h
    refine ⟨_, pss_one (ps_ret (pe_op op_shl pe_int (pv 0))), ?_⟩
    refine ⟨_, rfl, 1, (i : Int), rfl, rfl, ⟨by omega, by omega, by decide⟩, ?_⟩
    exact qe (Q := Q) (shl_bit i) q
theorem ok_has {f f1 : Addr} {fd fd1 : FuncData} (F : Fun K "has" "has" sHas f fd) (c1 : Cal P w K mg base "bit" 1 ["guest"] spBit f1 fd1) : FnOk P w K mg base CX0 2 f fd ["some", "guest"] spHas := by
  refine F.ok scHas (fun vs H Q E h => ?_) (fun cdv A outer s H vs Q E hr h => ?_)
  · obtain ⟨m, i, rfl, _⟩ := h
    rfl
  · obtain ⟨m, i, rfl, hi, q⟩ := h
    refine ⟨_, pss_one (ps_ret (pe_cmp (pc_neI (pe_op op_and (pv 0) (pe_c c1 hr (by rfl) (pa_cons (pv 1) pa_nil))) pe_int) rfl)), ?_⟩
    refine ⟨_, rfl, _, rfl, i, rfl, hi, (m : Int), ((2 ^ i : Nat) : Int), rfl, rfl, ((m &&& 2 ^ i : Nat) : Int), 0, congrArg V.int (band _ _), rfl, ?_⟩
    exact qe (Q := Q) (bl_eq (has_test m i)) q
theorem ok_every {f f1 : Addr} {fd fd1 : FuncData} (F : Fun K "everybody" "everybody" sEvery f fd) (c1 : Cal P w K mg base "bit" 1 ["guest"] spBit f1 fd1) : FnOk P w K mg base CX0 2 f fd ["many"] spEvery := by
  refine F.ok scEvery (fun vs H Q E h => ?_) (fun cdv A outer s H vs Q E hr h => ?_)
  · obtain ⟨n, rfl, _⟩ := h
    rfl
  · obtain ⟨n, rfl, hn, q⟩ := h
    refine ⟨_, pss_one (ps_ret (pe_op op_sub (pe_c c1 hr (by rfl) (pa_cons (pv 0) pa_nil)) pe_int)), ?_⟩
    refine ⟨_, rfl, n, rfl, hn, ((2 ^ n : Nat) : Int), 1, rfl, rfl, ?_⟩
    exact qe (Q := Q) (every_sub n) q
theorem ok_guests {f f1 : Addr} {fd fd1 : FuncData} (F : Fun K "guests_of" "guests_of" sGuests f fd) (c1 : Cal P w K mg base "has" 2 ["some", "guest"] spHas f1 fd1) (mr : mg "range" = none) : FnOk P w K mg base CX0 3 f fd ["some", "many"] spGuests := by
  refine F.ok scGuests (fun vs H Q E h => ?_) (fun cdv A outer s H vs Q E hr h => ?_)
  · obtain ⟨m, n, rfl, _⟩ := h
    rfl
  · obtain ⟨m, n, rfl, hn, q⟩ := h
    refine ⟨_, pss_one (ps_ret (pe_lc (own := [("guest", 2)]) (g := gName 2) (tt := tB (tCall spHas [] E0 (tCons (tVar 0) (tCons (tVar 2) tNil)))) (te := tVar 2) rfl scGuests.nd (pi_range1 (by rfl) mr (pa_cons (pv 1) pa_nil))
      (blkOk_by (own := [("guest", 2)]) (N := ["some", "many", "guest"]) (sc := defScope sGuests) (by decide +kernel)) (fun _ _ _ _ _ => pg_name (i := 2) scGuests.nd rfl (Or.inl rfl))
      (fun _ _ _ _ _ => pts_one (pt_val (pe_c c1 hr (by rfl) (pa_cons (pv 0) (pa_cons (pv 2) pa_nil))))) (fun _ _ _ _ _ => pv 2))), ?_⟩
    refine ⟨_, rfl, (n : Int), rfl, by omega, by omega, fun D hD => ?_⟩
    refine lc_range (lo := 0) (n := n) (fun i H' => Same H H' ∧ H' D = some (.lst (nvs (((List.range n).take i).filter (Kzf1.has m))))) ⟨same_upd hD, upd_same⟩ ?_ ?_
    · intro i H' hi hP
      obtain ⟨sm, hl⟩ := hP
      rw [zero_cast]
      refine ⟨rfl, _, rfl, nv i, rfl, m, i, rfl, by omega, _, rfl, ?_⟩
      have e1 := filt_more (p := Kzf1.has m) (range_get hi)
      cases c : Kzf1.has m i with
      | true =>
        refine iteT ⟨nv i, rfl, _, hl, ?_, same_set sm hD, ?_⟩
        · rw [List.length_map]
          refine small1000 (Nat.le_trans (List.length_filter_le _ _) ?_)
          rw [List.length_take, List.length_range]
          omega
        · rw [upd_same, e1, if_pos c, nvs_push]
      | false =>
        refine iteF ⟨sm, ?_⟩
        rw [e1, if_neg (by rw [c]; decide)]
        exact hl
    · intro H' hP
      obtain ⟨sm, hl⟩ := hP
      rw [List.take_of_length_le (by rw [List.length_range]; exact Nat.le_refl _)] at hl
      exact q D H' sm hD hl
theorem ok_count {f f1 : Addr} {fd fd1 : FuncData} (F : Fun K "count" "count" sCount f fd) (c1 : Cal P w K mg base "guests_of" 3 ["some", "many"] spGuests f1 fd1) (ml : mg "len" = none) : FnOk P w K mg base CX0 4 f fd ["some", "many"] spCount := by
  refine F.ok scCount (fun vs H Q E h => ?_) (fun cdv A outer s H vs Q E hr h => ?_)
  · obtain ⟨m, n, rfl, _⟩ := h
    rfl
  · obtain ⟨m, n, rfl, hn, q⟩ := h
    refine ⟨_, pss_one (ps_ret (pe_callB call_len_seq (by rfl) ml PySem.boot_len (pa_cons (pe_c c1 hr (by rfl) (pa_cons (pv 0) (pa_cons (pv 1) pa_nil))) pa_nil))), ?_⟩
    refine ⟨_, rfl, _, rfl, m, n, rfl, hn, fun l H' sm nl hl => ⟨l, _, rfl, .inl (.inl (.inl hl)), ?_⟩⟩
    rw [List.length_map]
    exact q H' sm
end
theorem scCannot : FnScope ["party", "wanted", "sure_ones", "coming", "guest"] ["party", "wanted", "sure_ones", "coming", "guest"] (defScope sCannot) := ⟨rfl, rfl, rfl, by decide +kernel, rfl, by decide +kernel, by decide +kernel⟩
theorem scWho : FnScope ["party", "wanted", "sure_ones", "coming", "guest"] ["party", "wanted", "sure_ones", "coming"] (defScope sWho) := ⟨rfl, rfl, rfl, by decide +kernel, rfl, by decide +kernel, by decide +kernel⟩
theorem scWithout : FnScope ["coming", "guests", "guest"] ["coming", "guests"] (defScope sWithout) := ⟨rfl, rfl, rfl, by decide +kernel, rfl, by decide +kernel, by decide +kernel⟩
theorem scInit : FnScope ["self", "many", "known"] ["self", "many", "known"] (defScope sInit) := ⟨rfl, rfl, rfl, by decide +kernel, rfl, by decide +kernel, by decide +kernel⟩
theorem scPairs : FnScope ["row"] ["row"] (defScope sPairs) := ⟨rfl, rfl, rfl, by decide +kernel, rfl, by decide +kernel, by decide +kernel⟩
theorem scIsPair : FnScope ["many", "one", "other"] ["many", "one", "other"] (defScope sIsPair) := ⟨rfl, rfl, rfl, by decide +kernel, rfl, by decide +kernel, by decide +kernel⟩
theorem scGT : FnScope ["many"] ["many"] (defScope sGT) := ⟨rfl, rfl, rfl, by decide +kernel, rfl, by decide +kernel, by decide +kernel⟩
theorem scPT : FnScope ["many", "row", "one", "other"] ["many", "row"] (defScope sPT) := ⟨rfl, rfl, rfl, by decide +kernel, rfl, by decide +kernel, by decide +kernel⟩
theorem scPartyOf : FnScope ["many", "row", "known", "one", "other"] ["many", "row"] (defScope sPartyOf) := ⟨rfl, rfl, rfl, by decide +kernel, rfl, by decide +kernel, by decide +kernel⟩
theorem scIPT : FnScope ["n", "pairs"] ["n", "pairs"] (defScope sIPT) := ⟨rfl, rfl, rfl, by decide +kernel, rfl, by decide +kernel, by decide +kernel⟩
/-! ### lemmas by the way -/
theorem lt_cast (a b : Nat) : decide ((a : Int) < (b : Int)) = decide (a < b) := decide_eq_decide.mpr Int.ofNat_lt
theorem le_cast (a b : Nat) : decide ((a : Int) ≤ (b : Int)) = decide (a ≤ b) := decide_eq_decide.mpr Int.ofNat_le
theorem cant_sure {n k : Nat} {g : Net} {a m i : Nat} (h : Kzf1.has a i = true) : false = Wc.cant n k g a m i := by
  unfold Wc.cant
  rw [h]
  rfl
theorem cant_few {n k : Nat} {g : Net} {a m i : Nat} (h : Kzf1.has a i = false) {s : Nat} (hs : s = Kzf2.among n g m i) : decide ((s : Int) < (k : Int)) = Wc.cant n k g a m i := by
  unfold Wc.cant
  rw [h, lt_cast, hs]
  rfl
theorem wo_step {m : Nat} {xs : List Nat} {i x : Nat} (hn : xs.Nodup) (hd : ∀ i ∈ xs, Kzf1.has m i = true) (h : xs[i]? = some x) : V.int ((Wc.wo m (xs.take i) : Int) - ((2 ^ x : Nat) : Int)) = nv (Wc.wo m (xs.take (i + 1))) := by
  obtain ⟨h1, h2⟩ := Wc.wo_take hn hd h
  show V.int _ = V.int _
  congr 1
  rw [h1]
  omega
theorem ne_empty {l : List Nat} (h : l ≠ []) : (!l.isEmpty) = true := by
  cases l with
  | nil => exact absurd rfl h
  | cons x r => rfl
theorem zip_iv : ∀ ns : List Int, (ev (ns.map V.int)).zip (od (ns.map V.int)) = (Wc.prs ns).map iv
  | a :: b :: l => by
    show (V.int a :: ev (l.map V.int)).zip (V.int b :: od (l.map V.int)) = iv (a, b) :: (Wc.prs l).map iv
    rw [List.zip_cons_cons, zip_iv l]
    rfl
  | [a] => by simp [ev, od, Wc.prs]
  | [] => by simp [ev, od, Wc.prs]
section
variable {P : Program} {w : World} {K : PySem.W.Frag} {mg : Str → Option Value} {base : Heap} {C : Addr}
theorem ok_cannot {f f1 f2 : Addr} {fd fd1 fd2 : FuncData} (F : Fun K "cannot" "cannot" sCannot f fd) (T : Txt K mg C) (c1 : Cal P w K mg base "has" 2 ["some", "guest"] spHas f1 fd1) (c2 : Cal P w K mg base "count" 4 ["some", "many"] spCount f2 fd2) :
    FnOk P w K mg base CX0 5 f fd ["party", "wanted", "sure_ones", "coming", "guest"] (spCannot C) := by
  refine F.ok scCannot (fun vs H Q E h => ?_) (fun cdv A outer s H vs Q E hr h => ?_)
  · obtain ⟨p, n, k, a, m, i, g, ks, rfl, _⟩ := h
    rfl
  · obtain ⟨p, n, k, a, m, i, g, ks, rfl, hp, hK, hi, hn, q⟩ := h
    refine ⟨_, pss_one (ps_ret (pe_and (pe_not (pe_c c1 (hr.mono (by decide)) (by rfl) (pa_cons (pv 2) (pa_cons (pv 4) pa_nil))))
      (pe_one (pe_cmp (pc_lt (pe_c c2 hr (by rfl) (pa_cons (pe_op op_and (pe_ix ix_list (pe_fld (pv 0) rfl) (pv 4) (fun _ _ => rfl)) (pv 3)) (pa_cons (pe_fld (pv 0) rfl) pa_nil))) (pv 1)) rfl)))), ?_⟩
    refine ⟨_, rfl, _, rfl, a, i, rfl, by omega, _, rfl, _, rfl, ?_⟩
    cases c : Kzf1.has a i with
    | true => exact iteF (qe (Q := Q) (bl_eq (cant_sure c)) (q H (Same.refl H)))
    | false =>
      obtain ⟨dx, r, h1, h2⟩ := hp
      obtain ⟨x, hx, hk⟩ := hK.2 i hi
      have hx' : (nvs ks)[i]? = some (nv x) := by rw [List.getElem?_map, hx]; rfl
      refine iteT ⟨_, rfl, p, C, dx, _, _, rfl, h1, T.cl, T.nK, pF_known n r, _, rfl, r, nvs ks, (i : Int), nv x, rfl, rfl, SqL.of h2, atI_nat hx', _, rfl, (x : Int), (m : Int), rfl, rfl,
        _, rfl, p, C, dx, _, _, rfl, h1, T.cl, T.nM, pF_many n r, x &&& m, n, congrArg (fun z => [V.int z, nv n]) (band x m), hn, fun H' sm => ⟨_, rfl, (Kzf2.size n (x &&& m) : Int), (k : Int), rfl, rfl, ?_⟩⟩
      exact qe (Q := Q) (bl_eq (cant_few c (Wc.among_of hK hi hx))) (q H' sm)
theorem ok_who {f f1 f2 : Addr} {fd fd1 fd2 : FuncData} (F : Fun K "who_cannot" "who_cannot" sWho f fd) (T : Txt K mg C) (c1 : Cal P w K mg base "guests_of" 3 ["some", "many"] spGuests f1 fd1)
    (c2 : Cal P w K mg base "cannot" 5 ["party", "wanted", "sure_ones", "coming", "guest"] (spCannot C) f2 fd2) : FnOk P w K mg base CX0 6 f fd ["party", "wanted", "sure_ones", "coming"] (spWho C) := by
  refine F.ok scWho (fun vs H Q E h => ?_) (fun cdv A outer s H vs Q E hr h => ?_)
  · obtain ⟨p, n, k, a, m, g, ks, rfl, _⟩ := h
    rfl
  · obtain ⟨p, n, k, a, m, g, ks, rfl, hp, hK, hn, q⟩ := h
    refine ⟨_, pss_one (ps_ret (pe_lc (own := [("guest", 4)]) (g := gName 4) (tt := tB (tCall (spCannot C) [] E0 (tCons (tVar 0) (tCons (tVar 1) (tCons (tVar 2) (tCons (tVar 3) (tCons (tVar 4) tNil))))))) (te := tVar 4) rfl scWho.nd
      (pi_list (pe_c c1 (hr.mono (by decide)) (by rfl) (pa_cons (pv 3) (pa_cons (pe_fld (pv 0) rfl) pa_nil))))
      (blkOk_by (own := [("guest", 4)]) (N := ["party", "wanted", "sure_ones", "coming", "guest"]) (sc := defScope sWho) (by decide +kernel)) (fun _ _ _ _ _ => pg_name (i := 4) scWho.nd rfl (Or.inl rfl))
      (fun _ _ _ _ _ => pts_one (pt_val (pe_c c2 hr (by rfl) (pa_cons (pv 0) (pa_cons (pv 1) (pa_cons (pv 2) (pa_cons (pv 3) (pa_cons (pv 4) pa_nil)))))))) (fun _ _ _ _ _ => pv 4))), ?_⟩
    obtain ⟨dx, r, h1, h2⟩ := id hp
    refine ⟨_, rfl, _, rfl, p, C, dx, _, _, rfl, h1, T.cl, T.nM, pF_many n r, m, n, rfl, hn, fun l H1 s1 nl hl => ⟨l, rfl, ⟨_, SqL.of hl⟩, fun D hD => ?_⟩⟩
    refine lc_list (K := K) (a := l) (xs := nvs (Wc.gs n m)) (fun i H' => Same H1 H' ∧ H' D = some (.lst (nvs (((Wc.gs n m).take i).filter (Wc.cant n k g a m))))) ⟨same_upd hD, upd_same⟩ (fun i H' _ hP => hP.1.seq (SqL.of hl)) ?_ ?_
    · intro i x H' hx hP
      obtain ⟨sm, hl'⟩ := hP
      obtain ⟨y, hy, rfl⟩ := nv_get hx
      have hy2 := List.mem_filter.mp (List.mem_of_getElem? hy)
      have hyn : y < n := List.mem_range.mp hy2.1
      refine ⟨rfl, _, rfl, _, rfl, _, rfl, _, rfl, _, rfl, p, n, k, a, m, y, g, ks, rfl, hp.same (s1.trans sm), hK, hyn, hn, fun H2 s2 => ⟨_, rfl, ?_⟩⟩
      have e1 := filt_more (p := Wc.cant n k g a m) hy
      cases c : Wc.cant n k g a m y with
      | true =>
        refine iteT ⟨nv y, rfl, _, s2 _ _ hl', ?_, same_set (sm.trans s2) hD, ?_⟩
        · rw [List.length_map]
          refine small1000 (Nat.le_trans (List.length_filter_le _ _) ?_)
          rw [List.length_take]
          have := Wc.gs_len n m
          omega
        · rw [upd_same, e1, if_pos c, nvs_push]
      | false =>
        refine iteF ⟨sm.trans s2, ?_⟩
        rw [e1, if_neg (by rw [c]; decide)]
        exact s2 _ _ hl'
    · intro H' hP
      obtain ⟨sm, hl'⟩ := hP
      rw [List.take_of_length_le (by rw [List.length_map]; exact Nat.le_refl _)] at hl'
      exact q D H' (s1.trans sm) (s1.free hD) hl'
theorem ok_without {f f1 : Addr} {fd fd1 : FuncData} (F : Fun K "without" "without" sWithout f fd) (c1 : Cal P w K mg base "bit" 1 ["guest"] spBit f1 fd1) : FnOk P w K mg base CX0 2 f fd ["coming", "guests"] (spWithout K) := by
  refine F.ok scWithout (fun vs H Q E h => ?_) (fun cdv A outer s H vs Q E hr h => ?_)
  · obtain ⟨m, l, xs, rfl, _⟩ := h
    rfl
  · obtain ⟨m, l, xs, rfl, hS, hn, hd, q⟩ := h
    refine ⟨_, pss_cons (ps_for PassesOwn.never rfl (pi_list (pv 1)) (pg_name (i := 2) scWithout.nd rfl (Or.inl rfl)) (pss_one (ps_set (i := 0) scWithout.nd rfl (Or.inl rfl) (pe_op op_sub (pv 0) (pe_c c1 hr (by rfl) (pa_cons (pv 2) pa_nil))))))
      (pss_one (ps_ret (pv 0))), ?_⟩
    refine ⟨_, rfl, l, rfl, ⟨_, hS⟩, for_list (K := K) (a := l) (xs := nvs xs) (fun i σ H' => ∃ y, σ = [some (nv (Wc.wo m (xs.take i))), some (.ref l), y] ∧ H' = H) ⟨none, rfl, rfl⟩ (fun i σ H' _ hP => by
      obtain ⟨_, _, rfl⟩ := hP
      exact hS) ?_ ?_⟩
    · intro i x σ H' hx hP
      obtain ⟨y, rfl, rfl⟩ := hP
      obtain ⟨z, hz, rfl⟩ := nv_get hx
      have hm := hd z (List.mem_of_getElem? hz)
      refine ⟨_, rfl, _, rfl, z, rfl, hm.2, (Wc.wo m (xs.take i) : Int), ((2 ^ z : Nat) : Int), rfl, rfl, some (nv z), ?_, rfl⟩
      rw [← wo_step hn (fun j hj => (hd j hj).1) hz]
      rfl
    · intro σ H' hP
      obtain ⟨y, rfl, rfl⟩ := hP
      rw [List.length_map, List.take_length]
      exact ⟨_, rfl, q⟩
theorem ok_init {f : Addr} {fd : FuncData} (F : Fun K "__init__" "Party.__init__" sInit f fd) (T : Txt K mg C) : FnOk P w K mg base CX0 1 f fd ["self", "many", "known"] (spInit C) := by
  refine F.ok scInit (fun vs H Q E h => ?_) (fun cdv A outer s H vs Q E hr h => ?_)
  · obtain ⟨p, dx, q, n, rfl, _⟩ := h
    rfl
  · obtain ⟨p, dx, r, n, rfl, hp, q⟩ := h
    refine ⟨_, pss_cons (ps_fld (pv 0) (pv 1) rfl) (pss_one (ps_fld (pv 0) (pv 2) rfl)), ?_⟩
    refine ⟨_, rfl, _, rfl, p, C, dx, [], rfl, hp, T.cl, T.nM, (by show 0 < 1000; decide), ?_⟩
    refine ⟨_, rfl, _, rfl, p, C, dx, _, rfl, upd_same, T.cl, T.nK, (by show 1 < 1000; decide), ?_⟩
    exact q _ (Eq.trans upd_same (congrArg (fun z => some (HO.ins C dx z)) (pF_new n r))) fun b o e hb => by
      rw [upd_ne hb, upd_ne hb]
      exact e
theorem ok_pairs {f : Addr} {fd : FuncData} {t : Tok} (F : Fun K "pairs_of" "pairs_of" sPairs f fd) (mp : mg "PAIR" = some (.int 2 t)) (ml : mg "list" = none) (mz : mg "zip" = none) : FnOk P w K mg base CX0 1 f fd ["row"] (spPairs K) := by
  refine F.ok scPairs (fun vs H Q E h => ?_) (fun cdv A outer s H vs Q E hr h => ?_)
  · obtain ⟨a, ns, rfl, _⟩ := h
    rfl
  · obtain ⟨a, ns, rfl, hS, h2, hlen, q⟩ := h
    refine ⟨_, pss_one (ps_ret (pe_listZip hr.hd (by rfl) ml (by rfl) mz (pa_cons (pe_evL (pv 0) (pe_glob (v := .int 2) (by rfl) mp ⟨_, rfl⟩)) (pa_cons (pe_odL (pv 0) (pe_glob (v := .int 2) (by rfl) mp ⟨_, rfl⟩)) pa_nil)))), ?_⟩
    refine ⟨_, rfl, rfl, a, _, rfl, hS, fun p hp => ?_⟩
    have s1 : Same H (upd H p (.lst (ev (ns.map V.int)))) := same_upd hp
    refine ⟨_, rfl, rfl, a, _, rfl, s1.seq hS, fun p2 hp2 => ?_⟩
    have s2 := s1.trans (same_upd (o := .lst (od (ns.map V.int))) hp2)
    refine ⟨p, p2, _, _, rfl, SqL.of (by rw [upd_ne (ne_of_none upd_same hp2)]; exact upd_same), SqL.of upd_same, ?_, ?_, fun l ps H' sm nl hl hps => ?_⟩
    · rw [ev_len, od_len, List.length_map]
      omega
    · rw [ev_len, List.length_map]
      exact small1000 (by omega)
    · rw [zip_iv] at hps
      exact q l ps H' (s2.trans sm) (s2.free nl) hl hps
theorem ok_isPair {f : Addr} {fd : FuncData} (F : Fun K "is_pair" "is_pair" sIsPair f fd) : FnOk P w K mg base CX0 1 f fd ["many", "one", "other"] spIsPair := by
  refine F.ok scIsPair (fun vs H Q E h => ?_) (fun cdv A outer s H vs Q E hr h => ?_)
  · obtain ⟨n, z, rfl, _⟩ := h
    rfl
  · obtain ⟨n, ⟨x, y⟩, rfl, q⟩ := h
    refine ⟨_, pss_one (ps_ret (pe_and (pe_cmp (pc_lt (pv 1) (pv 0)) rfl) (pe_and (pe_cmp (pc_lt (pv 2) (pv 0)) rfl) (pe_one (pe_cmp (pc_neI (pv 1) (pv 2)) rfl))))), ?_⟩
    have e : Wc.okPair n (x, y) = (decide (x < (n : Int)) && (decide (y < (n : Int)) && !decide (x = y))) := rfl
    rw [e] at q
    refine ⟨_, rfl, _, rfl, x, (n : Int), rfl, rfl, decide (x < (n : Int)), rfl, ?_⟩
    cases c1 : decide (x < (n : Int)) with
    | false =>
      rw [c1] at q
      exact iteF q
    | true =>
      rw [c1] at q
      refine iteT ⟨_, rfl, _, rfl, y, (n : Int), rfl, rfl, decide (y < (n : Int)), rfl, ?_⟩
      cases c2 : decide (y < (n : Int)) with
      | false =>
        rw [c2] at q
        exact iteF q
      | true =>
        rw [c2] at q
        exact iteT ⟨_, rfl, _, rfl, x, y, rfl, rfl, q⟩
theorem ok_GT {f : Addr} {fd : FuncData} {t : Tok} (F : Fun K "are_guests_told" "are_guests_told" sGT f fd) (mp : mg "MOST_GUESTS" = some (.int 8 t)) : FnOk P w K mg base CX0 1 f fd ["many"] spGT := by
  refine F.ok scGT (fun vs H Q E h => ?_) (fun cdv A outer s H vs Q E hr h => ?_)
  · obtain ⟨n, rfl, _⟩ := h
    rfl
  · obtain ⟨n, rfl, q⟩ := h
    refine ⟨_, pss_one (ps_ret (pe_and (pe_cmp (pc_le pe_int (pv 0)) rfl) (pe_one (pe_cmp (pc_le (pv 0) (pe_glob (v := .int 8) (by rfl) mp ⟨_, rfl⟩)) rfl)))), ?_⟩
    rw [← le_cast, ← le_cast] at q
    refine ⟨_, rfl, 1, (n : Int), rfl, rfl, decide ((1 : Int) ≤ (n : Int)), rfl, ?_⟩
    cases c1 : decide ((1 : Int) ≤ (n : Int)) with
    | false =>
      rw [show decide (((1 : Nat) : Int) ≤ (n : Int)) = false from c1] at q
      exact iteF q
    | true =>
      rw [show decide (((1 : Nat) : Int) ≤ (n : Int)) = true from c1] at q
      exact iteT ⟨_, rfl, (n : Int), 8, rfl, rfl, q⟩
end
/-! ### pairs told, the party -/
theorem odd_test (n : Nat) : (!decide ((Int.fmod (n : Int) 2) = 0)) = !decide (n % 2 = 0) := by
  congr 1
  apply decide_eq_decide.mpr
  rw [Int.fmod_eq_emod_of_nonneg _ (by decide)]
  omega
theorem prs_get {ns : List Int} {i : Nat} {p : Addr} {ps : List Addr} {H : Hp} (h : PrsAt H ps ((Wc.prs ns).map iv)) (hp : ps[i]? = some p) : ∃ z, (Wc.prs ns)[i]? = some z ∧ H p = some (.tup [.int z.1, .int z.2]) := by
  have hl := h.1
  rw [List.length_map] at hl
  have hi : i < (Wc.prs ns).length := by
    rw [← hl]
    exact (List.getElem?_eq_some_iff.mp hp).1
  have e : (Wc.prs ns)[i]? = some (Wc.prs ns)[i] := List.getElem?_eq_getElem hi
  refine ⟨_, e, h.2 i p (iv (Wc.prs ns)[i]) hp ?_⟩
  rw [List.getElem?_map, e]
  rfl
theorem ref_get {l : List Addr} {i : Nat} {y : V} (h : (l.map V.ref)[i]? = some y) : ∃ x, l[i]? = some x ∧ y = .ref x := by
  rw [List.getElem?_map] at h
  cases e : l[i]? with
  | none =>
    rw [e] at h
    cases h
  | some x =>
    rw [e] at h
    exact ⟨x, rfl, (Option.some.inj h).symm⟩
theorem all_map_id (l : List Bool) : l.all id = l.all fun b => b := rfl
theorem all_ok (n : Nat) (l : List (Int × Int)) : (l.map (Wc.okPair n)).all id = l.all (Wc.okPair n) := by
  rw [List.all_map]
  rfl
theorem zeros (n : Nat) : (List.replicate n [V.int 0]).flatten = nvs (List.replicate n 0) := by
  induction n with
  | zero => rfl
  | succ n ih =>
    rw [List.replicate_succ, List.replicate_succ, List.flatten_cons, ih]
    rfl
theorem nvs_set (l : List Nat) (i x : Nat) : (nvs l).set i (nv x) = nvs (l.set i x) := by
  unfold nvs
  rw [List.map_set]
theorem ixN_nat {n i : Nat} (h : i < n) : ixN n (i : Int) = some i := by
  unfold ixN
  rw [if_pos (by omega), if_pos (by omega), Int.toNat_natCast]
theorem nvs_at {l : List Nat} {i : Nat} (h : i < l.length) : (nvs l)[i]? = some (nv (l.getD i 0)) := by
  rw [List.getElem?_map, List.getD_eq_getElem?_getD, List.getElem?_eq_getElem h]
  rfl
theorem kn_set {l : List Nat} {i x : Nat} : (nvs l).set i (V.int (Builtin.bitOr ((l.getD i 0 : Nat) : Int) ((2 ^ x : Nat) : Int))) = nvs (Wc.knSet l i x) := by
  rw [bor]
  exact nvs_set _ _ _
theorem net_take {ns : List Int} {i : Nat} {z : Int × Int} (h : (Wc.prs ns)[i]? = some z) (ks : List Nat) : ((net (Wc.natsOf ns)).take (i + 1)).foldl Wc.knTurn ks = Wc.knTurn (((net (Wc.natsOf ns)).take i).foldl Wc.knTurn ks) (Wc.toN z) := by
  have e : (net (Wc.natsOf ns))[i]? = some (Wc.toN z) := by
    rw [Wc.net_prs, List.getElem?_map, h]
    rfl
  rw [take_more e, List.foldl_append]
  rfl
theorem kn_len (g : Net) : ∀ ks : List Nat, (g.foldl Wc.knTurn ks).length = ks.length := by
  induction g with
  | nil => intro ks; rfl
  | cons e r ih => intro ks; rw [List.foldl_cons, ih, Wc.knTurn_len]
theorem okPair_nat {n : Nat} {ns : List Int} (h0 : ∀ x ∈ ns, 0 ≤ x) (hall : (Wc.prs ns).all (Wc.okPair n) = true) {i : Nat} {z : Int × Int} (h : (Wc.prs ns)[i]? = some z) : ∃ x y : Nat, z = ((x : Int), (y : Int)) ∧ x < n ∧ y < n := by
  have hm := List.mem_of_getElem? h
  obtain ⟨a, b⟩ := Wc.prs_mem hm
  have h1 := List.all_eq_true.mp hall z hm
  obtain ⟨x, y⟩ := z
  obtain ⟨x', hx⟩ := Int.eq_ofNat_of_zero_le (h0 _ a)
  obtain ⟨y', hy⟩ := Int.eq_ofNat_of_zero_le (h0 _ b)
  simp only at hx hy
  subst hx hy
  unfold Wc.okPair at h1
  simp only [Bool.and_eq_true, decide_eq_true_eq] at h1
  exact ⟨x', y', rfl, by omega, by omega⟩
theorem net_len (ns : List Int) : (net (Wc.natsOf ns)).length = (Wc.prs ns).length := by rw [Wc.net_prs, List.length_map]
section
variable {P : Program} {w : World} {K : PySem.W.Frag} {mg : Str → Option Value} {base : Heap} {C : Addr}
theorem ok_PT {f f1 f2 : Addr} {fd fd1 fd2 : FuncData} {t t2 : Tok} (F : Fun K "are_pairs_told" "are_pairs_told" sPT f fd) (c1 : Cal P w K mg base "pairs_of" 1 ["row"] (spPairs K) f1 fd1) (c2 : Cal P w K mg base "is_pair" 1 ["many", "one", "other"] spIsPair f2 fd2)
    (ml : mg "len" = none) (ma : mg "all" = none) (mp : mg "PAIR" = some (.int 2 t)) (mm : mg "MOST_PAIRS" = some (.int 28 t2)) : FnOk P w K mg base CX0 2 f fd ["many", "row"] (spPT K) := by
  refine F.ok scPT (fun vs H Q E h => ?_) (fun cdv A outer s H vs Q E hr h => ?_)
  · obtain ⟨n, a, ns, rfl, _⟩ := h
    rfl
  · obtain ⟨n, a, ns, rfl, hS, hlen, q⟩ := h
    refine ⟨_, pss_cons (ps_if (PW.pt (pw_or (pt_cmp (pc_neI (pe_op op_modN (pe_callB call_len_seq (by rfl) ml PySem.boot_len (pa_cons (pv 1) pa_nil)) (pe_glob (v := .int 2) (by rfl) mp ⟨_, rfl⟩)) pe_int))
        (pw_or1 (pt_cmp (pc_gt (pe_callB call_len_seq (by rfl) ml PySem.boot_len (pa_cons (pv 1) pa_nil)) (pe_op op_mul (pe_glob (v := .int 2) (by rfl) mp ⟨_, rfl⟩) (pe_glob (v := .int 28) (by rfl) mm ⟨_, rfl⟩)))))))
        (pss_one (ps_ret pe_bl)) pss_nil)
      (pss_one (ps_ret (pe_callB (cr_all rfl) (by rfl) ma (by decide +kernel) (pa_cons (pe_lc (own := [("one", 2), ("other", 3)]) (g := gTup K 2 (gCons (gName 2) (gCons (gName 3) gNil))) (tt := tYes) (te := tCall spIsPair [] E0 (tCons (tVar 0) (tCons (tVar 2) (tCons (tVar 3) tNil)))) rfl scPT.nd
        (pi_list (pe_c c1 hr (by rfl) (pa_cons (pv 1) pa_nil))) (blkOk_by (own := [("one", 2), ("other", 3)]) (N := ["many", "row", "one", "other"]) (sc := defScope sPT) (by decide +kernel))
        (fun _ _ _ _ _ => pg_tup rfl (pgs_cons (pg_name (i := 2) scPT.nd rfl (Or.inl rfl)) (pgs_cons (pg_name (i := 3) scPT.nd rfl (Or.inl rfl)) pgs_nil))) (fun _ _ _ _ _ => pts_nil)
        (fun _ _ _ _ _ => pe_c c2 hr (by rfl) (pa_cons (pv 0) (pa_cons (pv 2) (pa_cons (pv 3) pa_nil))))) pa_nil)))), ?_⟩
    have hl : (ns.map V.int).length = ns.length := List.length_map _
    refine ⟨_, rfl, a, _, rfl, .inl hS, (ns.length : Int), 2, congrArg (fun z : Nat => V.int (z : Int)) hl, rfl, (show (2 : Int) ≠ 0 by decide), Int.fmod (ns.length : Int) 2, 0, rfl, rfl, !decide (ns.length % 2 = 0), bl_eq (odd_test ns.length), ?_⟩
    have bad : ∀ {b : Bool}, pairsTold n ns = b → b = false → Q (.bl false) H := fun e1 e2 => qe (Q := Q) (bl_eq (e1.trans e2).symm) (q H (Same.refl H))
    by_cases c1' : ns.length % 2 = 0
    · rw [decide_eq_true c1']
      refine iteF ⟨_, rfl, a, _, rfl, .inl hS, _, _, rfl, rfl, .inl ⟨by decide, by decide⟩, (ns.length : Int), 56, congrArg (fun z : Nat => V.int (z : Int)) hl, rfl, decide (56 < (ns.length : Int)), rfl, ?_⟩
      by_cases c2' : ns.length ≤ 56
      · rw [decide_eq_false (show ¬ (56 : Int) < (ns.length : Int) by omega)]
        refine iteF ?_
        refine ⟨_, rfl, a, ns, rfl, hS, c1', hlen, fun l ps H1 s1 nl hl1 hps => ⟨l, rfl, ⟨_, SqL.of hl1⟩, fun D hD => ?_⟩⟩
        refine lc_list (K := K) (a := l) (xs := ps.map V.ref) (fun i H' => Same H1 H' ∧ H' D = some (.lst ((((Wc.prs ns).take i).map (Wc.okPair n)).map V.bl))) ⟨same_upd hD, upd_same⟩ (fun i H' _ hP => hP.1.seq (SqL.of hl1)) ?_ ?_
        · intro i x H' hx hP
          obtain ⟨sm, hl'⟩ := hP
          obtain ⟨p, hp, rfl⟩ := ref_get hx
          obtain ⟨z, hz, hpz⟩ := prs_get hps hp
          refine ⟨p, [.int z.1, .int z.2], rfl, SqT.of (sm _ _ hpz), rfl, .int z.1, [.int z.2], rfl, .int z.2, [], rfl, rfl, rfl, ?_⟩
          unfold tYes
          dsimp only
          rw [if_pos rfl]
          refine ⟨_, rfl, _, rfl, _, rfl, n, z, rfl, _, hl', ?_, same_set sm hD, ?_⟩
          · rw [List.length_map, List.length_map, List.length_take]
            have := Wc.prs_len ns
            exact small1000 (by omega)
          · rw [upd_same, take_more hz, List.map_append, List.map_append]
            rfl
        · intro H' hP
          obtain ⟨sm, hl'⟩ := hP
          have hpl : ps.length = (Wc.prs ns).length := by
            have := hps.1
            rw [List.length_map] at this
            exact this
          rw [List.take_of_length_le (by rw [List.length_map, hpl]; exact Nat.le_refl _)] at hl'
          refine ⟨D, _, rfl, SqL.of hl', ?_⟩
          rw [all_ok]
          refine qe (Q := Q) (bl_eq ?_) (q H' (s1.trans sm))
          unfold pairsTold
          rw [decide_eq_true c1', decide_eq_true c2']
          rfl
      · rw [decide_eq_true (show (56 : Int) < (ns.length : Int) by omega)]
        refine iteT (bad rfl ?_)
        unfold pairsTold
        rw [decide_eq_false c2', Bool.and_false, Bool.false_and]
    · rw [decide_eq_false c1']
      refine iteT (bad rfl ?_)
      unfold pairsTold
      rw [decide_eq_false c1', Bool.false_and, Bool.false_and]
theorem ok_partyOf {f f1 f2 fi : Addr} {fd fd1 fd2 fdi : FuncData} (F : Fun K "party_of" "party_of" sPartyOf f fd) (T : Txt K mg C) (c1 : Cal P w K mg base "pairs_of" 1 ["row"] (spPairs K) f1 fd1) (c2 : Cal P w K mg base "bit" 1 ["guest"] spBit f2 fd2)
    (M : Mk K C fi) (GI : FnOk P w K mg base CX0 1 fi fdi ["self", "many", "known"] (spInit C)) (bi : Binds K fdi ["self", "many", "known"] []) : FnOk P w K mg base CX0 3 f fd ["many", "row"] (spPartyOf K C) := by
  refine F.ok scPartyOf (fun vs H Q E h => ?_) (fun cdv A outer s H vs Q E hr h => ?_)
  · obtain ⟨n, a, ns, rfl, _⟩ := h
    rfl
  · obtain ⟨n, a, ns, rfl, hS, hlen, hev, hn, h0, hall, q⟩ := h
    have hr1 : Room 1 _ := hr.mono (by decide)
    refine ⟨_, pss_cons (ps_set (i := 2) scPartyOf.nd rfl (Or.inl rfl) (pe_op op_rep (pe_lst (pa_cons pe_int pa_nil)) (pv 0)))
      (pss_cons (ps_for PassesOwn.never rfl (pi_list (pe_c c1 hr1 (by rfl) (pa_cons (pv 1) pa_nil))) (pg_tup rfl (pgs_cons (pg_name (i := 3) scPartyOf.nd rfl (Or.inl rfl)) (pgs_cons (pg_name (i := 4) scPartyOf.nd rfl (Or.inl rfl)) pgs_nil)))
        (pss_cons (ps_asg (pe_op op_or (pe_ix ix_list (pv 2) (pv 3) (fun _ _ => rfl)) (pe_c c2 hr1 (by rfl) (pa_cons (pv 4) pa_nil))) (pg_sub (pv 2) (pv 3) set_list))
        (pss_one (ps_asg (pe_op op_or (pe_ix ix_list (pv 2) (pv 4) (fun _ _ => rfl)) (pe_c c2 hr1 (by rfl) (pa_cons (pv 3) pa_nil))) (pg_sub (pv 2) (pv 4) set_list)))))
      (pss_one (ps_ret (pe_make M GI hr (by rfl) T.gC bi .nil pass0 (pa_cons (pv 0) (pa_cons (pv 2) pa_nil)))))), ?_⟩
    -- known = [0] * many
    refine ⟨by show 1 ≤ sizeLine; decide, fun z hz => ⟨_, rfl, z, (n : Int), [.int 0], rfl, rfl, upd_same, by omega, by omega, ?_, fun kl hkl => ?_⟩⟩
    · show 1 * n ≤ sizeLine
      exact Nat.le_of_lt (small1000 (by omega))
    rw [Int.toNat_natCast, zeros]
    have sz : Same H (upd (upd H z (.lst [.int 0])) kl (.lst (nvs (List.replicate n 0)))) := (same_upd hz).trans (same_upd hkl)
    have nk0 : H kl = none := (same_upd hz).free hkl
    -- for one, other in pairs_of(row)
    refine ⟨_, rfl, a, ns, rfl, sz.seq hS, hev, hlen, fun l ps H1 s1 nl hl1 hps => ⟨l, rfl, ⟨_, SqL.of hl1⟩, ?_⟩⟩
    have hk1 : H1 kl = some (.lst (nvs (List.replicate n 0))) := s1 _ _ upd_same
    have nlk : l ≠ kl := fun e => by
      rw [e, upd_same] at nl
      cases nl
    refine for_list (K := K) (a := l) (xs := ps.map V.ref) (fun i σ H' => ∃ y3 y4, σ = [some (nv n), some (.ref a), some (.ref kl), y3, y4] ∧ (∀ b o, b ≠ kl → H1 b = some o → H' b = some o) ∧ H' kl = some (.lst (nvs (((net (Wc.natsOf ns)).take i).foldl Wc.knTurn (List.replicate n 0)))))
      ⟨none, none, rfl, fun _ _ _ e => e, hk1⟩ (fun i σ H' _ hP => ?_) ?_ ?_
    · obtain ⟨_, _, _, kp, _⟩ := hP
      exact SqL.of (kp _ _ nlk hl1)
    · intro i x σ H' hx hP
      obtain ⟨y3, y4, rfl, kp, hk⟩ := hP
      obtain ⟨p, hp, rfl⟩ := ref_get hx
      obtain ⟨z', hz', hpz⟩ := prs_get hps hp
      obtain ⟨x, y, rfl, hxn, hyn⟩ := okPair_nat h0 hall hz'
      have npk : p ≠ kl := fun e => by
        rw [e, hk1] at hpz
        cases hpz
      have e1 := net_take hz' (List.replicate n 0)
      have hklen : (((net (Wc.natsOf ns)).take i).foldl Wc.knTurn (List.replicate n 0)).length = n := by rw [kn_len, List.length_replicate]
      rw [e1]
      generalize ((net (Wc.natsOf ns)).take i).foldl Wc.knTurn (List.replicate n 0) = ks at hk hklen
      refine ⟨p, [nv x, nv y], rfl, SqT.of (kp _ _ npk hpz), rfl, nv x, [nv y], rfl, nv y, [], rfl, rfl, ?_⟩
      -- known[one] = known[one] | bit(other)
      refine ⟨_, rfl, _, rfl, kl, nvs ks, (x : Int), nv (ks.getD x 0), rfl, rfl, SqL.of hk, atI_nat (nvs_at (by omega)), _, rfl, y, rfl, by omega, ((ks.getD x 0 : Nat) : Int), ((2 ^ y : Nat) : Int), rfl, rfl,
        _, rfl, _, rfl, kl, nvs ks, (x : Int), x, rfl, rfl, hk, ixN_nat (by rw [List.length_map]; omega), ?_⟩
      rw [kn_set]
      have hl2 : (Wc.knSet ks x y).length = n := by rw [Wc.knSet_len, hklen]
      refine ⟨_, rfl, _, rfl, kl, nvs (Wc.knSet ks x y), (y : Int), nv ((Wc.knSet ks x y).getD y 0), rfl, rfl, SqL.of upd_same, atI_nat (nvs_at (by omega)), _, rfl, x, rfl, by omega, (((Wc.knSet ks x y).getD y 0 : Nat) : Int), ((2 ^ x : Nat) : Int), rfl, rfl,
        _, rfl, _, rfl, kl, nvs (Wc.knSet ks x y), (y : Int), y, rfl, rfl, upd_same, ixN_nat (by rw [List.length_map]; omega), ?_⟩
      rw [kn_set]
      refine ⟨some (nv x), some (nv y), rfl, fun b o nb e => ?_, upd_same⟩
      rw [upd_ne nb, upd_ne nb]
      exact kp b o nb e
    · intro σ H' hP
      obtain ⟨y3, y4, rfl, kp, hk⟩ := hP
      have hpl : ps.length = (Wc.prs ns).length := by
        have := hps.1
        rw [List.length_map] at this
        exact this
      rw [List.take_of_length_le (by rw [List.length_map, hpl, net_len]; exact Nat.le_refl _)] at hk
      have sm : Same H H' := fun b o e => by
        have nb : b ≠ kl := ne_of_none e nk0
        exact kp b o nb (s1 _ _ (sz _ _ e))
      refine ⟨_, rfl, _, rfl, fun x dx nx nd ne => ⟨x, dx, kl, n, rfl, upd_same, fun H2 hx2 hk2 => ⟨rfl, ?_⟩⟩⟩
      have s3 : Same H' H2 := Same.made nx nd hk2
      exact q x H2 (sm.trans s3) (sm.free nx) ⟨dx, kl, hx2, s3 _ _ hk⟩
theorem ok_IPT {f f1 f2 : Addr} {fd fd1 fd2 : FuncData} (F : Fun K "is_party_told" "is_party_told" sIPT f fd) (c1 : Cal P w K mg base "are_guests_told" 1 ["many"] spGT f1 fd1) (c2 : Cal P w K mg base "are_pairs_told" 2 ["many", "row"] (spPT K) f2 fd2) :
    FnOk P w K mg base CX0 3 f fd ["n", "pairs"] (spIPT K) := by
  refine F.ok scIPT (fun vs H Q E h => ?_) (fun cdv A outer s H vs Q E hr h => ?_)
  · obtain ⟨n, a, ns, rfl, _⟩ := h
    rfl
  · obtain ⟨n, a, ns, rfl, hS, hlen, q⟩ := h
    refine ⟨_, pss_one (ps_ret (pe_and (pe_c c1 (hr.mono (by decide)) (by rfl) (pa_cons (pv 0) pa_nil)) (pe_one (pe_c c2 hr (by rfl) (pa_cons (pv 0) (pa_cons (pv 1) pa_nil)))))), ?_⟩
    have e : Wc.told n ns = ((decide (1 ≤ n) && decide (n ≤ 8)) && pairsTold n ns) := rfl
    refine ⟨_, rfl, n, rfl, decide (1 ≤ n) && decide (n ≤ 8), rfl, ?_⟩
    rw [e] at q
    cases c : (decide (1 ≤ n) && decide (n ≤ 8)) with
    | false =>
      rw [c] at q
      exact iteF (q H (Same.refl H))
    | true =>
      rw [c] at q
      exact iteT ⟨_, rfl, _, rfl, n, a, ns, rfl, hS, hlen, q⟩
end
/-! ### one by one -/
abbrev sOne : Stmt := topS 10
theorem scOne : FnScope ["party", "wanted", "sure_ones", "coming", "found", "leaving"] ["party", "wanted", "sure_ones"] (defScope sOne) := ⟨rfl, rfl, rfl, by decide +kernel, rfl, by decide +kernel, by decide +kernel⟩
theorem cut_one {x : V} {r : List V} : cutV (x :: r) none (some 1) = [x] := by
  unfold cutV
  rw [HT.sIx_none, show HT.sIx (x :: r).length (x :: r).length (some 1) = min 1 (x :: r).length from HT.sIx_nat _ _ 1]
  have e : min 1 (x :: r).length - 0 = 1 := by
    rw [List.length_cons]
    omega
  rw [e]
  rfl
section
variable {P : Program} {w : World} {K : PySem.W.Frag} {mg : Str → Option Value} {base : Heap} {C : Addr}
theorem ok_one {f f1 f2 f3 : Addr} {fd fd1 fd2 fd3 : FuncData} (F : Fun K "one_by_one" "one_by_one" sOne f fd) (T : Txt K mg C) (c1 : Cal P w K mg base "everybody" 2 ["many"] spEvery f1 fd1) (c2 : Cal P w K mg base "who_cannot" 6 ["party", "wanted", "sure_ones", "coming"] (spWho C) f2 fd2)
    (c3 : Cal P w K mg base "without" 2 ["coming", "guests"] (spWithout K) f3 fd3) : FnOk P w K mg base CX0 7 f fd ["party", "wanted", "sure_ones"] (spOne C) := by
  refine F.ok scOne (fun vs H Q E h => ?_) (fun cdv A outer s H vs Q E hr h => ?_)
  · obtain ⟨p, n, k, a, g, ks, rfl, _⟩ := h
    rfl
  · obtain ⟨p, n, k, a, g, ks, rfl, hp, hK, hn, q⟩ := h
    have hr2 : Room 2 _ := hr.mono (by decide)
    refine ⟨_, pss_cons (ps_set (i := 3) scOne.nd rfl (Or.inl rfl) (pe_c c1 hr2 (by rfl) (pa_cons (pe_fld (pv 0) rfl) pa_nil)))
      (pss_cons (ps_set (i := 4) scOne.nd rfl (Or.inl rfl) (pe_lst pa_nil))
      (pss_cons (ps_set (i := 5) scOne.nd rfl (Or.inl rfl) (pe_c c2 hr (by rfl) (pa_cons (pv 0) (pa_cons (pv 1) (pa_cons (pv 2) (pa_cons (pv 3) pa_nil))))))
      (pss_cons (ps_while PassesOwn.never (pt_cmpR (op_neD hr.units) (pv 5) (pe_lst pa_nil) (nomark _))
        (pss_cons (ps_set (i := 3) scOne.nd rfl (Or.inl rfl) (pe_c c3 hr2 (by rfl) (pa_cons (pv 3) (pa_cons (pe_slice sl_list (pv 5) po_none (po_some pe_int)) pa_nil))))
        (pss_cons (ps_expr (pe_bm PySem.F.plainAttrs_list PySem.F.slot_list_append PySem.F.type_list_append mt_append (pv 4) (pa_cons (pe_ix ix_list (pv 5) pe_int (fun _ _ => rfl)) pa_nil)))
        (pss_one (ps_set (i := 5) scOne.nd rfl (Or.inl rfl) (pe_c c2 hr (by rfl) (pa_cons (pv 0) (pa_cons (pv 1) (pa_cons (pv 2) (pa_cons (pv 3) pa_nil))))))))))
      (pss_one (ps_ret (pv 4)))))), ?_⟩
    obtain ⟨dx, r0, h1, h2⟩ := id hp
    refine ⟨_, rfl, p, C, dx, _, _, rfl, h1, T.cl, T.nM, pF_many n r0, n, rfl, hn, ?_⟩
    refine ⟨Nat.zero_le _, fun lf nlf => ?_⟩
    have s0 : Same H (upd H lf (.lst [])) := same_upd nlf
    refine ⟨_, rfl, _, rfl, _, rfl, _, rfl, p, n, k, a, 2 ^ n - 1, g, ks, rfl, hp.same s0, hK, hn, fun l H1 s1 nl hl => ?_⟩
    refine ⟨fun μ σ H' => ∃ m fl l, σ = [some (.ref p), some (nv k), some (nv a), some (nv m), some (.ref lf), some (.ref l)] ∧ Wc.LInv n k g a fl m ∧ Same H H' ∧ H' lf = some (.lst (nvs fl)) ∧ H' l = some (.lst (nvs (Wc.wc n k g a m))) ∧ l ≠ lf ∧ μ = Kzf2.size n m,
      ⟨_, 2 ^ n - 1, [], l, rfl, Wc.linv_start n k g a, s0.trans s1, s1 _ _ upd_same, hl, (ne_of_none upd_same nl).symm, rfl⟩, fun μ σ H' hW => ?_⟩
    obtain ⟨m, fl, l, rfl, hL, sm, hf, hl, nlf', rfl⟩ := hW
    refine ⟨_, rfl, by show 0 ≤ sizeLine; exact Nat.zero_le _, fun z hz => ⟨.list (dat (Wc.wc n k g a m)), .list [], .lst (SqL.of (by rw [upd_ne (ne_of_none hl hz)]; exact hl)) (dat_of _), .lst (SqL.of upd_same) .nil, dat_shaped _, dat_shaped [], ?_⟩⟩
    have s3 : Same H' (upd H' z (.lst [])) := same_upd hz
    have sz : Same H (upd H' z (.lst [])) := sm.trans s3
    have hlz := s3 _ _ hl
    have hfz := s3 _ _ hf
    generalize upd H' z (.lst []) = H2 at sz hlz hfz
    by_cases hw : Wc.wc n k g a m = []
    · refine ⟨false, bl_eq ((dat_ne _).trans (by rw [hw]; rfl)), iteF ?_⟩
      have e := Wc.linv_end hL hw
      rw [e] at hfz
      exact ⟨_, rfl, q lf H2 sz nlf hfz⟩
    · refine ⟨true, bl_eq ((dat_ne _).trans (ne_empty hw)), iteT ?_⟩
      obtain ⟨x, r, hxr⟩ : ∃ x r, Wc.wc n k g a m = x :: r := by
        cases e : Wc.wc n k g a m with
        | nil => exact absurd e hw
        | cons x r => exact ⟨x, r, rfl⟩
      obtain ⟨hL2, hlt⟩ := Wc.linv_turn hL hxr
      have hx : x ∈ Wc.wc n k g a m := by rw [hxr]; exact List.mem_cons_self
      refine ⟨fun σ' H'' => ∃ m', m' < Kzf2.size n m ∧ ∃ m fl l, σ' = [some (.ref p), some (nv k), some (nv a), some (nv m), some (.ref lf), some (.ref l)] ∧ Wc.LInv n k g a fl m ∧ Same H H'' ∧ H'' lf = some (.lst (nvs fl)) ∧ H'' l = some (.lst (nvs (Wc.wc n k g a m))) ∧ l ≠ lf ∧ m' = Kzf2.size n m, fun _ _ h => h, ?_⟩
      rw [hxr] at hlz
      -- coming = without(coming, leaving[:1])
      refine ⟨_, rfl, _, rfl, 1, rfl, l, _, rfl, SqL.of hlz, fun c nc => ?_⟩
      have ec : cutV (nvs (x :: r)) none (some 1) = nvs [x] := cut_one
      rw [ec]
      have s4 : Same H2 (upd H2 c (.lst (nvs [x]))) := same_upd nc
      refine ⟨m, c, [x], rfl, SqL.of upd_same, (by simp : [x].Nodup), fun i hi => ?_, ?_⟩
      · have e : i = x := by simpa using hi
        rw [e]
        exact ⟨(Wc.wc_has hx).2, by have := (Wc.wc_has hx).1; omega⟩
      have hfc := s4 _ _ hfz
      have hlc := s4 _ _ hlz
      have sc := sz.trans s4
      generalize upd H2 c (.lst (nvs [x])) = H3 at hfc hlc sc
      -- found.append(leaving[0])
      have hflen := Wc.linv_len hL
      refine ⟨.ref lf, rfl, .inl ⟨rfl, _, SqL.of hfc⟩, _, rfl, l, nvs (x :: r), 0, nv x, rfl, rfl, SqL.of hlc, atI_nat (j := 0) rfl, lf, _, _, rfl, rfl, hfc, small1000 (by rw [List.length_map]; omega), ?_⟩
      have s5 : Same H (upd H3 lf (.lst (nvs fl ++ [nv x]))) := same_set sc nlf
      refine ⟨_, rfl, _, rfl, _, rfl, _, rfl, p, n, k, a, m - 2 ^ x, g, ks, rfl, hp.same s5, hK, hn, fun l2 H4 s6 nl2 hl2 => ?_⟩
      exact ⟨_, hlt, _, fl ++ [x], l2, rfl, hL2, s5.trans s6, (s6 _ _ upd_same).trans (congrArg (fun z => some (HO.lst z)) (nvs_push fl x).symm), hl2, (ne_of_none upd_same nl2).symm, rfl⟩
end
/-! ### wishes told, all told -/
abbrev sWT : Stmt := topS 21
abbrev sIAT : Stmt := topS 26
theorem scWT : FnScope ["many", "wanted", "sure_ones"] ["many", "wanted", "sure_ones"] (defScope sWT) := ⟨rfl, rfl, rfl, by decide +kernel, rfl, by decide +kernel, by decide +kernel⟩
theorem scIAT : FnScope ["n", "k", "sure_bits", "pairs"] ["n", "k", "sure_bits", "pairs"] (defScope sIAT) := ⟨rfl, rfl, rfl, by decide +kernel, rfl, by decide +kernel, by decide +kernel⟩
section
variable {P : Program} {w : World} {K : PySem.W.Frag} {mg : Str → Option Value} {base : Heap} {C : Addr}
theorem ok_WT {f f1 : Addr} {fd fd1 : FuncData} {t : Tok} (F : Fun K "are_wishes_told" "are_wishes_told" sWT f fd) (c1 : Cal P w K mg base "bit" 1 ["guest"] spBit f1 fd1) (mp : mg "MOST_WANTED" = some (.int 8 t)) : FnOk P w K mg base CX0 2 f fd ["many", "wanted", "sure_ones"] spWT := by
  refine F.ok scWT (fun vs H Q E h => ?_) (fun cdv A outer s H vs Q E hr h => ?_)
  · obtain ⟨n, k, a, rfl, _⟩ := h
    rfl
  · obtain ⟨n, k, a, rfl, hn, q⟩ := h
    refine ⟨_, pss_one (ps_ret (pe_and (pe_cmp (pc_le (pv 1) (pe_glob (v := .int 8) (by rfl) mp ⟨_, rfl⟩)) rfl) (pe_one (pe_cmp (pc_lt (pv 2) (pe_c c1 hr (by rfl) (pa_cons (pv 0) pa_nil))) rfl)))), ?_⟩
    rw [← le_cast, ← lt_cast] at q
    refine ⟨_, rfl, (k : Int), 8, rfl, rfl, decide ((k : Int) ≤ 8), rfl, ?_⟩
    cases c1 : decide ((k : Int) ≤ 8) with
    | false =>
      rw [show decide ((k : Int) ≤ ((8 : Nat) : Int)) = false from c1] at q
      exact iteF q
    | true =>
      rw [show decide ((k : Int) ≤ ((8 : Nat) : Int)) = true from c1] at q
      exact iteT ⟨_, rfl, _, rfl, n, rfl, hn, (a : Int), ((2 ^ n : Nat) : Int), rfl, rfl, q⟩
theorem ok_IAT {f f1 f2 : Addr} {fd fd1 fd2 : FuncData} (F : Fun K "is_all_told" "is_all_told" sIAT f fd) (c1 : Cal P w K mg base "is_party_told" 3 ["n", "pairs"] (spIPT K) f1 fd1) (c2 : Cal P w K mg base "are_wishes_told" 2 ["many", "wanted", "sure_ones"] spWT f2 fd2) :
    FnOk P w K mg base CX0 4 f fd ["n", "k", "sure_bits", "pairs"] (spIAT K) := by
  refine F.ok scIAT (fun vs H Q E h => ?_) (fun cdv A outer s H vs Q E hr h => ?_)
  · obtain ⟨n, k, b, a, ns, rfl, _⟩ := h
    rfl
  · obtain ⟨n, k, b, a, ns, rfl, hS, hlen, q⟩ := h
    refine ⟨_, pss_one (ps_ret (pe_and (pe_c c1 hr (by rfl) (pa_cons (pv 0) (pa_cons (pv 3) pa_nil))) (pe_one (pe_c c2 (hr.mono (by decide)) (by rfl) (pa_cons (pv 0) (pa_cons (pv 1) (pa_cons (pv 2) pa_nil))))))), ?_⟩
    refine ⟨_, rfl, _, rfl, n, a, ns, rfl, hS, hlen, fun H' sm => ⟨Wc.told n ns, rfl, ?_⟩⟩
    have q' := q H' sm
    cases c : Wc.told n ns with
    | false =>
      rw [c] at q'
      exact iteF q'
    | true =>
      rw [c] at q'
      have h8 := (Wc.told_parts c).2.1
      exact iteT ⟨_, rfl, _, rfl, _, rfl, n, k, b, rfl, by omega, q'⟩
end
/-! ### cancels -/
abbrev sMain : Stmt := topS 27
theorem scMain : FnScope ["n", "k", "sure_bits", "pairs", "leaving"] ["n", "k", "sure_bits", "pairs"] (defScope sMain) := ⟨rfl, rfl, rfl, by decide +kernel, rfl, by decide +kernel, by decide +kernel⟩
def spMain (K : PySem.W.Frag) : Sp := fun vs H Q _ => ∃ (n k b : Nat) (a : Addr) (ns : List Int), vs = [nv n, nv k, nv b, .ref a] ∧ SqL K H a (ns.map V.int) ∧ ns.length ≤ 60 ∧ (∀ x ∈ ns, 0 ≤ x) ∧
  ∀ (H' : Hp) (p : Addr), H' p = some (.lst ((PyKzf2.cancels n k b ns).map V.int)) → Q (.ref p) H'
section
variable {P : Program} {w : World} {K : PySem.W.Frag} {mg : Str → Option Value} {base : Heap} {C : Addr}
theorem ok_main {f f1 f2 f3 rl : Addr} {fd fd1 fd2 fd3 : FuncData} (F : Fun K "cancels" "cancels" sMain f fd) (c1 : Cal P w K mg base "is_all_told" 4 ["n", "k", "sure_bits", "pairs"] (spIAT K) f1 fd1)
    (c2 : Cal P w K mg base "one_by_one" 7 ["party", "wanted", "sure_ones"] (spOne C) f2 fd2) (c3 : Cal P w K mg base "party_of" 3 ["many", "row"] (spPartyOf K C) f3 fd3)
    (ml : mg "list" = none) (mn : mg "len" = none) (mr : mg "REFUSED" = some (.ref rl)) (hrl : ∀ H : Hp, SqL K H rl [.int (-22)]) : FnOk P w K mg base CX0 8 f fd ["n", "k", "sure_bits", "pairs"] (spMain K) := by
  refine F.ok scMain (fun vs H Q E h => ?_) (fun cdv A outer s H vs Q E hr h => ?_)
  · obtain ⟨n, k, b, a, ns, rfl, _⟩ := h
    rfl
  · obtain ⟨n, k, b, a, ns, rfl, hS, hlen, h0, q⟩ := h
    refine ⟨_, pss_cons (ps_if (pt_not (pt_val (pe_c c1 (hr.mono (by decide)) (by rfl) (pa_cons (pv 0) (pa_cons (pv 1) (pa_cons (pv 2) (pa_cons (pv 3) pa_nil)))))))
        (pss_one (ps_ret (pe_callTy call_list_of (by rfl) ml (by decide +kernel) (pa_cons (pe_glob (v := .ref rl) (by rfl) mr rfl) pa_nil)))) pss_nil)
      (pss_cons (ps_set (i := 4) scMain.nd rfl (Or.inl rfl) (pe_c c2 hr (by rfl) (pa_cons (pe_c c3 (hr.mono (by decide)) (by rfl) (pa_cons (pv 0) (pa_cons (pv 3) pa_nil))) (pa_cons (pv 1) (pa_cons (pv 2) pa_nil)))))
      (pss_one (ps_ret (pe_op op_cat (pe_lst (pa_cons (pe_callB call_len_seq (by rfl) mn PySem.boot_len (pa_cons (pv 4) pa_nil)) pa_nil)) (pv 4))))), ?_⟩
    refine ⟨_, rfl, _, rfl, _, rfl, _, rfl, n, k, b, a, ns, rfl, hS, by omega, fun H1 s1 => ⟨_, rfl, ?_⟩⟩
    rw [Wc.cancels_is h0] at q
    cases c : (Wc.told n ns && (decide (k ≤ 8) && decide (b < 2 ^ n))) with
    | false =>
      rw [c, if_neg Bool.false_ne_true] at q
      refine iteT ⟨rl, _, rfl, .inl (hrl H1), fun l nl => q _ l upd_same⟩
    | true =>
      rw [c, if_pos rfl] at q
      rw [Bool.and_eq_true] at c
      obtain ⟨g1, g8, hev, hall⟩ := Wc.told_parts c.1
      refine iteF ⟨_, rfl, _, rfl, n, a, ns, rfl, s1.seq hS, by omega, hev, by omega, h0, hall, fun p H2 s2 np hp => ?_⟩
      refine ⟨_, rfl, _, rfl, p, n, k, b, net (Wc.natsOf ns), _, rfl, hp, Wc.told_known h0 hall, by omega, fun l H3 s3 nl hl => ?_⟩
      have hcl := Wc.cancels_len n k (net (Wc.natsOf ns)) b
      refine ⟨_, rfl, l, _, rfl, .inl (SqL.of hl), by show 1 ≤ sizeLine; decide, fun z hz => ?_⟩
      have hlz : upd H3 z (.lst [V.int ((nvs (Kzf2.cancels n k (net (Wc.natsOf ns)) b)).length : Int)]) l = some (.lst (nvs (Kzf2.cancels n k (net (Wc.natsOf ns)) b))) := by rw [upd_ne (ne_of_none hl hz)]; exact hl
      refine ⟨_, rfl, z, l, _, _, rfl, rfl, upd_same, hlz, ?_, fun y ny => q _ y ?_⟩
      · rw [List.length_map]
        exact Nat.le_of_lt (small1000 (by show 1 + (Kzf2.cancels n k (net (Wc.natsOf ns)) b).length ≤ 1000; omega))
      · rw [upd_same, List.length_map, List.map_cons, List.map_map]
        rfl
end
/-! ### the end -/
theorem all_mk {P : Program} {w : World} {K : PySem.W.Frag} {h : Heap} {mg : Str → Option Value} {fa C f_init rl : Addr} (X : K.In h) (G : h.Ns mainGlobals mg) (hfa : mg "cancels" = some (.ref fa))
    {f_bit : Addr} {od_bit an_bit : Option Addr} {sl_bit : Array (Option Value)} {oc_bit kV_bit dc_bit pm_bit cd_bit ct_bit : Value}
    {f_has : Addr} {od_has an_has : Option Addr} {sl_has : Array (Option Value)} {oc_has kV_has dc_has pm_has cd_has ct_has : Value}
    {f_everybody : Addr} {od_everybody an_everybody : Option Addr} {sl_everybody : Array (Option Value)} {oc_everybody kV_everybody dc_everybody pm_everybody cd_everybody ct_everybody : Value}
    {f_guests_of : Addr} {od_guests_of an_guests_of : Option Addr} {sl_guests_of : Array (Option Value)} {oc_guests_of kV_guests_of dc_guests_of pm_guests_of cd_guests_of ct_guests_of : Value}
    {f_count : Addr} {od_count an_count : Option Addr} {sl_count : Array (Option Value)} {oc_count kV_count dc_count pm_count cd_count ct_count : Value}
    {f_cannot : Addr} {od_cannot an_cannot : Option Addr} {sl_cannot : Array (Option Value)} {oc_cannot kV_cannot dc_cannot pm_cannot cd_cannot ct_cannot : Value}
    {f_who_cannot : Addr} {od_who_cannot an_who_cannot : Option Addr} {sl_who_cannot : Array (Option Value)} {oc_who_cannot kV_who_cannot dc_who_cannot pm_who_cannot cd_who_cannot ct_who_cannot : Value}
    {f_without : Addr} {od_without an_without : Option Addr} {sl_without : Array (Option Value)} {oc_without kV_without dc_without pm_without cd_without ct_without : Value}
    {f_one_by_one : Addr} {od_one_by_one an_one_by_one : Option Addr} {sl_one_by_one : Array (Option Value)} {oc_one_by_one kV_one_by_one dc_one_by_one pm_one_by_one cd_one_by_one ct_one_by_one : Value}
    {f_pairs_of : Addr} {od_pairs_of an_pairs_of : Option Addr} {sl_pairs_of : Array (Option Value)} {oc_pairs_of kV_pairs_of dc_pairs_of pm_pairs_of cd_pairs_of ct_pairs_of : Value}
    {f_is_pair : Addr} {od_is_pair an_is_pair : Option Addr} {sl_is_pair : Array (Option Value)} {oc_is_pair kV_is_pair dc_is_pair pm_is_pair cd_is_pair ct_is_pair : Value}
    {f_are_guests_told : Addr} {od_are_guests_told an_are_guests_told : Option Addr} {sl_are_guests_told : Array (Option Value)} {oc_are_guests_told kV_are_guests_told dc_are_guests_told pm_are_guests_told cd_are_guests_told ct_are_guests_told : Value}
    {f_are_pairs_told : Addr} {od_are_pairs_told an_are_pairs_told : Option Addr} {sl_are_pairs_told : Array (Option Value)} {oc_are_pairs_told kV_are_pairs_told dc_are_pairs_told pm_are_pairs_told cd_are_pairs_told ct_are_pairs_told : Value}
    {f_are_wishes_told : Addr} {od_are_wishes_told an_are_wishes_told : Option Addr} {sl_are_wishes_told : Array (Option Value)} {oc_are_wishes_told kV_are_wishes_told dc_are_wishes_told pm_are_wishes_told cd_are_wishes_told ct_are_wishes_told : Value}
    {f_party_of : Addr} {od_party_of an_party_of : Option Addr} {sl_party_of : Array (Option Value)} {oc_party_of kV_party_of dc_party_of pm_party_of cd_party_of ct_party_of : Value}
    {f_is_party_told : Addr} {od_is_party_told an_is_party_told : Option Addr} {sl_is_party_told : Array (Option Value)} {oc_is_party_told kV_is_party_told dc_is_party_told pm_is_party_told cd_is_party_told ct_is_party_told : Value}
    {f_is_all_told : Addr} {od_is_all_told an_is_all_told : Option Addr} {sl_is_all_told : Array (Option Value)} {oc_is_all_told kV_is_all_told dc_is_all_told pm_is_all_told cd_is_all_told ct_is_all_told : Value}
    {f_cancels : Addr} {od_cancels an_cancels : Option Addr} {sl_cancels : Array (Option Value)} {oc_cancels kV_cancels dc_cancels pm_cancels cd_cancels ct_cancels : Value}
    {od_init an_init : Option Addr} {sl_init : Array (Option Value)} {oc_init kV_init dc_init pm_init cd_init ct_init : Value}
    {t_PAIR t_MOST_GUESTS t_MOST_PAIRS t_MOST_WANTED : Tok} {t_ref : Tok} {n_ref : Nat} {sl_ref : Array (Option Value)}
    (aC : PySem.W.nsIn K mainGlobals "Party" = some (some (.ref C)))
    (a_init : PySem.W.findIn K (.ref C) "__init__" = some (some (.ref f_init)))
    (i_init : PySem.W.isFn K (.ref f_init) = true)
    (l_init : K.lookup f_init = some ⟨oc_init, od_init, .func (PySem.W.fnOf "__init__" "Party.__init__" (defArgs sInit) (defBody sInit) (defScope sInit) .none kV_init dc_init pm_init an_init cd_init ct_init), sl_init⟩)
    (q_init : PySem.W.codeIn K cd_init "Party.__init__" = true)
    (k_init : PySem.W.keepIn K (.ref f_init) = true)
    (a_bit : PySem.W.nsIn K mainGlobals "bit" = some (some (.ref f_bit)))
    (l_bit : K.lookup f_bit = some ⟨oc_bit, od_bit, .func (PySem.W.fnOf "bit" "bit" (defArgs sBit) (defBody sBit) (defScope sBit) .none kV_bit dc_bit pm_bit an_bit cd_bit ct_bit), sl_bit⟩)
    (q_bit : PySem.W.codeIn K cd_bit "bit" = true)
    (k_bit : PySem.W.keepIn K (.ref f_bit) = true)
    (a_has : PySem.W.nsIn K mainGlobals "has" = some (some (.ref f_has)))
    (l_has : K.lookup f_has = some ⟨oc_has, od_has, .func (PySem.W.fnOf "has" "has" (defArgs sHas) (defBody sHas) (defScope sHas) .none kV_has dc_has pm_has an_has cd_has ct_has), sl_has⟩)
    (q_has : PySem.W.codeIn K cd_has "has" = true)
    (k_has : PySem.W.keepIn K (.ref f_has) = true)
    (a_everybody : PySem.W.nsIn K mainGlobals "everybody" = some (some (.ref f_everybody)))
    (l_everybody : K.lookup f_everybody = some ⟨oc_everybody, od_everybody, .func (PySem.W.fnOf "everybody" "everybody" (defArgs sEvery) (defBody sEvery) (defScope sEvery) .none kV_everybody dc_everybody pm_everybody an_everybody cd_everybody ct_everybody), sl_everybody⟩)
    (q_everybody : PySem.W.codeIn K cd_everybody "everybody" = true)
    (k_everybody : PySem.W.keepIn K (.ref f_everybody) = true)
    (a_guests_of : PySem.W.nsIn K mainGlobals "guests_of" = some (some (.ref f_guests_of)))
    (l_guests_of : K.lookup f_guests_of = some ⟨oc_guests_of, od_guests_of, .func (PySem.W.fnOf "guests_of" "guests_of" (defArgs sGuests) (defBody sGuests) (defScope sGuests) .none kV_guests_of dc_guests_of pm_guests_of an_guests_of cd_guests_of ct_guests_of), sl_guests_of⟩)
    (q_guests_of : PySem.W.codeIn K cd_guests_of "guests_of" = true)
    (k_guests_of : PySem.W.keepIn K (.ref f_guests_of) = true)
    (a_count : PySem.W.nsIn K mainGlobals "count" = some (some (.ref f_count)))
    (l_count : K.lookup f_count = some ⟨oc_count, od_count, .func (PySem.W.fnOf "count" "count" (defArgs sCount) (defBody sCount) (defScope sCount) .none kV_count dc_count pm_count an_count cd_count ct_count), sl_count⟩)
    (q_count : PySem.W.codeIn K cd_count "count" = true)
    (k_count : PySem.W.keepIn K (.ref f_count) = true)
    (a_cannot : PySem.W.nsIn K mainGlobals "cannot" = some (some (.ref f_cannot)))
    (l_cannot : K.lookup f_cannot = some ⟨oc_cannot, od_cannot, .func (PySem.W.fnOf "cannot" "cannot" (defArgs sCannot) (defBody sCannot) (defScope sCannot) .none kV_cannot dc_cannot pm_cannot an_cannot cd_cannot ct_cannot), sl_cannot⟩)
    (q_cannot : PySem.W.codeIn K cd_cannot "cannot" = true)
    (k_cannot : PySem.W.keepIn K (.ref f_cannot) = true)
    (a_who_cannot : PySem.W.nsIn K mainGlobals "who_cannot" = some (some (.ref f_who_cannot)))
    (l_who_cannot : K.lookup f_who_cannot = some ⟨oc_who_cannot, od_who_cannot, .func (PySem.W.fnOf "who_cannot" "who_cannot" (defArgs sWho) (defBody sWho) (defScope sWho) .none kV_who_cannot dc_who_cannot pm_who_cannot an_who_cannot cd_who_cannot ct_who_cannot), sl_who_cannot⟩)
    (q_who_cannot : PySem.W.codeIn K cd_who_cannot "who_cannot" = true)
    (k_who_cannot : PySem.W.keepIn K (.ref f_who_cannot) = true)
    (a_without : PySem.W.nsIn K mainGlobals "without" = some (some (.ref f_without)))
    (l_without : K.lookup f_without = some ⟨oc_without, od_without, .func (PySem.W.fnOf "without" "without" (defArgs sWithout) (defBody sWithout) (defScope sWithout) .none kV_without dc_without pm_without an_without cd_without ct_without), sl_without⟩)
    (q_without : PySem.W.codeIn K cd_without "without" = true)
    (k_without : PySem.W.keepIn K (.ref f_without) = true)
    (a_one_by_one : PySem.W.nsIn K mainGlobals "one_by_one" = some (some (.ref f_one_by_one)))
    (l_one_by_one : K.lookup f_one_by_one = some ⟨oc_one_by_one, od_one_by_one, .func (PySem.W.fnOf "one_by_one" "one_by_one" (defArgs sOne) (defBody sOne) (defScope sOne) .none kV_one_by_one dc_one_by_one pm_one_by_one an_one_by_one cd_one_by_one ct_one_by_one), sl_one_by_one⟩)
    (q_one_by_one : PySem.W.codeIn K cd_one_by_one "one_by_one" = true)
    (k_one_by_one : PySem.W.keepIn K (.ref f_one_by_one) = true)
    (a_pairs_of : PySem.W.nsIn K mainGlobals "pairs_of" = some (some (.ref f_pairs_of)))
    (l_pairs_of : K.lookup f_pairs_of = some ⟨oc_pairs_of, od_pairs_of, .func (PySem.W.fnOf "pairs_of" "pairs_of" (defArgs sPairs) (defBody sPairs) (defScope sPairs) .none kV_pairs_of dc_pairs_of pm_pairs_of an_pairs_of cd_pairs_of ct_pairs_of), sl_pairs_of⟩)
    (q_pairs_of : PySem.W.codeIn K cd_pairs_of "pairs_of" = true)
    (k_pairs_of : PySem.W.keepIn K (.ref f_pairs_of) = true)
    (a_is_pair : PySem.W.nsIn K mainGlobals "is_pair" = some (some (.ref f_is_pair)))
    (l_is_pair : K.lookup f_is_pair = some ⟨oc_is_pair, od_is_pair, .func (PySem.W.fnOf "is_pair" "is_pair" (defArgs sIsPair) (defBody sIsPair) (defScope sIsPair) .none kV_is_pair dc_is_pair pm_is_pair an_is_pair cd_is_pair ct_is_pair), sl_is_pair⟩)
    (q_is_pair : PySem.W.codeIn K cd_is_pair "is_pair" = true)
    (k_is_pair : PySem.W.keepIn K (.ref f_is_pair) = true)
    (a_are_guests_told : PySem.W.nsIn K mainGlobals "are_guests_told" = some (some (.ref f_are_guests_told)))
    (l_are_guests_told : K.lookup f_are_guests_told = some ⟨oc_are_guests_told, od_are_guests_told, .func (PySem.W.fnOf "are_guests_told" "are_guests_told" (defArgs sGT) (defBody sGT) (defScope sGT) .none kV_are_guests_told dc_are_guests_told pm_are_guests_told an_are_guests_told cd_are_guests_told ct_are_guests_told), sl_are_guests_told⟩)
    (q_are_guests_told : PySem.W.codeIn K cd_are_guests_told "are_guests_told" = true)
    (k_are_guests_told : PySem.W.keepIn K (.ref f_are_guests_told) = true)
    (a_are_pairs_told : PySem.W.nsIn K mainGlobals "are_pairs_told" = some (some (.ref f_are_pairs_told)))
    (l_are_pairs_told : K.lookup f_are_pairs_told = some ⟨oc_are_pairs_told, od_are_pairs_told, .func (PySem.W.fnOf "are_pairs_told" "are_pairs_told" (defArgs sPT) (defBody sPT) (defScope sPT) .none kV_are_pairs_told dc_are_pairs_told pm_are_pairs_told an_are_pairs_told cd_are_pairs_told ct_are_pairs_told), sl_are_pairs_told⟩)
    (q_are_pairs_told : PySem.W.codeIn K cd_are_pairs_told "are_pairs_told" = true)
    (k_are_pairs_told : PySem.W.keepIn K (.ref f_are_pairs_told) = true)
    (a_are_wishes_told : PySem.W.nsIn K mainGlobals "are_wishes_told" = some (some (.ref f_are_wishes_told)))
    (l_are_wishes_told : K.lookup f_are_wishes_told = some ⟨oc_are_wishes_told, od_are_wishes_told, .func (PySem.W.fnOf "are_wishes_told" "are_wishes_told" (defArgs sWT) (defBody sWT) (defScope sWT) .none kV_are_wishes_told dc_are_wishes_told pm_are_wishes_told an_are_wishes_told cd_are_wishes_told ct_are_wishes_told), sl_are_wishes_told⟩)
    (q_are_wishes_told : PySem.W.codeIn K cd_are_wishes_told "are_wishes_told" = true)
    (k_are_wishes_told : PySem.W.keepIn K (.ref f_are_wishes_told) = true)
    (a_party_of : PySem.W.nsIn K mainGlobals "party_of" = some (some (.ref f_party_of)))
    (l_party_of : K.lookup f_party_of = some ⟨oc_party_of, od_party_of, .func (PySem.W.fnOf "party_of" "party_of" (defArgs sPartyOf) (defBody sPartyOf) (defScope sPartyOf) .none kV_party_of dc_party_of pm_party_of an_party_of cd_party_of ct_party_of), sl_party_of⟩)
    (q_party_of : PySem.W.codeIn K cd_party_of "party_of" = true)
    (k_party_of : PySem.W.keepIn K (.ref f_party_of) = true)
    (a_is_party_told : PySem.W.nsIn K mainGlobals "is_party_told" = some (some (.ref f_is_party_told)))
    (l_is_party_told : K.lookup f_is_party_told = some ⟨oc_is_party_told, od_is_party_told, .func (PySem.W.fnOf "is_party_told" "is_party_told" (defArgs sIPT) (defBody sIPT) (defScope sIPT) .none kV_is_party_told dc_is_party_told pm_is_party_told an_is_party_told cd_is_party_told ct_is_party_told), sl_is_party_told⟩)
    (q_is_party_told : PySem.W.codeIn K cd_is_party_told "is_party_told" = true)
    (k_is_party_told : PySem.W.keepIn K (.ref f_is_party_told) = true)
    (a_is_all_told : PySem.W.nsIn K mainGlobals "is_all_told" = some (some (.ref f_is_all_told)))
    (l_is_all_told : K.lookup f_is_all_told = some ⟨oc_is_all_told, od_is_all_told, .func (PySem.W.fnOf "is_all_told" "is_all_told" (defArgs sIAT) (defBody sIAT) (defScope sIAT) .none kV_is_all_told dc_is_all_told pm_is_all_told an_is_all_told cd_is_all_told ct_is_all_told), sl_is_all_told⟩)
    (q_is_all_told : PySem.W.codeIn K cd_is_all_told "is_all_told" = true)
    (k_is_all_told : PySem.W.keepIn K (.ref f_is_all_told) = true)
    (a_cancels : PySem.W.nsIn K mainGlobals "cancels" = some (some (.ref f_cancels)))
    (l_cancels : K.lookup f_cancels = some ⟨oc_cancels, od_cancels, .func (PySem.W.fnOf "cancels" "cancels" (defArgs sMain) (defBody sMain) (defScope sMain) .none kV_cancels dc_cancels pm_cancels an_cancels cd_cancels ct_cancels), sl_cancels⟩)
    (q_cancels : PySem.W.codeIn K cd_cancels "cancels" = true)
    (k_cancels : PySem.W.keepIn K (.ref f_cancels) = true)
    (pg : PySem.W.plainGet K C Str.empty = true)
    (hd : PySem.W.hasDictIn K C = true)
    (po : PySem.W.plainOver K C = true)
    (sa : PySem.W.findIn K (.ref C) "__setattr__" = some (some (.builtin "object.__setattr__")))
    (mk : PySem.W.makesIn K C = true)
    (kc : PySem.W.keepIn K (.ref C) = true)
    (nM : PySem.W.findIn K (.ref C) "many" = some none)
    (nK : PySem.W.findIn K (.ref C) "known" = some none)
    (y_PAIR : PySem.W.nsIn K mainGlobals "PAIR" = some (some (.int 2 t_PAIR)))
    (y_MOST_GUESTS : PySem.W.nsIn K mainGlobals "MOST_GUESTS" = some (some (.int 8 t_MOST_GUESTS)))
    (y_MOST_PAIRS : PySem.W.nsIn K mainGlobals "MOST_PAIRS" = some (some (.int 28 t_MOST_PAIRS)))
    (y_MOST_WANTED : PySem.W.nsIn K mainGlobals "MOST_WANTED" = some (some (.int 8 t_MOST_WANTED)))
    (x_range : PySem.W.nsIn K mainGlobals "range" = some none)
    (x_len : PySem.W.nsIn K mainGlobals "len" = some none)
    (x_all : PySem.W.nsIn K mainGlobals "all" = some none)
    (x_list : PySem.W.nsIn K mainGlobals "list" = some none)
    (x_zip : PySem.W.nsIn K mainGlobals "zip" = some none)
    (y_REFUSED : PySem.W.nsIn K mainGlobals "REFUSED" = some (some (.ref rl)))
    (l_REFUSED : K.lookup rl = some ⟨.type "list", none, .seq #[.int (-22) t_ref] n_ref, sl_ref⟩)
    : ∃ fd : FuncData, (∀ (s : Shared) (us : List Value), us.length = (["n", "k", "sure_bits", "pairs"] : List Str).length → BindsTo s fd ⟨us, []⟩ ((["n", "k", "sure_bits", "pairs"] : List Str).zip us)) ∧ ∀ base : Heap, K.In base → base.Ns mainGlobals mg → FnOk P w K mg base CX0 8 fa fd ["n", "k", "sure_bits", "pairs"] (spMain K) := by
  have e := hfa.symm.trans (PySem.W.mg_of X G a_cancels)
  cases e
  have T : Txt K mg C := ⟨⟨pg, hd, po, sa⟩, nM, nK, PySem.W.mg_of X G aC⟩
  have M : Mk K C f_init := ⟨mk, a_init, i_init, kc⟩
  have F_init := fun_mk (st := sInit) l_init q_init k_init
  have b_init := F_init.binds (ps := ["self", "many", "known"]) fun _ _ _ _ _ _ us hl => match us, hl with | [_, _, _], _ => rfl
  have F_bit := fun_mk (st := sBit) l_bit q_bit k_bit
  have b_bit := F_bit.binds (ps := ["guest"]) fun _ _ _ _ _ _ us hl => match us, hl with | [_], _ => rfl
  have F_has := fun_mk (st := sHas) l_has q_has k_has
  have b_has := F_has.binds (ps := ["some", "guest"]) fun _ _ _ _ _ _ us hl => match us, hl with | [_, _], _ => rfl
  have F_everybody := fun_mk (st := sEvery) l_everybody q_everybody k_everybody
  have b_everybody := F_everybody.binds (ps := ["many"]) fun _ _ _ _ _ _ us hl => match us, hl with | [_], _ => rfl
  have F_guests_of := fun_mk (st := sGuests) l_guests_of q_guests_of k_guests_of
  have b_guests_of := F_guests_of.binds (ps := ["some", "many"]) fun _ _ _ _ _ _ us hl => match us, hl with | [_, _], _ => rfl
  have F_count := fun_mk (st := sCount) l_count q_count k_count
  have b_count := F_count.binds (ps := ["some", "many"]) fun _ _ _ _ _ _ us hl => match us, hl with | [_, _], _ => rfl
  have F_cannot := fun_mk (st := sCannot) l_cannot q_cannot k_cannot
  have b_cannot := F_cannot.binds (ps := ["party", "wanted", "sure_ones", "coming", "guest"]) fun _ _ _ _ _ _ us hl => match us, hl with | [_, _, _, _, _], _ => rfl
  have F_who_cannot := fun_mk (st := sWho) l_who_cannot q_who_cannot k_who_cannot
  have b_who_cannot := F_who_cannot.binds (ps := ["party", "wanted", "sure_ones", "coming"]) fun _ _ _ _ _ _ us hl => match us, hl with | [_, _, _, _], _ => rfl
  have F_without := fun_mk (st := sWithout) l_without q_without k_without
  have b_without := F_without.binds (ps := ["coming", "guests"]) fun _ _ _ _ _ _ us hl => match us, hl with | [_, _], _ => rfl
  have F_one_by_one := fun_mk (st := sOne) l_one_by_one q_one_by_one k_one_by_one
  have b_one_by_one := F_one_by_one.binds (ps := ["party", "wanted", "sure_ones"]) fun _ _ _ _ _ _ us hl => match us, hl with | [_, _, _], _ => rfl
  have F_pairs_of := fun_mk (st := sPairs) l_pairs_of q_pairs_of k_pairs_of
  have b_pairs_of := F_pairs_of.binds (ps := ["row"]) fun _ _ _ _ _ _ us hl => match us, hl with | [_], _ => rfl
  have F_is_pair := fun_mk (st := sIsPair) l_is_pair q_is_pair k_is_pair
  have b_is_pair := F_is_pair.binds (ps := ["many", "one", "other"]) fun _ _ _ _ _ _ us hl => match us, hl with | [_, _, _], _ => rfl
  have F_are_guests_told := fun_mk (st := sGT) l_are_guests_told q_are_guests_told k_are_guests_told
  have b_are_guests_told := F_are_guests_told.binds (ps := ["many"]) fun _ _ _ _ _ _ us hl => match us, hl with | [_], _ => rfl
  have F_are_pairs_told := fun_mk (st := sPT) l_are_pairs_told q_are_pairs_told k_are_pairs_told
  have b_are_pairs_told := F_are_pairs_told.binds (ps := ["many", "row"]) fun _ _ _ _ _ _ us hl => match us, hl with | [_, _], _ => rfl
  have F_are_wishes_told := fun_mk (st := sWT) l_are_wishes_told q_are_wishes_told k_are_wishes_told
  have b_are_wishes_told := F_are_wishes_told.binds (ps := ["many", "wanted", "sure_ones"]) fun _ _ _ _ _ _ us hl => match us, hl with | [_, _, _], _ => rfl
  have F_party_of := fun_mk (st := sPartyOf) l_party_of q_party_of k_party_of
  have b_party_of := F_party_of.binds (ps := ["many", "row"]) fun _ _ _ _ _ _ us hl => match us, hl with | [_, _], _ => rfl
  have F_is_party_told := fun_mk (st := sIPT) l_is_party_told q_is_party_told k_is_party_told
  have b_is_party_told := F_is_party_told.binds (ps := ["n", "pairs"]) fun _ _ _ _ _ _ us hl => match us, hl with | [_, _], _ => rfl
  have F_is_all_told := fun_mk (st := sIAT) l_is_all_told q_is_all_told k_is_all_told
  have b_is_all_told := F_is_all_told.binds (ps := ["n", "k", "sure_bits", "pairs"]) fun _ _ _ _ _ _ us hl => match us, hl with | [_, _, _, _], _ => rfl
  have F_cancels := fun_mk (st := sMain) l_cancels q_cancels k_cancels
  have g_PAIR := PySem.W.mg_of X G y_PAIR
  have g_MOST_GUESTS := PySem.W.mg_of X G y_MOST_GUESTS
  have g_MOST_PAIRS := PySem.W.mg_of X G y_MOST_PAIRS
  have g_MOST_WANTED := PySem.W.mg_of X G y_MOST_WANTED
  have z_range := PySem.W.mg_none_of X G x_range
  have z_len := PySem.W.mg_none_of X G x_len
  have z_all := PySem.W.mg_none_of X G x_all
  have z_list := PySem.W.mg_none_of X G x_list
  have z_zip := PySem.W.mg_none_of X G x_zip
  have g_REFUSED := PySem.W.mg_of X G y_REFUSED
  have hrl : ∀ H : Hp, SqL K H rl [.int (-22)] := fun H => .inr ⟨_, _, n_ref, l_REFUSED, rfl, rfl, rfl, (by show 1 ≤ sizeLine; decide), .cons ⟨t_ref, rfl⟩ .nil⟩
  refine ⟨PySem.W.fnOf "cancels" "cancels" (defArgs sMain) (defBody sMain) (defScope sMain) .none kV_cancels dc_cancels pm_cancels an_cancels cd_cancels ct_cancels, fun s us hu => match us, hu with | [_, _, _, _], _ => .of_eq rfl, fun base _ _ => ?_⟩
  have GI : FnOk P w K mg base CX0 1 f_init _ ["self", "many", "known"] (spInit C) := ok_init F_init T
  have c_bit : Cal P w K mg base "bit" 1 ["guest"] spBit f_bit _ := ⟨PySem.W.mg_of X G a_bit, ok_bit F_bit, b_bit, F_bit.kp⟩
  have c_has : Cal P w K mg base "has" 2 ["some", "guest"] spHas f_has _ := ⟨PySem.W.mg_of X G a_has, ok_has F_has c_bit, b_has, F_has.kp⟩
  have c_everybody : Cal P w K mg base "everybody" 2 ["many"] spEvery f_everybody _ := ⟨PySem.W.mg_of X G a_everybody, ok_every F_everybody c_bit, b_everybody, F_everybody.kp⟩
  have c_guests_of : Cal P w K mg base "guests_of" 3 ["some", "many"] spGuests f_guests_of _ := ⟨PySem.W.mg_of X G a_guests_of, ok_guests F_guests_of c_has z_range, b_guests_of, F_guests_of.kp⟩
  have c_count : Cal P w K mg base "count" 4 ["some", "many"] spCount f_count _ := ⟨PySem.W.mg_of X G a_count, ok_count F_count c_guests_of z_len, b_count, F_count.kp⟩
  have c_cannot : Cal P w K mg base "cannot" 5 ["party", "wanted", "sure_ones", "coming", "guest"] (spCannot C) f_cannot _ := ⟨PySem.W.mg_of X G a_cannot, ok_cannot F_cannot T c_has c_count, b_cannot, F_cannot.kp⟩
  have c_who_cannot : Cal P w K mg base "who_cannot" 6 ["party", "wanted", "sure_ones", "coming"] (spWho C) f_who_cannot _ := ⟨PySem.W.mg_of X G a_who_cannot, ok_who F_who_cannot T c_guests_of c_cannot, b_who_cannot, F_who_cannot.kp⟩
  have c_without : Cal P w K mg base "without" 2 ["coming", "guests"] (spWithout K) f_without _ := ⟨PySem.W.mg_of X G a_without, ok_without F_without c_bit, b_without, F_without.kp⟩
  have c_one_by_one : Cal P w K mg base "one_by_one" 7 ["party", "wanted", "sure_ones"] (spOne C) f_one_by_one _ := ⟨PySem.W.mg_of X G a_one_by_one, ok_one F_one_by_one T c_everybody c_who_cannot c_without, b_one_by_one, F_one_by_one.kp⟩
  have c_pairs_of : Cal P w K mg base "pairs_of" 1 ["row"] (spPairs K) f_pairs_of _ := ⟨PySem.W.mg_of X G a_pairs_of, ok_pairs F_pairs_of g_PAIR z_list z_zip, b_pairs_of, F_pairs_of.kp⟩
  have c_is_pair : Cal P w K mg base "is_pair" 1 ["many", "one", "other"] spIsPair f_is_pair _ := ⟨PySem.W.mg_of X G a_is_pair, ok_isPair F_is_pair, b_is_pair, F_is_pair.kp⟩
  have c_are_guests_told : Cal P w K mg base "are_guests_told" 1 ["many"] spGT f_are_guests_told _ := ⟨PySem.W.mg_of X G a_are_guests_told, ok_GT F_are_guests_told g_MOST_GUESTS, b_are_guests_told, F_are_guests_told.kp⟩
  have c_are_pairs_told : Cal P w K mg base "are_pairs_told" 2 ["many", "row"] (spPT K) f_are_pairs_told _ := ⟨PySem.W.mg_of X G a_are_pairs_told, ok_PT F_are_pairs_told c_pairs_of c_is_pair z_len z_all g_PAIR g_MOST_PAIRS, b_are_pairs_told, F_are_pairs_told.kp⟩
  have c_are_wishes_told : Cal P w K mg base "are_wishes_told" 2 ["many", "wanted", "sure_ones"] spWT f_are_wishes_told _ := ⟨PySem.W.mg_of X G a_are_wishes_told, ok_WT F_are_wishes_told c_bit g_MOST_WANTED, b_are_wishes_told, F_are_wishes_told.kp⟩
  have c_party_of : Cal P w K mg base "party_of" 3 ["many", "row"] (spPartyOf K C) f_party_of _ := ⟨PySem.W.mg_of X G a_party_of, ok_partyOf F_party_of T c_pairs_of c_bit M GI b_init, b_party_of, F_party_of.kp⟩
  have c_is_party_told : Cal P w K mg base "is_party_told" 3 ["n", "pairs"] (spIPT K) f_is_party_told _ := ⟨PySem.W.mg_of X G a_is_party_told, ok_IPT F_is_party_told c_are_guests_told c_are_pairs_told, b_is_party_told, F_is_party_told.kp⟩
  have c_is_all_told : Cal P w K mg base "is_all_told" 4 ["n", "k", "sure_bits", "pairs"] (spIAT K) f_is_all_told _ := ⟨PySem.W.mg_of X G a_is_all_told, ok_IAT F_is_all_told c_is_party_told c_are_wishes_told, b_is_all_told, F_is_all_told.kp⟩
  exact ok_main F_cancels c_is_all_told c_one_by_one c_party_of z_list z_len g_REFUSED hrl
end WcB
open PySem PySem.W PyProof.Rows
set_option maxRecDepth 100000 in
set_option maxHeartbeats 8000000 in
theorem PySem.Challenge.cw_whocomes_s02_cancels_holds : PySem.Challenge.rw_whocomes_s02_cancels.Holds := by
  w_on; k_headS; (case hw => exact ⟨[.int 1, .int 0, .int 0, .list []], by decide +kernel, by decide +kernel⟩)
  k_fillS
  refine L2.walk_specK (r := PySem.Challenge.rw_whocomes_s02_cancels) (k := 8) (CX := L2.CX0) (ps := ["n", "k", "sure_bits", "pairs"]) (sp := WcB.spMain) (by decide +kernel) rfl rfl ⟨rfl, by decide, by decide⟩ (fun w h Y => PySem.W.kIn_of Y) ?F ?S (fun _ _ _ _ z => z)
  case F =>
    intro w mg fa h Y KX G hmg
    refine' WcB.all_mk KX G hmg ?aC ?a_init ?i_init ?l_init ?q_init ?k_init ?a_bit ?l_bit ?q_bit ?k_bit ?a_has ?l_has ?q_has ?k_has ?a_everybody ?l_everybody ?q_everybody ?k_everybody ?a_guests_of ?l_guests_of ?q_guests_of ?k_guests_of ?a_count ?l_count ?q_count ?k_count ?a_cannot ?l_cannot ?q_cannot ?k_cannot ?a_who_cannot ?l_who_cannot ?q_who_cannot ?k_who_cannot ?a_without ?l_without ?q_without ?k_without ?a_one_by_one ?l_one_by_one ?q_one_by_one ?k_one_by_one ?a_pairs_of ?l_pairs_of ?q_pairs_of ?k_pairs_of ?a_is_pair ?l_is_pair ?q_is_pair ?k_is_pair ?a_are_guests_told ?l_are_guests_told ?q_are_guests_told ?k_are_guests_told ?a_are_pairs_told ?l_are_pairs_told ?q_are_pairs_told ?k_are_pairs_told ?a_are_wishes_told ?l_are_wishes_told ?q_are_wishes_told ?k_are_wishes_told ?a_party_of ?l_party_of ?q_party_of ?k_party_of ?a_is_party_told ?l_is_party_told ?q_is_party_told ?k_is_party_told ?a_is_all_told ?l_is_all_told ?q_is_all_told ?k_is_all_told ?a_cancels ?l_cancels ?q_cancels ?k_cancels ?pg ?hd ?po ?sa ?mk ?kc ?nM ?nK ?y_PAIR ?y_MOST_GUESTS ?y_MOST_PAIRS ?y_MOST_WANTED ?x_range ?x_len ?x_all ?x_list ?x_zip ?y_REFUSED ?l_REFUSED
    (case aC => k_is)
    (case a_init => k_is)
    (case i_init => k_is)
    (case l_init => k_is)
    (case q_init => k_is)
    (case k_init => k_is)
    (case a_bit => k_is)
    (case l_bit => k_is)
    (case q_bit => k_is)
    (case k_bit => k_is)
    (case a_has => k_is)
    (case l_has => k_is)
    (case q_has => k_is)
    (case k_has => k_is)
    (case a_everybody => k_is)
    (case l_everybody => k_is)
    (case q_everybody => k_is)
    (case k_everybody => k_is)
    (case a_guests_of => k_is)
    (case l_guests_of => k_is)
    (case q_guests_of => k_is)
    (case k_guests_of => k_is)
    (case a_count => k_is)
    (case l_count => k_is)
    (case q_count => k_is)
    (case k_count => k_is)
    (case a_cannot => k_is)
    (case l_cannot => k_is)
    (case q_cannot => k_is)
    (case k_cannot => k_is)
    (case a_who_cannot => k_is)
    (case l_who_cannot => k_is)
    (case q_who_cannot => k_is)
    (case k_who_cannot => k_is)
    (case a_without => k_is)
    (case l_without => k_is)
    (case q_without => k_is)
    (case k_without => k_is)
    (case a_one_by_one => k_is)
    (case l_one_by_one => k_is)
    (case q_one_by_one => k_is)
    (case k_one_by_one => k_is)
    (case a_pairs_of => k_is)
    (case l_pairs_of => k_is)
    (case q_pairs_of => k_is)
    (case k_pairs_of => k_is)
    (case a_is_pair => k_is)
    (case l_is_pair => k_is)
    (case q_is_pair => k_is)
    (case k_is_pair => k_is)
    (case a_are_guests_told => k_is)
    (case l_are_guests_told => k_is)
    (case q_are_guests_told => k_is)
    (case k_are_guests_told => k_is)
    (case a_are_pairs_told => k_is)
    (case l_are_pairs_told => k_is)
    (case q_are_pairs_told => k_is)
    (case k_are_pairs_told => k_is)
    (case a_are_wishes_told => k_is)
    (case l_are_wishes_told => k_is)
    (case q_are_wishes_told => k_is)
    (case k_are_wishes_told => k_is)
    (case a_party_of => k_is)
    (case l_party_of => k_is)
    (case q_party_of => k_is)
    (case k_party_of => k_is)
    (case a_is_party_told => k_is)
    (case l_is_party_told => k_is)
    (case q_is_party_told => k_is)
    (case k_is_party_told => k_is)
    (case a_is_all_told => k_is)
    (case l_is_all_told => k_is)
    (case q_is_all_told => k_is)
    (case k_is_all_told => k_is)
    (case a_cancels => k_is)
    (case l_cancels => k_is)
    (case q_cancels => k_is)
    (case k_cancels => k_is)
    (case pg => k_is)
    (case hd => k_is)
    (case po => k_is)
    (case sa => k_is)
    (case mk => k_is)
    (case kc => k_is)
    (case nM => k_is)
    (case nK => k_is)
    (case y_PAIR => k_is)
    (case y_MOST_GUESTS => k_is)
    (case y_MOST_PAIRS => k_is)
    (case y_MOST_WANTED => k_is)
    (case x_range => k_is)
    (case x_len => k_is)
    (case x_all => k_is)
    (case x_list => k_is)
    (case x_zip => k_is)
    (case y_REFUSED => k_is)
    (case l_REFUSED => k_is)
  case S =>
    intro K H xs a hO hwi hask hx
    obtain ⟨n, k, b, ns, u⟩ := a
    cases hx with
    | cons h1 hx =>
      cases hx with
      | cons h2 hx =>
        cases hx with
        | cons h3 hx =>
          cases hx with
          | cons h4 hx =>
            cases hx
            cases h1
            cases h2
            cases h3
            cases h4 with
            | lst hs ha =>
              have e := L2.ints_dw ns _ ha
              subst e
              have q : (Codec.inInt 0 4294967295 n && (Codec.inInt 0 4294967295 k && (Codec.inInt 0 4294967295 b && ((Codec.inLen 0 60 ns && ns.all (Codec.inInt 0 255)) && true)))) = true := hwi
              simp only [Bool.and_eq_true] at q
              obtain ⟨qn, qk, qb, ⟨ql, qa⟩, _⟩ := q
              obtain ⟨n', rfl⟩ := Int.eq_ofNat_of_zero_le (Codec.inInt_iff.mp qn).1
              obtain ⟨k', rfl⟩ := Int.eq_ofNat_of_zero_le (Codec.inInt_iff.mp qk).1
              obtain ⟨b', rfl⟩ := Int.eq_ofNat_of_zero_le (Codec.inInt_iff.mp qb).1
              exact ⟨n', k', b', _, ns, rfl, hs, (Codec.inNat_iff.mp ql).2, fun x hx => (Codec.inInt_iff.mp (List.all_eq_true.mp qa x hx)).1, fun H' p hp => .lst (L2.SqL.of hp) (L2.dw_ints _)⟩
#print axioms PySem.Challenge.cw_whocomes_s02_cancels_holds
