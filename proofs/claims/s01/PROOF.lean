import PyProof.Rows.All
import Wide.All
import OpenK.AllK
import Wide.FinOn
import Open.SpecLaws
import KE.OsGo
import KE.GoesMore
import HandS.ForSpec
import HandS.ForMost
import HandS.Style
import HandS.Walk
import HandS.Evl
import PySem.Challenge.RW_faxpages_s01_fax_write
namespace Fax
open Ql31

/-- the places of change of a row's points from place i on, c the colour before -/
def chgF : Nat → Bool → List Bool → List Nat
  | _, _, [] => []
  | i, c, b :: r => if b = c then chgF (i + 1) c r else i :: chgF (i + 1) b r
def chg (r : List Bool) : List Nat := chgF 0 false r
def lastC (c : Bool) (r : List Bool) : Bool := r.getLast?.getD c

theorem lastC_nil (c : Bool) : lastC c [] = c := rfl
theorem lastC_cons (c b : Bool) (r : List Bool) : lastC c (b :: r) = lastC b r := by
  unfold lastC
  rw [List.getLast?_cons]
  rfl
theorem lastC_append (c : Bool) (r s : List Bool) : lastC c (r ++ s) = lastC (lastC c r) s := by
  induction r generalizing c with
  | nil => rfl
  | cons b r ih => rw [List.cons_append, lastC_cons, lastC_cons, ih]
theorem chgF_append (i : Nat) (c : Bool) (r s : List Bool) : chgF i c (r ++ s) = chgF i c r ++ chgF (i + r.length) (lastC c r) s := by
  induction r generalizing i c with
  | nil => simp [chgF, lastC]
  | cons b r ih =>
    rw [lastC_cons, List.cons_append]
    simp only [chgF, List.length_cons]
    split
    · rename_i h
      subst h
      rw [ih]
      congr 2
      omega
    · rw [ih, List.cons_append]
      congr 3
      omega
theorem chgF_same (i n : Nat) (c : Bool) : chgF i c (List.replicate n c) = [] := by
  induction n generalizing i with
  | zero => rfl
  | succ n ih =>
    rw [List.replicate_succ]
    simp only [chgF, if_true]
    exact ih _
theorem lastC_same (n : Nat) (c : Bool) : lastC c (List.replicate n c) = c := by
  induction n with
  | zero => rfl
  | succ n ih =>
    rw [List.replicate_succ, lastC_cons]
    exact ih
theorem chgF_replicate (i n : Nat) (c d : Bool) (hn : 0 < n) : chgF i c (List.replicate n d) = if d = c then [] else [i] := by
  by_cases h : d = c
  · subst h
    rw [if_pos rfl, chgF_same]
  · rw [if_neg h]
    cases n with
    | zero => omega
    | succ n =>
      rw [List.replicate_succ]
      simp only [chgF, if_neg h, chgF_same]
theorem lastC_replicate (n : Nat) (c d : Bool) (hn : 0 < n) : lastC c (List.replicate n d) = d := by
  cases n with
  | zero => omega
  | succ n => rw [List.replicate_succ, lastC_cons, lastC_same]

theorem chgF_ge : ∀ (r : List Bool) (i : Nat) (c : Bool), ∀ y ∈ chgF i c r, i ≤ y ∧ y < i + r.length
  | [], _, _, y, h => by simp [chgF] at h
  | b :: r, i, c, y, h => by
    simp only [chgF] at h
    simp only [List.length_cons]
    split at h
    · have := chgF_ge r (i + 1) c y h
      omega
    · rcases List.mem_cons.mp h with h | h
      · omega
      · have := chgF_ge r (i + 1) b y h
        omega
theorem chgF_sorted : ∀ (r : List Bool) (i : Nat) (c : Bool), (chgF i c r).Pairwise (· < ·)
  | [], _, _ => List.Pairwise.nil
  | b :: r, i, c => by
    simp only [chgF]
    split
    · exact chgF_sorted r _ _
    · refine List.Pairwise.cons (fun y h => ?_) (chgF_sorted r _ _)
      have := chgF_ge r _ _ y h
      omega
/-- how many places of a sorted list are at most p -/
def Spot (cs : List Nat) (p : Int) (j : Nat) : Prop := j ≤ cs.length ∧ (∀ i (h : i < cs.length), i < j → (cs[i] : Int) ≤ p) ∧ ∀ i (h : i < cs.length), j ≤ i → p < (cs[i] : Int)
theorem Spot.cons {y : Nat} {cs : List Nat} {p : Int} {j : Nat} (h : Spot (y :: cs) p j) (hy : (y : Int) ≤ p) : ∃ k, j = k + 1 ∧ Spot cs p k := by
  obtain ⟨h1, h2, h3⟩ := h
  cases j with
  | zero =>
    have := h3 0 (by simp) (Nat.le_refl _)
    simp at this
    omega
  | succ k =>
    refine ⟨k, rfl, by simpa using h1, fun i hi hk => ?_, fun i hi hk => ?_⟩
    · have := h2 (i + 1) (by simpa using hi) (by omega)
      simpa using this
    · have := h3 (i + 1) (by simpa using hi) (by omega)
      simpa using this
theorem Spot.zero {cs : List Nat} {p : Int} {j : Nat} (h : Spot cs p j) (hp : ∀ y ∈ cs, p < (y : Int)) : j = 0 := by
  obtain ⟨h1, h2, h3⟩ := h
  cases j with
  | zero => rfl
  | succ k =>
    have a := h2 0 (by omega) (by omega)
    have b := hp cs[0] (List.getElem_mem _)
    omega
theorem parity : ∀ (r : List Bool) (i : Nat) (c : Bool) (x j : Nat), i ≤ x → x < i + r.length → Spot (chgF i c r) x j → r.getD (x - i) false = (c != decide (j % 2 = 1))
  | [], i, c, x, j, h1, h2, _ => by simp at h2; omega
  | b :: r, i, c, x, j, h1, h2, hS => by
    simp only [chgF] at hS
    simp only [List.length_cons] at h2
    by_cases hx : x = i
    · subst hx
      rw [Nat.sub_self, List.getD_cons_zero]
      split at hS
      · rename_i e
        have hj : j = 0 := hS.zero fun y hy => by have := chgF_ge _ _ _ y hy; omega
        subst hj e
        simp
      · rename_i e
        obtain ⟨k, rfl, hT⟩ := hS.cons (by omega)
        have hj : k = 0 := hT.zero fun y hy => by have := chgF_ge _ _ _ y hy; omega
        subst hj
        revert e
        cases b <;> cases c <;> simp
    · have ex : x - i = (x - (i + 1)) + 1 := by omega
      rw [ex, List.getD_cons_succ]
      split at hS
      · exact parity r (i + 1) c x j (by omega) (by omega) hS
      · rename_i e
        obtain ⟨k, rfl, hT⟩ := hS.cons (by omega)
        rw [parity r (i + 1) b x k (by omega) (by omega) hT]
        have e1 : decide ((k + 1) % 2 = 1) = !decide (k % 2 = 1) := by
          by_cases q : k % 2 = 1
          · rw [decide_eq_true q, decide_eq_false (by omega)]
            rfl
          · rw [decide_eq_false q, decide_eq_true (by omega)]
            rfl
        rw [e1]
        revert e
        cases b <;> cases c <;> simp

/-- the spot is there -/
theorem spot_of : ∀ (cs : List Nat), cs.Pairwise (· < ·) → ∀ p : Int, ∃ j, Spot cs p j
  | [], _, p => ⟨0, Nat.le_refl _, fun i h => by simp at h, fun i h => by simp at h⟩
  | y :: cs, h, p => by
    have ih := spot_of cs (List.pairwise_cons.mp h).2 p
    by_cases hy : (y : Int) ≤ p
    · obtain ⟨j, h1, h2, h3⟩ := ih
      refine ⟨j + 1, by simpa using h1, fun i hi hj => ?_, fun i hi hj => ?_⟩
      · cases i with
        | zero => simpa using hy
        | succ i => simpa using h2 i (by simpa using hi) (by omega)
      · cases i with
        | zero => omega
        | succ i => simpa using h3 i (by simpa using hi) (by omega)
    · refine ⟨0, Nat.zero_le _, fun i hi hj => by omega, fun i hi _ => ?_⟩
      cases i with
      | zero => simp; omega
      | succ i =>
        have : cs[i]'(by simpa using hi) ∈ cs := List.getElem_mem _
        have := (List.pairwise_cons.mp h).1 _ this
        simp
        omega
theorem sorted_lt {cs : List Nat} (h : cs.Pairwise (· < ·)) {i j : Nat} (hj : j < cs.length) (hij : i < j) : cs[i]'(by omega) < cs[j] := List.pairwise_iff_getElem.mp h i j (by omega) hj hij
/-- at cs[i] it is i + 1 -/
theorem spot_at {cs : List Nat} (h : cs.Pairwise (· < ·)) {i : Nat} (hi : i < cs.length) : Spot cs (cs[i] : Nat) (i + 1) :=
  ⟨hi, fun k hk hki => by
    rcases Nat.lt_or_eq_of_le (Nat.le_of_lt_succ hki) with q | q
    · have := sorted_lt h hi q
      omega
    · subst q
      exact Int.le_refl _, fun k hk hki => by
    have := sorted_lt h hk (show i < k by omega)
    omega⟩
theorem spot_before {cs : List Nat} (h : cs.Pairwise (· < ·)) {i : Nat} (hi : i < cs.length) : Spot cs ((cs[i] : Nat) - 1 : Int) i :=
  ⟨Nat.le_of_lt hi, fun k hk hki => by
    have := sorted_lt h hi hki
    omega, fun k hk hki => by
    rcases Nat.lt_or_eq_of_le hki with q | q
    · have := sorted_lt h hk q
      omega
    · subst q
      omega⟩
theorem Spot.unique {cs : List Nat} {p : Int} {i j : Nat} (a : Spot cs p i) (b : Spot cs p j) : i = j := by
  obtain ⟨a1, a2, a3⟩ := a
  obtain ⟨b1, b2, b3⟩ := b
  rcases Nat.lt_trichotomy i j with h | h | h
  · have x := a3 i (by omega) (Nat.le_refl _)
    have y := b2 i (by omega) h
    omega
  · exact h
  · have x := b3 j (by omega) (Nat.le_refl _)
    have y := a2 j (by omega) h
    omega

theorem chg_lt (r : List Bool) : ∀ y ∈ chg r, y < r.length := fun y h => by
  have := (chgF_ge r 0 false y h).2
  omega
theorem chg_sorted (r : List Bool) : (chg r).Pairwise (· < ·) := chgF_sorted r 0 false
/-- the colour at a place from 0 on, by the spot -/
theorem at_spot (r : List Bool) (x : Int) (j : Nat) (h0 : 0 ≤ x) (hx : x < r.length) (hS : Spot (chg r) x j) : at_ r x = decide (j % 2 = 1) := by
  have hn : ¬ x < 0 := by omega
  have e := parity r 0 false x.toNat j (Nat.zero_le _) (by omega) (by rw [Int.toNat_of_nonneg h0]; exact hS)
  unfold at_
  rw [if_neg hn]
  rw [Nat.sub_zero] at e
  rw [e]
  cases decide (j % 2 = 1) <;> rfl
theorem at_spot' (r : List Bool) (x : Int) (j : Nat) (hx : x < r.length) (hS : Spot (chg r) x j) : at_ r x = decide (j % 2 = 1) := by
  by_cases h0 : 0 ≤ x
  · exact at_spot r x j h0 hx hS
  · have hj : j = 0 := hS.zero fun y hy => by omega
    subst hj
    unfold at_
    rw [if_pos (by omega)]
    rfl
theorem at_chg (r : List Bool) (i : Nat) (hi : i < (chg r).length) : at_ r ((chg r)[i] : Nat) = decide (i % 2 = 0) ∧ at_ r (((chg r)[i] : Nat) - 1 : Int) = decide (i % 2 = 1) := by
  have hl := chg_lt r _ (List.getElem_mem hi)
  refine ⟨?_, at_spot' r _ i (by omega) (spot_before (chg_sorted r) hi)⟩
  rw [at_spot' r _ (i + 1) (by omega) (spot_at (chg_sorted r) hi)]
  by_cases h : i % 2 = 0
  · rw [decide_eq_true h, decide_eq_true (by omega)]
  · rw [decide_eq_false h, decide_eq_false (by omega)]
/-- a place where the colour changes is in the list -/
theorem chg_of_ne (r : List Bool) (y : Nat) (hy : y < r.length) (h : at_ r y ≠ at_ r ((y : Int) - 1)) : ∃ i, ∃ hi : i < (chg r).length, (chg r)[i] = y := by
  obtain ⟨j, hj⟩ := spot_of _ (chg_sorted r) (y : Int)
  obtain ⟨k, hk⟩ := spot_of _ (chg_sorted r) ((y : Int) - 1)
  rw [at_spot' r _ j (by omega) hj, at_spot' r _ k (by omega) hk] at h
  have hjk : j ≠ k := fun e => h (by rw [e])
  obtain ⟨a1, a2, a3⟩ := hj
  obtain ⟨b1, b2, b3⟩ := hk
  have hkj : k < j := by
    rcases Nat.lt_trichotomy j k with q | q | q
    · have x := a3 j (by omega) (Nat.le_refl _)
      have z := b2 j (by omega) q
      omega
    · exact absurd q hjk
    · exact q
  have x := b3 k (by omega) (Nat.le_refl _)
  have z := a2 k (by omega) hkj
  exact ⟨k, by omega, by omega⟩

/-- the first of a range, or its end -/
theorem first_of {n v : Nat} {P : Nat → Bool} (hv : v ≤ n) (h1 : v < n → P v = true) (h2 : ∀ y, y < v → P y = false) : ((List.range n).find? P).getD n = v := by
  rcases Nat.lt_or_eq_of_le hv with h | h
  · have e : (List.range n).find? P = some v := by
      rw [List.find?_range_eq_some]
      refine ⟨h1 h, List.mem_range.mpr h, fun j hj => ?_⟩
      rw [h2 j hj]
      rfl
    rw [e]
    rfl
  · subst h
    have e : (List.range v).find? P = none := by
      rw [List.find?_range_eq_none]
      intro i hi
      rw [h2 i hi]
      rfl
    rw [e]
    rfl
theorem getD_out {cs : List Nat} {n i : Nat} (h : cs.length ≤ i) : cs.getD i n = n := by
  rw [List.getD_eq_getElem?_getD, List.getElem?_eq_none h]
  rfl
theorem getD_mem {cs : List Nat} {n i : Nat} (h : cs.getD i n < n) : i < cs.length := by
  rcases Nat.lt_or_ge i cs.length with q | q
  · exact q
  · rw [getD_out q] at h
    omega
theorem getD_at {cs : List Nat} {n i : Nat} (h : i < cs.length) : cs.getD i n = cs[i] := by
  rw [List.getD_eq_getElem?_getD, List.getElem?_eq_getElem h]
  rfl
theorem chg_getD_le (r : List Bool) (i : Nat) : (chg r).getD i r.length ≤ r.length := by
  rcases Nat.lt_or_ge i (chg r).length with q | q
  · rw [getD_at q]
    exact Nat.le_of_lt (chg_lt r _ (List.getElem_mem q))
  · rw [getD_out q]
    exact Nat.le_refl _
/-- which change it is: the next one to the other colour than c's, from the spot j -/
def pick (j : Nat) (c : Bool) : Nat := if j % 2 = c.toNat then j else j + 1
theorem pick_mod (j : Nat) (c : Bool) : pick j c % 2 = c.toNat := by
  unfold pick
  split
  · assumption
  · cases c <;> simp at * <;> omega
theorem pick_ge (j : Nat) (c : Bool) : j ≤ pick j c := by
  unfold pick
  split <;> omega
theorem col_even (c : Bool) (j : Nat) (h : j % 2 = c.toNat) : decide (j % 2 = 0) = !c ∧ decide (j % 2 = 1) = c := by
  cases c <;> simp at * <;> omega
theorem change_is (r : List Bool) (p : Int) (c : Bool) (j : Nat) (hS : Spot (chg r) p j) : change r p (!c) = (chg r).getD (pick j c) r.length := by
  unfold change
  obtain ⟨h1, h2, h3⟩ := hS
  refine first_of (chg_getD_le r _) (fun hv => ?_) fun y hy => ?_
  · have hi := getD_mem hv
    rw [getD_at hi]
    obtain ⟨c1, c2⟩ := at_chg r _ hi
    obtain ⟨e1, e2⟩ := col_even c _ (pick_mod j c)
    rw [c1, c2, e1, e2, decide_eq_true (h3 _ hi (pick_ge j c))]
    cases c <;> rfl
  · have hyl : y < r.length := Nat.lt_of_lt_of_le hy (chg_getD_le r _)
    cases hP : (decide (p < (y : Int)) && (at_ r y == !c && at_ r ((y : Int) - 1) != !c)) with
    | false => rfl
    | true =>
      exfalso
      simp only [Bool.and_eq_true, decide_eq_true_eq, beq_iff_eq, bne_iff_ne] at hP
      obtain ⟨hp, hc, hd⟩ := hP
      obtain ⟨i, hi, e⟩ := chg_of_ne r y hyl (by rw [hc]; exact Ne.symm hd)
      have hji : j ≤ i := by
        rcases Nat.lt_or_ge i j with q | q
        · have := h2 i hi q
          rw [e] at this
          omega
        · exact q
      have hip : i < pick j c := by
        rcases Nat.lt_or_ge i (pick j c) with q | q
        · exact q
        · rw [getD_at (Nat.lt_of_le_of_lt q hi), ← e] at hy
          rcases Nat.lt_or_eq_of_le q with z | z
          · have := sorted_lt (chg_sorted r) hi z
            omega
          · subst z
            omega
      have hc1 := (at_chg r i hi).1
      rw [e, hc] at hc1
      unfold pick at hip
      split at hip
      · omega
      · rename_i hne
        have : i = j := by omega
        subst this
        cases c <;> simp at * <;> omega
theorem other_after (r : List Bool) (j : Nat) (c : Bool) (hj : j % 2 = c.toNat) : other r ((chg r).getD j r.length : Nat) (!c) = (chg r).getD (j + 1) r.length := by
  unfold other
  refine first_of (chg_getD_le r _) (fun hv => ?_) fun y hy => ?_
  · have hi := getD_mem hv
    have hi0 : j < (chg r).length := by omega
    rw [getD_at hi, getD_at hi0]
    obtain ⟨c1, c2⟩ := at_chg r _ hi
    have := sorted_lt (chg_sorted r) hi (Nat.lt_succ_self j)
    rw [c1, decide_eq_true (by omega)]
    cases c <;> simp at * <;> omega
  · have hyl : y < r.length := Nat.lt_of_lt_of_le hy (chg_getD_le r _)
    cases hP : (decide (((chg r).getD j r.length : Nat) < (y : Int)) && (at_ r y != !c)) with
    | false => rfl
    | true =>
      exfalso
      simp only [Bool.and_eq_true, decide_eq_true_eq, bne_iff_ne] at hP
      obtain ⟨hp, hc⟩ := hP
      have hi0 : j < (chg r).length := getD_mem (n := r.length) (by omega)
      rw [getD_at hi0] at hp
      have hS : Spot (chg r) (y : Int) (j + 1) := ⟨hi0, fun k hk hkj => by
        rcases Nat.lt_or_eq_of_le (Nat.le_of_lt_succ hkj) with q | q
        · have := sorted_lt (chg_sorted r) hi0 q
          omega
        · subst q
          omega, fun k hk hkj => by
        rw [getD_at (by omega)] at hy
        rcases Nat.lt_or_eq_of_le hkj with q | q
        · have := sorted_lt (chg_sorted r) hk q
          omega
        · subst q
          omega⟩
      rw [at_spot' r _ _ (by omega) hS] at hc
      apply hc
      cases c <;> simp at * <;> omega
/-- both of the program: the next change to the other colour, and the one behind it -/
theorem both_is (r : List Bool) (p : Int) (c : Bool) (j : Nat) (hS : Spot (chg r) p j) :
    change r p (!c) = (chg r).getD (pick j c) r.length ∧ other r (change r p (!c) : Nat) (!c) = (chg r).getD (pick j c + 1) r.length := by
  refine ⟨change_is r p c j hS, ?_⟩
  rw [change_is r p c j hS]
  exact other_after r _ c (pick_mod j c)
/-- where one stands in the row: before it, and white; or at a place of this colour -/
def Stands (r : List Bool) (a : Int) (c : Bool) : Prop := a < r.length ∧ at_ r a = c
theorem other_is_change (r : List Bool) (a : Int) (c : Bool) (h : Stands r a c) : other r a c = change r a (!c) := by
  obtain ⟨ha, hc⟩ := h
  obtain ⟨j, hS⟩ := spot_of _ (chg_sorted r) a
  rw [change_is r a c j hS]
  have hp : decide (j % 2 = 1) = c := by rw [← at_spot' r a j ha hS]; exact hc
  have hj : j % 2 = c.toNat := by cases c <;> simp at * <;> omega
  have e : pick j c = j := if_pos hj
  rw [e]
  unfold other
  obtain ⟨h1, h2, h3⟩ := hS
  refine first_of (chg_getD_le r _) (fun hv => ?_) fun y hy => ?_
  · have hi := getD_mem hv
    rw [getD_at hi, (at_chg r _ hi).1, decide_eq_true (h3 j hi (Nat.le_refl _)), (col_even c j hj).1]
    cases c <;> rfl
  · have hyl : y < r.length := Nat.lt_of_lt_of_le hy (chg_getD_le r _)
    cases hP : (decide (a < (y : Int)) && (at_ r y != c)) with
    | false => rfl
    | true =>
      exfalso
      simp only [Bool.and_eq_true, decide_eq_true_eq, bne_iff_ne] at hP
      obtain ⟨hp2, hc2⟩ := hP
      have hS : Spot (chg r) (y : Int) j := ⟨h1, fun k hk hkj => by
        have := h2 k hk hkj
        omega, fun k hk hkj => by
        rw [getD_at (by omega)] at hy
        rcases Nat.lt_or_eq_of_le hkj with q | q
        · have := sorted_lt (chg_sorted r) hk q
          omega
        · subst q
          omega⟩
      rw [at_spot' r _ _ (by omega) hS] at hc2
      exact hc2 hp
end Fax
namespace Fax
open Ql31

/-! ### A row alone -/
/-- runs up to the places of a list -/
def aloneC : Nat → Bool → List Nat → Bits
  | _, _, [] => []
  | b, c, p :: ps => run c (p - b) ++ aloneC p (!c) ps
theorem takeWhile_split (c : Bool) : ∀ r : List Bool, r = List.replicate (r.takeWhile fun b => b == c).length c ++ r.drop (r.takeWhile fun b => b == c).length ∧
    (∀ x s, r.drop (r.takeWhile fun b => b == c).length = x :: s → x = !c)
  | [] => ⟨rfl, fun x s h => by simp at h⟩
  | b :: r => by
    obtain ⟨h1, h2⟩ := takeWhile_split c r
    by_cases e : b = c
    · subst e
      have q : (b == b) = true := beq_self_eq_true b
      rw [List.takeWhile_cons, if_pos q]
      refine ⟨?_, ?_⟩
      · rw [List.length_cons, List.drop_succ_cons, List.replicate_succ, List.cons_append, ← h1]
      · rw [List.length_cons, List.drop_succ_cons]
        exact h2
    · have q : ¬ (b == c) = true := by simpa using e
      rw [List.takeWhile_cons, if_neg q]
      refine ⟨rfl, fun x s h => ?_⟩
      rw [List.length_nil, List.drop_zero] at h
      have : b = x := (List.cons.inj h).1
      subst this
      revert e
      cases b <;> cases c <;> simp
theorem alone_is : ∀ (k : Nat) (r : List Bool) (c : Bool) (i : Nat), (r.length < k ∨ r.length ≤ k ∧ ∃ s, r = c :: s) → alone k r c = aloneC i c (chgF i c r ++ [i + r.length])
  | 0, r, c, i, h => by
    rcases h with h | ⟨h, s, rfl⟩
    · omega
    · simp at h
  | k + 1, r, c, i, h => by
    obtain ⟨e, hd⟩ := takeWhile_split c r
    show (run c (r.takeWhile fun b => b == c).length ++ if (r.takeWhile fun b => b == c).length = r.length then [] else alone k (r.drop (r.takeWhile fun b => b == c).length) !c) = _
    generalize hn : (r.takeWhile fun b => b == c).length = n at e hd ⊢
    by_cases hl : n = r.length
    · rw [if_pos hl, List.append_nil]
      have : r.drop n = [] := by rw [hl]; exact List.drop_length
      rw [this, List.append_nil] at e
      rw [e, chgF_same, List.nil_append, List.length_replicate]
      show _ = run c (i + n - i) ++ []
      rw [List.append_nil]
      congr 1
      omega
    · rw [if_neg hl]
      have hle : n ≤ r.length := by
        have := congrArg List.length e
        rw [List.length_append, List.length_replicate] at this
        omega
      have hdl : (r.drop n).length = r.length - n := List.length_drop
      cases hs : r.drop n with
      | nil =>
        rw [hs] at hdl
        simp at hdl
        omega
      | cons x s =>
        have hx := hd x s hs
        subst hx
        rw [hs] at hdl
        have hk : ((!c) :: s).length ≤ k := by
          rcases h with h | ⟨h, z, hz⟩
          · omega
          · have hn0 : 0 < n := by
              rw [← hn, hz, List.takeWhile_cons, if_pos (beq_self_eq_true c), List.length_cons]
              omega
            omega
        rw [alone_is k ((!c) :: s) (!c) (i + n) (.inr ⟨hk, s, rfl⟩)]
        · rw [e, hs, chgF_append, chgF_same, List.nil_append, List.length_replicate, lastC_same]
          have q1 : chgF (i + n) c ((!c) :: s) = (i + n) :: chgF (i + n + 1) (!c) s := by
            simp only [chgF]
            rw [if_neg (by cases c <;> simp)]
          have q2 : chgF (i + n) (!c) ((!c) :: s) = chgF (i + n + 1) (!c) s := by
            simp only [chgF, if_true]
          rw [q1, q2, List.cons_append]
          show _ = run c (i + n - i) ++ aloneC (i + n) (!c) _
          rw [show i + n - i = n by omega]
          congr 3
          rw [List.length_append, List.length_replicate]
          congr 1
          omega
theorem rowAlone_is (r : List Bool) : rowAlone r = aloneC 0 false (chg r ++ [r.length]) := by
  unfold rowAlone
  rw [alone_is _ r false 0 (.inl (Nat.lt_succ_self _)), Nat.zero_add]
  rfl

/-! ### A row by the one above -/
theorem find_range_gt {n : Nat} {P : Nat → Bool} {p : Int} (h : ∀ y, P y = true → p < (y : Int)) : p < (((List.range n).find? P).getD n : Nat) ∨ ((List.range n).find? P).getD n = n := by
  cases e : (List.range n).find? P with
  | none => exact .inr rfl
  | some v =>
    refine .inl ?_
    rw [List.find?_range_eq_some] at e
    exact h _ e.1
theorem find_range_le {n : Nat} {P : Nat → Bool} : ((List.range n).find? P).getD n ≤ n := by
  cases e : (List.range n).find? P with
  | none => exact Nat.le_refl _
  | some v =>
    rw [List.find?_range_eq_some] at e
    exact Nat.le_of_lt (List.mem_range.mp e.2.1)
theorem change_le (r : Row) (p : Int) (d : Bool) : change r p d ≤ r.length := find_range_le
theorem other_le (r : Row) (p : Int) (d : Bool) : other r p d ≤ r.length := find_range_le
theorem change_gt (r : Row) (p : Int) (d : Bool) : p < (change r p d : Int) ∨ change r p d = r.length := by
  refine find_range_gt fun y h => ?_
  simp only [Bool.and_eq_true, decide_eq_true_eq] at h
  exact h.1
theorem other_gt (r : Row) (p : Int) (d : Bool) : p < (other r p d : Int) ∨ other r p d = r.length := by
  refine find_range_gt fun y h => ?_
  simp only [Bool.and_eq_true, decide_eq_true_eq] at h
  exact h.1
theorem other_col (r : Row) (p : Int) (d : Bool) (h : other r p d < r.length) : at_ r (other r p d) = !d := by
  unfold other at h ⊢
  cases e : (List.range r.length).find? fun (x : Nat) => decide (p < (x : Int)) && at_ r x != d with
  | none => rw [e] at h; exact absurd h (Nat.lt_irrefl _)
  | some v =>
    rw [List.find?_range_eq_some] at e
    have q := e.1
    simp only [Bool.and_eq_true, decide_eq_true_eq, bne_iff_ne] at q
    show at_ r (v : Nat) = !d
    revert q
    cases at_ r (v : Nat) <;> cases d <;> simp
/-- before the first of the other colour it's the colour -/
theorem other_before (r : Row) (p : Int) (d : Bool) (y : Nat) (h1 : p < (y : Int)) (h2 : y < other r p d) : at_ r y = d := by
  unfold other at h2
  have hyn : y < r.length := Nat.lt_of_lt_of_le h2 (other_le r p d)
  cases hP : at_ r y == d with
  | true => exact beq_iff_eq.mp hP
  | false =>
    exfalso
    have hb : (decide (p < (y : Int)) && at_ r y != d) = true := by
      rw [decide_eq_true h1]
      show (!(at_ r y == d)) = true
      rw [hP]
      rfl
    cases e : (List.range r.length).find? fun (x : Nat) => decide (p < (x : Int)) && at_ r x != d with
    | none =>
      rw [List.find?_range_eq_none] at e
      have := e y hyn
      rw [hb] at this
      cases this
    | some v =>
      rw [e] at h2
      rw [List.find?_range_eq_some] at e
      have := e.2.2 y h2
      rw [hb] at this
      cases this
/-- how many turns are enough -/
def fuel (n : Nat) (a : Int) : Nat := ((n : Int) - a).toNat + 1
theorem beside_end {above r : Row} {a : Int} (k : Nat) (d : Bool) (h : (r.length : Int) ≤ a) : beside above r k a d = [] := by
  cases k with
  | zero => rfl
  | succ k =>
    unfold beside
    rw [if_pos h]
/-- one turn's places -/
structure Turn (above r : Row) (a : Int) (d : Bool) (b1 b2 a1 a2 : Nat) : Prop where
  hb1 : b1 = change above a (!d)
  hb2 : b2 = other above b1 (!d)
  ha1 : a1 = other r a d
  ha2 : a2 = other r a1 (!d)
theorem Turn.b2_gt {above r : Row} {a : Int} {d : Bool} {b1 b2 a1 a2 : Nat} (t : Turn above r a d b1 b2 a1 a2) (hl : above.length = r.length) (h : b2 < a1) : a < (b2 : Int) ∧ b1 < b2 := by
  have h1 : a1 ≤ r.length := t.ha1 ▸ other_le r a d
  have h2 := other_gt above b1 (!d)
  rw [← t.hb2] at h2
  have h3 := change_gt above a (!d)
  rw [← t.hb1] at h3
  have h4 := other_le above b1 (!d)
  rw [← t.hb2] at h4
  omega
theorem Turn.a1_gt {above r : Row} {a : Int} {d : Bool} {b1 b2 a1 a2 : Nat} (t : Turn above r a d b1 b2 a1 a2) (ha : a < r.length) : a < (a1 : Int) ∧ a1 ≤ r.length ∧ a1 ≤ a2 ∧ a2 ≤ r.length ∧ (a1 < r.length → a1 < a2) := by
  have h1 := other_gt r a d
  have h2 := other_le r a d
  rw [← t.ha1] at h1 h2
  have h3 := other_gt r a1 (!d)
  have h4 := other_le r a1 (!d)
  rw [← t.ha2] at h3 h4
  omega
theorem beside_step {above r : Row} {a : Int} {d : Bool} {b1 b2 a1 a2 : Nat} (t : Turn above r a d b1 b2 a1 a2) (k : Nat) (ha : a < r.length) :
    beside above r (k + 1) a d = if b2 < a1 then PASS ++ beside above r k b2 d
      else if -3 ≤ (a1 : Int) - b1 ∧ (a1 : Int) - b1 ≤ 3 then vertical ((a1 : Int) - b1) ++ beside above r k a1 (!d)
      else ACROSS ++ (run d (a1 - (max a 0).toNat) ++ (run (!d) (a2 - a1) ++ beside above r k a2 d)) := by
  obtain ⟨rfl, rfl, rfl, rfl⟩ := t
  conv => lhs; unfold beside
  rw [if_neg (by omega)]
theorem beside_fuel {above r : Row} (hl : above.length = r.length) : ∀ (k k' : Nat) (a : Int) (d : Bool), fuel r.length a ≤ k → fuel r.length a ≤ k' → beside above r k a d = beside above r k' a d
  | 0, _, _, _, h, _ => by unfold fuel at h; omega
  | _ + 1, 0, _, _, _, h => by unfold fuel at h; omega
  | k + 1, k' + 1, a, d, h, h' => by
    by_cases ha : (r.length : Int) ≤ a
    · rw [beside_end _ _ ha, beside_end _ _ ha]
    · have t : Turn above r a d _ _ _ _ := ⟨rfl, rfl, rfl, rfl⟩
      have ha' : a < r.length := by omega
      obtain ⟨g1, g2, g3, g4, g5⟩ := t.a1_gt ha'
      rw [beside_step t k ha', beside_step t k' ha']
      unfold fuel at h h'
      split
      · rename_i q
        have := (t.b2_gt hl q).1
        rw [beside_fuel hl k k' _ d (by unfold fuel; omega) (by unfold fuel; omega)]
      · split
        · rw [beside_fuel hl k k' _ (!d) (by unfold fuel; omega) (by unfold fuel; omega)]
        · rw [beside_fuel hl k k' _ d (by unfold fuel; omega) (by unfold fuel; omega)]
/-- what is still to be written of a row by the one above -/
def bes (above r : Row) (a : Int) (d : Bool) : Bits := beside above r (fuel r.length a) a d
theorem rowBeside_is (above r : Row) (hl : above.length = r.length) : rowBeside above r = bes above r (-1) false := by
  unfold rowBeside bes
  exact beside_fuel hl _ _ _ _ (by unfold fuel; omega) (by unfold fuel; omega)
theorem bes_end (above r : Row) (a : Int) (d : Bool) (h : (r.length : Int) ≤ a) : bes above r a d = [] := beside_end _ _ h
theorem stands_start (r : Row) (h : 0 < r.length) : Stands r (-1) false := ⟨by omega, rfl⟩
theorem stands_at (r : Row) (a : Int) (d : Bool) (h : other r a d < r.length) : Stands r (other r a d : Nat) (!d) := ⟨by omega, other_col r a d h⟩
theorem bes_pass {above r : Row} {a : Int} {d : Bool} {b1 b2 a1 a2 : Nat} (hl : above.length = r.length) (hs : Stands r a d) (t : Turn above r a d b1 b2 a1 a2) (q : b2 < a1) :
    bes above r a d = PASS ++ bes above r b2 d ∧ Stands r b2 d ∧ a < (b2 : Int) := by
  obtain ⟨g1, g2, g3, g4, g5⟩ := t.a1_gt hs.1
  obtain ⟨q1, q2⟩ := t.b2_gt hl q
  refine ⟨?_, ⟨by omega, other_before r a d b2 q1 (by rw [← t.ha1]; exact q)⟩, q1⟩
  have ha := hs.1
  unfold bes
  obtain ⟨k, hk⟩ : ∃ k, fuel r.length a = k + 1 := ⟨_, rfl⟩
  rw [hk, beside_step t k hs.1, if_pos q, beside_fuel hl k (fuel r.length b2) _ d (by unfold fuel at hk ⊢; omega) (Nat.le_refl _)]
theorem bes_straight {above r : Row} {a : Int} {d : Bool} {b1 b2 a1 a2 : Nat} (hl : above.length = r.length) (hs : Stands r a d) (t : Turn above r a d b1 b2 a1 a2) (q : ¬ b2 < a1)
    (q2 : -3 ≤ (a1 : Int) - b1 ∧ (a1 : Int) - b1 ≤ 3) : bes above r a d = vertical ((a1 : Int) - b1) ++ bes above r a1 (!d) ∧ (a1 < r.length → Stands r a1 (!d)) ∧ a < (a1 : Int) := by
  obtain ⟨g1, g2, g3, g4, g5⟩ := t.a1_gt hs.1
  refine ⟨?_, fun h => t.ha1 ▸ stands_at r a d (t.ha1 ▸ h), g1⟩
  have ha := hs.1
  unfold bes
  obtain ⟨k, hk⟩ : ∃ k, fuel r.length a = k + 1 := ⟨_, rfl⟩
  rw [hk, beside_step t k hs.1, if_neg q, if_pos q2, beside_fuel hl k (fuel r.length a1) _ (!d) (by unfold fuel at hk ⊢; omega) (Nat.le_refl _)]
theorem bes_across {above r : Row} {a : Int} {d : Bool} {b1 b2 a1 a2 : Nat} (hl : above.length = r.length) (hs : Stands r a d) (t : Turn above r a d b1 b2 a1 a2) (q : ¬ b2 < a1)
    (q2 : ¬ (-3 ≤ (a1 : Int) - b1 ∧ (a1 : Int) - b1 ≤ 3)) :
    bes above r a d = ACROSS ++ (run d (a1 - (max a 0).toNat) ++ (run (!d) (a2 - a1) ++ bes above r a2 d)) ∧ (a2 < r.length → Stands r a2 d) ∧ a < (a2 : Int) := by
  obtain ⟨g1, g2, g3, g4, g5⟩ := t.a1_gt hs.1
  refine ⟨?_, fun h => ?_, by omega⟩
  · have ha := hs.1
    unfold bes
    obtain ⟨k, hk⟩ : ∃ k, fuel r.length a = k + 1 := ⟨_, rfl⟩
    rw [hk, beside_step t k hs.1, if_neg q, if_neg q2, beside_fuel hl k (fuel r.length a2) _ d (by unfold fuel at hk ⊢; omega) (Nat.le_refl _)]
  · have := stands_at r a1 (!d) (t.ha2 ▸ h)
    rw [← t.ha2, Bool.not_not] at this
    exact this
end Fax
namespace Fax
open Ql31

/-! ### How long it gets -/
def codeNs : List Nat := List.range 64 ++ (List.range 40).map fun i => 64 * (i + 1)
theorem codes_short : (codeNs.all fun n => decide (0 < (codeOf false n).length) && decide ((codeOf false n).length ≤ 13) && decide (0 < (codeOf true n).length) && decide ((codeOf true n).length ≤ 13)) = true := by decide +kernel
theorem code_le (d : Bool) (n : Nat) (h : n < 64 ∨ n % 64 = 0 ∧ n ≤ 2560) : 0 < (codeOf d n).length ∧ (codeOf d n).length ≤ 13 := by
  have hm : n ∈ codeNs := by
    unfold codeNs
    rw [List.mem_append, List.mem_range, List.mem_map]
    rcases h with h | h
    · exact .inl h
    · rcases Nat.lt_or_ge n 64 with q | q
      · exact .inl q
      · exact .inr ⟨n / 64 - 1, List.mem_range.mpr (by omega), by omega⟩
  have := List.all_eq_true.mp codes_short n hm
  simp only [Bool.and_eq_true, decide_eq_true_eq] at this
  cases d <;> omega
theorem flat_replicate_len (n : Nat) (b : Bits) : (List.replicate n b).flatten.length = n * b.length := by
  simp
theorem run_le (d : Bool) (n : Nat) : 0 < (run d n).length ∧ (run d n).length ≤ 13 * max n 1 := by
  unfold run
  rw [List.length_append, List.length_append, flat_replicate_len]
  have h1 := code_le d 2560 (.inr ⟨rfl, Nat.le_refl _⟩)
  have h2 := code_le d (n % 2560 % 64) (.inl (by omega))
  have h3 : (if 64 ≤ n % 2560 then codeOf d (n % 2560 / 64 * 64) else []).length ≤ (if 64 ≤ n % 2560 then 13 else 0) := by
    split
    · exact (code_le d _ (.inr ⟨by omega, by omega⟩)).2
    · exact Nat.le_refl _
  have h4 : n / 2560 * (codeOf d 2560).length ≤ n / 2560 * 13 := Nat.mul_le_mul_left _ h1.2
  refine ⟨by omega, ?_⟩
  generalize (if 64 ≤ n % 2560 then codeOf d (n % 2560 / 64 * 64) else []).length = z at h3 ⊢
  generalize n / 2560 * (codeOf d 2560).length = y at h4 ⊢
  split at h3
  · have : n ≤ max n 1 := Nat.le_max_left _ _
    omega
  · have : n ≤ max n 1 := Nat.le_max_left _ _
    have : 1 ≤ max n 1 := Nat.le_max_right _ _
    by_cases q : n < 64
    · omega
    · omega
theorem alone_le1 : ∀ (k : Nat) (r : List Bool) (c : Bool), (∀ x s, r = x :: s → x = c) → (alone k r c).length ≤ 13 * max r.length 1
  | 0, r, c, _ => Nat.zero_le _
  | k + 1, r, c, hr => by
    obtain ⟨e, hd⟩ := takeWhile_split c r
    show (run c (r.takeWhile fun b => b == c).length ++ if (r.takeWhile fun b => b == c).length = r.length then [] else alone k (r.drop (r.takeWhile fun b => b == c).length) !c).length ≤ _
    have hn0 : r ≠ [] → 0 < (r.takeWhile fun b => b == c).length := by
      intro hne
      cases r with
      | nil => exact absurd rfl hne
      | cons x s =>
        have := hr x s rfl
        subst this
        rw [List.takeWhile_cons, if_pos (beq_self_eq_true x), List.length_cons]
        omega
    generalize hn : (r.takeWhile fun b => b == c).length = n at e hd hn0 ⊢
    have hrl := (run_le c n).2
    rw [List.length_append]
    by_cases hl : n = r.length
    · rw [if_pos hl, List.length_nil]
      omega
    · rw [if_neg hl]
      have hle : n ≤ r.length := by
        have := congrArg List.length e
        rw [List.length_append, List.length_replicate] at this
        omega
      have ih := alone_le1 k (r.drop n) (!c) hd
      rw [List.length_drop] at ih
      have hp : 0 < n := hn0 fun h => by rw [h] at hl hle; simp at hl hle; omega
      omega
theorem alone_le (k : Nat) (r : List Bool) (c : Bool) : (alone k r c).length ≤ 13 * r.length + 26 := by
  cases k with
  | zero => exact Nat.zero_le _
  | succ k =>
    obtain ⟨e, hd⟩ := takeWhile_split c r
    show (run c (r.takeWhile fun b => b == c).length ++ if (r.takeWhile fun b => b == c).length = r.length then [] else alone k (r.drop (r.takeWhile fun b => b == c).length) !c).length ≤ _
    generalize hn : (r.takeWhile fun b => b == c).length = n at e hd ⊢
    have hrl := (run_le c n).2
    rw [List.length_append]
    have hle : n ≤ r.length := by
      have := congrArg List.length e
      rw [List.length_append, List.length_replicate] at this
      omega
    split
    · rw [List.length_nil]
      omega
    · have ih := alone_le1 k (r.drop n) (!c) hd
      rw [List.length_drop] at ih
      omega
theorem vertical_le (d : Int) : (vertical d).length ≤ 7 := by
  unfold vertical
  cases h : verticals.find? fun x => x.1 == d with
  | none => exact (by decide : (bitsOf "").length ≤ 7)
  | some v =>
    have hm := List.mem_of_find?_eq_some h
    show (bitsOf v.2).length ≤ 7
    revert hm
    unfold verticals
    simp only [List.mem_cons, List.not_mem_nil, or_false]
    rintro (rfl | rfl | rfl | rfl | rfl | rfl | rfl) <;> decide +kernel
theorem vertical_pos (d : Int) (h : -3 ≤ d ∧ d ≤ 3) : 0 < (vertical d).length := by
  have : d = -3 ∨ d = -2 ∨ d = -1 ∨ d = 0 ∨ d = 1 ∨ d = 2 ∨ d = 3 := by omega
  rcases this with rfl | rfl | rfl | rfl | rfl | rfl | rfl <;> decide +kernel
theorem bes_le (above r : Row) (hl : above.length = r.length) : ∀ (m : Nat) (a : Int) (d : Bool), -1 ≤ a → (r.length : Int) - a ≤ m → (r.length : Int) - a ≤ r.length + 1 → Stands r a d ∨ (r.length : Int) ≤ a → ((bes above r a d).length : Int) ≤ 16 * max 0 ((r.length : Int) - a) + 13
  | 0, a, d, _, h, _, _ => by
    rw [bes_end _ _ _ _ (by omega)]
    simp
    omega
  | m + 1, a, d, h0, h, h1, hs => by
    by_cases ha : (r.length : Int) ≤ a
    · rw [bes_end _ _ _ _ ha]
      simp
      omega
    · have hs : Stands r a d := hs.resolve_right ha
      have t : Turn above r a d _ _ _ _ := ⟨rfl, rfl, rfl, rfl⟩
      obtain ⟨g1, g2, g3, g4, g5⟩ := t.a1_gt hs.1
      by_cases q : other above (change above a (!d)) (!d) < other r a d
      · obtain ⟨e, hs', hg⟩ := bes_pass hl hs t q
        have ih := bes_le above r hl m _ d (by omega) (by omega) (by omega) (.inl hs')
        rw [e, List.length_append]
        have : PASS.length = 4 := by decide +kernel
        have := hs'.1
        omega
      · by_cases q2 : -3 ≤ (other r a d : Int) - (change above a (!d) : Nat) ∧ (other r a d : Int) - (change above a (!d) : Nat) ≤ 3
        · obtain ⟨e, hs', hg⟩ := bes_straight hl hs t q q2
          have ih := bes_le above r hl m (other r a d : Nat) (!d) (by omega) (by omega) (by omega) (by
            rcases Nat.lt_or_ge (other r a d) r.length with z | z
            · exact .inl (hs' z)
            · exact .inr (by omega))
          rw [e, List.length_append]
          have := vertical_le ((other r a d : Int) - (change above a (!d) : Nat))
          omega
        · obtain ⟨e, hs', hg⟩ := bes_across hl hs t q q2
          have ih := bes_le above r hl m (other r (other r a d : Nat) (!d) : Nat) d (by omega) (by omega) (by omega) (by
            rcases Nat.lt_or_ge (other r (other r a d : Nat) (!d)) r.length with z | z
            · exact .inl (hs' z)
            · exact .inr (by omega))
          rw [e, List.length_append, List.length_append, List.length_append]
          have : ACROSS.length = 3 := by decide +kernel
          have r1 := (run_le d (other r a d - (max a 0).toNat)).2
          have r2 := (run_le (!d) (other r (other r a d : Nat) (!d) - other r a d)).2
          by_cases z : other r (other r a d : Nat) (!d) < r.length
          · omega
          · have ez : (bes above r (other r (other r a d : Nat) (!d) : Nat) d).length = 0 := by rw [bes_end _ _ _ _ (by omega)]; rfl
            have c1 := change_gt above a (!d)
            have c2 := change_le above a (!d)
            omega
theorem rowAlone_le (r : Row) : (rowAlone r).length ≤ 13 * r.length + 26 := alone_le _ _ _
theorem rowBeside_le (above r : Row) (hl : above.length = r.length) (h : 0 < r.length) : (rowBeside above r).length ≤ 16 * r.length + 29 := by
  rw [rowBeside_is above r hl]
  have := bes_le above r hl (r.length + 1) (-1) false (by omega) (by omega) (by omega) (.inl (stands_start r h))
  omega
theorem EOL_len : EOL.length = 12 := by decide +kernel
theorem rows2_le (k w : Nat) (hw : 0 < w) (hk : 0 < k) : ∀ (l : List Row) (i : Nat) (above : Row), (above.length = w ∨ i = 0) → (∀ r ∈ l, r.length = w) → (rows2 k i above l).length ≤ l.length * (16 * w + 42)
  | [], _, _, _, _ => Nat.zero_le _
  | r :: l, i, above, ha, hl => by
    have hr := hl r (List.mem_cons_self)
    have ih := rows2_le k w hw hk l (i + 1) r (.inl hr) fun x hx => hl x (List.mem_cons_of_mem _ hx)
    show ((if i % k = 0 then EOL ++ (true :: rowAlone r) else EOL ++ (false :: rowBeside above r)) ++ rows2 k (i + 1) r l).length ≤ _
    rw [List.length_append, List.length_cons, Nat.succ_mul]
    split
    · rw [List.length_append, List.length_cons, EOL_len]
      have := rowAlone_le r
      omega
    · rename_i hi
      have ha : above.length = w := by
        rcases ha with h | h
        · exact h
        · rw [h, Nat.zero_mod] at hi
          exact absurd rfl hi
      rw [List.length_append, List.length_cons, EOL_len]
      have := rowBeside_le above r (by omega) (by omega)
      omega
theorem rows6_le (w : Nat) (hw : 0 < w) : ∀ (l : List Row) (above : Row), above.length = w → (∀ r ∈ l, r.length = w) → (rows6 above l).length ≤ l.length * (16 * w + 42)
  | [], _, _, _ => Nat.zero_le _
  | r :: l, above, ha, hl => by
    have hr := hl r (List.mem_cons_self)
    have ih := rows6_le w hw l r hr fun x hx => hl x (List.mem_cons_of_mem _ hx)
    show (rowBeside above r ++ rows6 r l).length ≤ _
    rw [List.length_append, List.length_cons, Nat.succ_mul]
    have := rowBeside_le above r (by omega) (by omega)
    omega
theorem rows0_le (w : Nat) : ∀ (l : List Row), (∀ r ∈ l, r.length = w) → (l.flatMap fun r => EOL ++ rowAlone r).length ≤ l.length * (16 * w + 42)
  | [], _ => Nat.zero_le _
  | r :: l, hl => by
    have hr := hl r (List.mem_cons_self)
    have ih := rows0_le w l fun x hx => hl x (List.mem_cons_of_mem _ hx)
    rw [List.flatMap_cons, List.length_append, List.length_append, EOL_len, List.length_cons, Nat.succ_mul]
    have := rowAlone_le r
    omega
/-- what stands behind the rows -/
def tail (kind : Nat) : Bits := if kind = 0 then (List.replicate 6 EOL).flatten else if kind = 1 then (List.replicate 6 (EOL ++ [true])).flatten else EOL ++ EOL
theorem tail_le (kind : Nat) : (tail kind).length ≤ 78 := by
  unfold tail
  split
  · decide +kernel
  · split <;> decide +kernel
/-- the rows from the i-th on -/
def body (kind k i : Nat) (above : Row) (l : List Row) : Bits := if kind = 0 then l.flatMap fun r => EOL ++ rowAlone r else if kind = 1 then rows2 k i above l else rows6 above l
theorem body_nil (kind k i : Nat) (above : Row) : body kind k i above [] = [] := by
  unfold body
  split
  · rfl
  · split <;> rfl
theorem page_is (kind k w : Nat) (l : List Row) : page kind k w l = body kind k 0 (if kind = 1 then [] else List.replicate w false) l ++ tail kind := by
  unfold page body tail
  by_cases h0 : kind = 0
  · rw [if_pos h0, if_pos h0, if_pos h0]
  · rw [if_neg h0, if_neg h0, if_neg h0]
    by_cases h1 : kind = 1
    · rw [if_pos h1, if_pos h1, if_pos h1, if_pos h1]
    · rw [if_neg h1, if_neg h1, if_neg h1, if_neg h1]
theorem body_le (kind k w i : Nat) (hw : 0 < w) (hk : 0 < k) (above : Row) (l : List Row) (ha : above.length = w ∨ i = 0 ∧ kind = 1) (hl : ∀ r ∈ l, r.length = w) : (body kind k i above l).length ≤ l.length * (16 * w + 42) := by
  unfold body
  split
  · exact rows0_le w l hl
  · split
    · exact rows2_le k w hw hk l i above (ha.imp id And.left) hl
    · exact rows6_le w hw l above (by omega) hl
theorem page_le (kind k w : Nat) (hw : 0 < w) (hk : 0 < k) (l : List Row) (hl : ∀ r ∈ l, r.length = w) (h1 : l.length * ((w + 7) / 8) ≤ 100000) (h2 : l.length ≤ 16384) : (page kind k w l).length ≤ 13500000 := by
  rw [page_is, List.length_append]
  have := body_le kind k w 0 hw hk (if kind = 1 then [] else List.replicate w false) l (by
    by_cases h : kind = 1
    · exact .inr ⟨rfl, h⟩
    · rw [if_neg h, List.length_replicate]
      exact .inl rfl) hl
  have ht := tail_le kind
  have h3 : l.length * (16 * w + 42) ≤ l.length * (128 * ((w + 7) / 8) + 42) := Nat.mul_le_mul_left _ (by omega)
  have h4 : l.length * (128 * ((w + 7) / 8) + 42) = 128 * (l.length * ((w + 7) / 8)) + 42 * l.length := by
    rw [Nat.mul_add, Nat.mul_left_comm, Nat.mul_comm l.length 42]
  omega
end Fax
namespace Fax
open Ql31

/-! ### Bytes to points -/
def bitsN (n : Nat) : Bits := (List.range 8).map fun i => n.testBit (7 - i)
theorem bitsN_len (n : Nat) : (bitsN n).length = 8 := by simp [bitsN]
def bitsNs (l : List Nat) : Bits := l.flatMap bitsN
theorem bitsNs_len : ∀ l : List Nat, (bitsNs l).length = 8 * l.length
  | [] => rfl
  | n :: l => by
    show (bitsN n ++ bitsNs l).length = _
    rw [List.length_append, bitsN_len, bitsNs_len l, List.length_cons]
    omega
theorem bitsNs_append (a b : List Nat) : bitsNs (a ++ b) = bitsNs a ++ bitsNs b := by
  unfold bitsNs
  rw [List.flatMap_append]
theorem bitsFrom_is (l : List UInt8) : bitsFrom l = bitsNs (l.map UInt8.toNat) := by
  unfold bitsFrom bitsNs bitsN
  rw [List.flatMap_map]
theorem bitsFrom_octets (l : List Int) (h : ∀ x ∈ l, 0 ≤ x ∧ x < 256) : bitsFrom (Ql31Neutral.octets l) = bitsNs (l.map Int.toNat) := by
  rw [bitsFrom_is]
  unfold Ql31Neutral.octets
  rw [List.map_map]
  congr 1
  refine List.map_congr_left fun x hx => ?_
  have := h x hx
  show (UInt8.ofNat x.toNat).toNat = x.toNat
  rw [UInt8.toNat_ofNat']
  exact Nat.mod_eq_of_lt (by omega)
theorem bitsN_0 : bitsN 0 = List.replicate 8 false := by decide +kernel
theorem bitsN_255 : bitsN 255 = List.replicate 8 true := by decide +kernel
/-- one point more -/
theorem chg_snoc (r : List Bool) (x : Bool) : chg (r ++ [x]) = if x = lastC false r then chg r else chg r ++ [r.length] := by
  unfold chg
  rw [chgF_append, Nat.zero_add]
  simp only [chgF]
  split
  · rw [List.append_nil]
  · rfl
theorem lastC_snoc (c : Bool) (r : List Bool) (x : Bool) : lastC c (r ++ [x]) = x := by
  rw [lastC_append]
  rfl
theorem take_snoc (r : List Bool) (x : Bool) (w : Nat) : (r ++ [x]).take w = if r.length < w then r.take w ++ [x] else r.take w := by
  split
  · rename_i h
    rw [List.take_of_length_le (by simp; omega), List.take_of_length_le (by omega)]
  · rename_i h
    rw [List.take_append_of_le_length (by omega)]
/-- .. of the first w points -/
theorem chg_take_snoc (r : List Bool) (x : Bool) (w : Nat) : chg ((r ++ [x]).take w) = if r.length < w ∧ x ≠ lastC false (r.take w) then chg (r.take w) ++ [r.length] else chg (r.take w) := by
  rw [take_snoc]
  by_cases h : r.length < w
  · rw [if_pos h, chg_snoc]
    by_cases q : x = lastC false (r.take w)
    · rw [if_pos q, if_neg (fun z => z.2 q)]
    · rw [if_neg q, if_pos ⟨h, q⟩]
      congr 2
      rw [List.length_take]
      omega
  · rw [if_neg h, if_neg (fun z => h z.1)]
theorem lastC_take_snoc (r : List Bool) (x : Bool) (w : Nat) : lastC false ((r ++ [x]).take w) = if r.length < w ∧ x ≠ lastC false (r.take w) then x else lastC false (r.take w) := by
  rw [take_snoc]
  by_cases h : r.length < w
  · rw [if_pos h, lastC_snoc]
    by_cases q : x = lastC false (r.take w)
    · rw [if_neg (fun z => z.2 q), q]
    · rw [if_pos ⟨h, q⟩]
  · rw [if_neg h, if_neg (fun z => h z.1)]
/-- points of the colour that it is change nothing -/
theorem take_same (r : List Bool) (w n : Nat) (c : Bool) (hc : c = lastC false (r.take w)) : chg ((r ++ List.replicate n c).take w) = chg (r.take w) ∧ lastC false ((r ++ List.replicate n c).take w) = lastC false (r.take w) := by
  induction n with
  | zero => rw [List.replicate_zero, List.append_nil]; exact ⟨rfl, rfl⟩
  | succ n ih =>
    rw [List.replicate_succ', ← List.append_assoc, chg_take_snoc, lastC_take_snoc, ih.1, ih.2, if_neg (fun z => z.2 hc), if_neg (fun z => z.2 hc)]
    exact ⟨rfl, rfl⟩
theorem chg_take_prefix (r s : List Bool) (w : Nat) : (chg (r.take w)).length ≤ (chg ((r ++ s).take w)).length := by
  induction s generalizing r with
  | nil => rw [List.append_nil]; exact Nat.le_refl _
  | cons x s ih =>
    have e : r ++ x :: s = (r ++ [x]) ++ s := by simp
    rw [e]
    refine Nat.le_trans ?_ (ih (r ++ [x]))
    rw [chg_take_snoc]
    split
    · rw [List.length_append]
      omega
    · exact Nat.le_refl _
theorem chgF_len : ∀ (r : List Bool) (i : Nat) (c : Bool), (chgF i c r).length ≤ r.length
  | [], _, _ => Nat.le_refl _
  | b :: r, i, c => by
    simp only [chgF, List.length_cons]
    split
    · have := chgF_len r (i + 1) c
      omega
    · have := chgF_len r (i + 1) b
      rw [List.length_cons]
      omega
theorem chg_len (r : List Bool) : (chg r).length ≤ r.length := chgF_len r 0 false

/-! ### Points to bytes -/
/-- the number that bits tell -/
def val (b : Bits) : Nat := b.foldl (fun n x => 2 * n + x.toNat) 0
theorem val_snoc (b : Bits) (x : Bool) : val (b ++ [x]) = 2 * val b + x.toNat := by
  unfold val
  rw [List.foldl_append]
  rfl
theorem val_fold (b : Bits) (n : Nat) : b.foldl (fun n x => 2 * n + x.toNat) n = n * 2 ^ b.length + val b := by
  induction b generalizing n with
  | nil => simp [val]
  | cons x b ih =>
    have e : val (x :: b) = x.toNat * 2 ^ b.length + val b := by
      show b.foldl (fun n x => 2 * n + x.toNat) (2 * 0 + x.toNat) = _
      rw [ih]
      simp
    rw [List.foldl_cons, ih, e, List.length_cons, Nat.pow_succ]
    rw [Nat.add_mul, Nat.mul_assoc 2 n, Nat.mul_comm 2 (n * 2 ^ b.length), Nat.mul_assoc]
    omega
theorem val_lt (b : Bits) : val b < 2 ^ b.length := by
  induction b with
  | nil => exact (by decide : 0 < 1)
  | cons x b ih =>
    have e : val (x :: b) = x.toNat * 2 ^ b.length + val b := by
      show b.foldl (fun n x => 2 * n + x.toNat) (2 * 0 + x.toNat) = _
      rw [val_fold]
      simp
    rw [e, List.length_cons, Nat.pow_succ]
    have : x.toNat ≤ 1 := by cases x <;> decide
    have : x.toNat * 2 ^ b.length ≤ 1 * 2 ^ b.length := Nat.mul_le_mul_right _ this
    omega
/-- zeros to the byte's end -/
def padded (b : Bits) : Bits := b ++ List.replicate ((8 - b.length % 8) % 8) false
theorem padded_len (b : Bits) : (padded b).length = 8 * ((b.length + 7) / 8) := by
  unfold padded
  rw [List.length_append, List.length_replicate]
  omega
/-- the bytes of whole groups of eight -/
def bytesN (b : Bits) : List Nat := (List.range (b.length / 8)).map fun q => val ((b.drop (8 * q)).take 8)
theorem range_fold (b : Bits) : ∀ (n : Nat), n ≤ b.length → (List.range n).foldl (fun m i => 2 * m + (b.getD i false).toNat) 0 = val (b.take n)
  | 0, _ => rfl
  | n + 1, h => by
    rw [List.range_succ, List.foldl_append, range_fold b n (by omega), List.foldl_cons, List.foldl_nil, List.take_succ_eq_append_getElem (by omega), val_snoc, List.getD_eq_getElem?_getD, List.getElem?_eq_getElem (by omega)]
    rfl
theorem range8_pad (b : Bits) : (List.range 8).foldl (fun m i => 2 * m + (b.getD i false).toNat) 0 = val ((b ++ List.replicate 8 false).take 8) := by
  rw [← range_fold _ 8 (by simp)]
  have : ∀ i, (b ++ List.replicate 8 false).getD i false = b.getD i false := by
    intro i
    rw [List.getD_eq_getElem?_getD, List.getD_eq_getElem?_getD, List.getElem?_append]
    split
    · rfl
    · rename_i h
      rw [List.getElem?_eq_none (by omega : b.length ≤ i), List.getElem?_replicate]
      split <;> rfl
  simp only [this]
theorem padded_drop (b : Bits) (h : 8 ≤ b.length) : (padded b).drop 8 = padded (b.drop 8) := by
  unfold padded
  rw [List.drop_append_of_le_length h, List.length_drop]
  congr 2
  omega
theorem bytesN_cons (b : Bits) (h : 0 < b.length) : bytesN (padded b) = val ((padded b).take 8) :: bytesN (padded (b.drop 8)) := by
  have hl := padded_len b
  have hl2 := padded_len (b.drop 8)
  rw [List.length_drop] at hl2
  unfold bytesN
  rw [hl, hl2]
  have e : 8 * ((b.length + 7) / 8) / 8 = 8 * ((b.length - 8 + 7) / 8) / 8 + 1 := by omega
  rw [e, List.range_succ_eq_map, List.map_cons, List.map_map]
  congr 1
  by_cases h8 : 8 ≤ b.length
  · refine List.map_congr_left fun q _ => ?_
    show val (((padded b).drop (8 * (q + 1))).take 8) = val (((padded (b.drop 8)).drop (8 * q)).take 8)
    rw [← padded_drop b h8, List.drop_drop]
    congr 3
    omega
  · have : 8 * ((b.length - 8 + 7) / 8) / 8 = 0 := by omega
    rw [this]
    rfl
theorem bytesOf_is : ∀ (k : Nat) (b : Bits), b.length / 8 < k → (bytesOf k b).map UInt8.toNat = bytesN (padded b)
  | 0, b, h => by omega
  | k + 1, [], _ => rfl
  | k + 1, x :: b, h => by
    rw [bytesN_cons _ (by simp)]
    show (UInt8.ofNat ((List.range 8).foldl (fun n i => 2 * n + ((x :: b).getD i false).toNat) 0)).toNat :: (bytesOf k ((x :: b).drop 8)).map UInt8.toNat = _
    have hp : ((x :: b) ++ List.replicate 8 false).take 8 = (padded (x :: b)).take 8 := by
      unfold padded
      by_cases h8 : 8 ≤ (x :: b).length
      · rw [List.take_append_of_le_length h8, List.take_append_of_le_length h8]
      · have h1 : 1 ≤ (x :: b).length := by simp
        rw [List.take_append, List.take_append, List.take_replicate, List.take_replicate]
        generalize (x :: b).length = n at h8 h1 ⊢
        congr 2
        omega
    rw [range8_pad, hp]
    have hv : val ((padded (x :: b)).take 8) < 256 := by
      have h1 := val_lt ((padded (x :: b)).take 8)
      have h2 : 2 ^ ((padded (x :: b)).take 8).length ≤ 2 ^ 8 := Nat.pow_le_pow_right (by decide) (by rw [List.length_take]; omega)
      omega
    congr 1
    · rw [UInt8.toNat_ofNat']
      exact Nat.mod_eq_of_lt hv
    · cases k with
      | zero =>
        simp only [List.length_cons] at h
        have : (x :: b).drop 8 = [] := List.drop_eq_nil_of_le (by simp; omega)
        rw [this]
        rfl
      | succ k =>
        by_cases h8 : 8 ≤ (x :: b).length
        · exact bytesOf_is (k + 1) _ (by rw [List.length_drop]; omega)
        · have : (x :: b).drop 8 = [] := List.drop_eq_nil_of_le (by omega)
          rw [this]
          rfl
theorem byteInts_is (k : Nat) (b : Bits) (h : b.length / 8 < k) : Ql31Neutral.byteInts (bytesOf k b) = (bytesN (padded b)).map (fun (n : Nat) => (n : Int)) := by
  rw [← bytesOf_is k b h, List.map_map]
  rfl
/-- what stands after so many signs of a text of whole bytes -/
def packed (b : Bits) (i : Nat) : List Nat × Nat := ((List.range (i / 8)).map fun q => val ((b.drop (8 * q)).take 8), val ((b.drop (8 * (i / 8))).take (i % 8)))
theorem packed_step (b : Bits) (i : Nat) (x : Bool) (h : b[i]? = some x) :
    packed b (i + 1) = if i % 8 = 7 then ((packed b i).1 ++ [2 * (packed b i).2 + x.toNat], 0) else ((packed b i).1, 2 * (packed b i).2 + x.toNat) := by
  have hi : i < b.length := (List.getElem?_eq_some_iff.mp h).1
  have hs : val ((b.drop (8 * (i / 8))).take (i % 8 + 1)) = 2 * val ((b.drop (8 * (i / 8))).take (i % 8)) + x.toNat := by
    rw [List.take_succ_eq_append_getElem (by rw [List.length_drop]; omega), val_snoc, List.getElem_drop]
    congr 2
    have e : 8 * (i / 8) + i % 8 = i := by omega
    have := (List.getElem?_eq_some_iff.mp h).2
    simp only [e]
    exact this
  unfold packed
  split
  · rename_i h7
    have e1 : (i + 1) / 8 = i / 8 + 1 := by omega
    have e2 : (i + 1) % 8 = 0 := by omega
    rw [e1, e2, List.range_succ, List.map_append, List.take_zero]
    rw [h7] at hs
    rw [h7, ← hs]
    rfl
  · rename_i h7
    have e1 : (i + 1) / 8 = i / 8 := by omega
    have e2 : (i + 1) % 8 = i % 8 + 1 := by omega
    rw [e1, e2, hs]
theorem packed_all (b : Bits) (h : b.length % 8 = 0) : (packed b b.length).1 = bytesN b := rfl

/-! ### Rows out of a picture -/
theorem rowFrom_len (w : Nat) (l : List UInt8) (h : l.length = stride w) : (rowFrom w l).length = w := by
  unfold rowFrom
  rw [List.length_take, bitsFrom_is, bitsNs_len, List.length_map, h]
  unfold stride
  omega
theorem rowsFrom_len (w n : Nat) (l : List UInt8) : (rowsFrom w n l).length = n := by simp [rowsFrom]
theorem rowsFrom_get (w n : Nat) (l : List UInt8) (i : Nat) (h : i < n) : (rowsFrom w n l)[i]? = some (rowFrom w ((l.drop (i * stride w)).take (stride w))) := by
  unfold rowsFrom
  rw [List.getElem?_map, List.getElem?_range h]
  rfl
theorem rowsFrom_w (w n : Nat) (l : List UInt8) (h : l.length = n * stride w) : ∀ r ∈ rowsFrom w n l, r.length = w := by
  intro r hr
  unfold rowsFrom at hr
  obtain ⟨i, hi, rfl⟩ := List.mem_map.mp hr
  have := List.mem_range.mp hi
  refine rowFrom_len w _ ?_
  rw [List.length_take, List.length_drop, h]
  have : i * stride w + stride w ≤ n * stride w := by
    rw [← Nat.succ_mul]
    exact Nat.mul_le_mul_right _ this
  omega
theorem octets_slice (p : List Int) (a b : Nat) : ((Ql31Neutral.octets p).drop a).take b = Ql31Neutral.octets ((p.drop a).take b) := by
  unfold Ql31Neutral.octets
  rw [← List.map_drop, ← List.map_take]
end Fax
set_option Elab.async false
set_option maxRecDepth 100000
set_option maxHeartbeats 8000000
namespace Fax
open PySem PySem.W
/-! ### The texts of the tables, as lists of signs -/
def signs (b : Ql31.Bits) : List Nat := b.map fun x => if x = true then 49 else 48
def T (b : Ql31.Bits) : Str := ⟨(signs b).toArray⟩
def joined : List (List Nat) → List Nat
  | [] => []
  | [x] => x
  | x :: y :: r => x ++ 32 :: joined (y :: r)
def codesS (d : Bool) : List Ql31.Bits := (List.range 64).map (Ql31.codeOf d)
def codesL (d : Bool) : List Ql31.Bits := (List.range 27).map fun i => Ql31.codeOf d (64 * (i + 1))
def codesB : List Ql31.Bits := (List.range 13).map fun i => Ql31.codeOf false (64 * (i + 28))
def textOf (l : List Ql31.Bits) : List Nat := joined (l.map signs)
theorem str_of {s : String} {l : List Nat} (h : s = String.ofList (l.map Char.ofNat)) (h2 : (l.all fun c => Nat.beq (Char.ofNat c).toNat c) = true) : Str.ofString s = ⟨l.toArray⟩ := by
  rw [h, Fast.ofString_ofList, List.map_map]
  congr 2
  conv => rhs; rw [← List.map_id l]
  refine List.map_congr_left fun c hc => ?_
  exact Nat.eq_of_beq_eq_true (List.all_eq_true.mp h2 c hc)
/-- the constant text at the i-th place of a top -/
def strAt (b : List Stmt) (i : Nat) : Str := match b.getD i (.Pass ⟨0, 0, 0, 0⟩) with
  | .Assign _ (.Constant (.str x) _ _) _ => x
  | _ => Str.empty
theorem str_at {b : List Stmt} {i : Nat} {s : String} {l : List Nat} (e : strAt b i = Str.ofString s) (h : s = String.ofList (l.map Char.ofNat)) (h2 : (l.all fun c => Nat.beq (Char.ofNat c).toNat c) = true) : strAt b i = ⟨l.toArray⟩ := e.trans (str_of h h2)
abbrev top1 : List Stmt := PySem.Challenge.pw_faxpages_s01_fax_write.main.body
theorem s1_ws : strAt top1 1 = ⟨(textOf (codesS false)).toArray⟩ := str_at rfl (by kernel_rfl) (by decide +kernel)
theorem s1_wl : strAt top1 2 = ⟨(textOf (codesL false)).toArray⟩ := str_at rfl (by kernel_rfl) (by decide +kernel)
theorem s1_bs : strAt top1 3 = ⟨(textOf (codesS true)).toArray⟩ := str_at rfl (by kernel_rfl) (by decide +kernel)
theorem s1_bl : strAt top1 4 = ⟨(textOf (codesL true)).toArray⟩ := str_at rfl (by kernel_rfl) (by decide +kernel)
theorem s1_bo : strAt top1 5 = ⟨(textOf codesB).toArray⟩ := str_at rfl (by kernel_rfl) (by decide +kernel)

/-! ### The look at the program -/
theorem looks_of {p : Program} (a1 : sreFenced p.main = true) (a2 : ((moduleNames p.main.body).isEmpty || lookedIntoSs (moduleNames p.main.body) p.main.body) = true) (a3 : namesResolve p = true) (a4 : p.boundNames.all (fun n => !worldNames.contains n) = true)
    {b : Bool} {ws : List Str} (e1 : (!(importedModules p.main.body).all cThrough.contains) = b) (e2 : (["vars", "dir", "locals"] : List Str).filter (readsOut p p.main.body) = ws)
    (a5 : noRoadLSs { strict := b, foot := none, bare := ws } p.main.body = true) (a6 : (namesMeet p p.main.body fun _ n => attrL n) = true) : looksOpen p = true := by
  unfold looksOpen
  rw [e1, e2, a1, a2, a3, a4, a5, a6]
  rfl
theorem said_of {r : OpenSpec} (h : looksOpen r.prog = true) (h2 : (r.prog.boundNames.contains r.name && !startupNames.contains r.name && specDef r.prog r.name r.args.length && r.args.all Codec.fits && r.ret.ok) = true) : r.wellSaid = true := by
  unfold OpenSpec.wellSaid
  rw [h, Bool.true_and]
  exact h2
theorem any_false {l : List Nat} {p : Nat → Bool} (h : ∀ c ∈ l, p c = false) : l.any p = false := by
  rw [Bool.eq_false_iff]
  intro q
  obtain ⟨c, h1, h2⟩ := List.any_eq_true.mp q
  rw [h c h1] at h2
  cases h2
theorem frame_short : frameAttrs.all (fun y => Nat.ble y.cps.toList.length 60) = true := by decide +kernel
/-- a long text of blanks, noughts and ones passes the look -/
theorem str_ok {x : Str} {l : List Nat} (e : x = ⟨l.toArray⟩) (h1 : Nat.ble 61 l.length = true) (h2 : l.all (fun c => Nat.beq c 32 || (Nat.beq c 48 || Nat.beq c 49)) = true) : Look.str { strict := false, foot := none } x = true := by
  have ex : x.cps.toList = l := by rw [e]
  have hs : ∀ c ∈ x.cps.toList, c = 32 ∨ c = 48 ∨ c = 49 := fun c hc => by
    rw [ex] at hc
    have := List.all_eq_true.mp h2 c hc
    rw [Bool.or_eq_true, Bool.or_eq_true] at this
    exact this.imp Nat.eq_of_beq_eq_true (Or.imp Nat.eq_of_beq_eq_true Nat.eq_of_beq_eq_true)
  have r1 : x.cps.any (fun c => c == 123 || c == 125) = false := by
    rw [← Array.any_toList]
    refine any_false fun c hc => ?_
    rcases hs c hc with rfl | rfl | rfl <;> rfl
  have r2 : x.cps.any (· == 46) = false := by
    rw [← Array.any_toList]
    refine any_false fun c hc => ?_
    rcases hs c hc with rfl | rfl | rfl <;> rfl
  have hroad : roadStr x = false := by
    unfold roadStr
    rw [r1, r2]
    rfl
  have hf : frameAttrs.contains x = false := by
    rw [Bool.eq_false_iff]
    intro q
    have hm := List.contains_iff_mem.mp q
    have := List.all_eq_true.mp frame_short x hm
    have a := Nat.le_of_ble_eq_true this
    have b := Nat.le_of_ble_eq_true h1
    rw [ex] at a
    omega
  have h3 : x.opensWith "__" = false := by
    unfold Str.opensWith
    rw [Bool.eq_false_iff]
    intro q
    have q1 := beq_iff_eq.mp q
    have q2 := congrArg Array.toList q1
    rw [Array.toList_extract] at q2
    have q3 : 95 ∈ x.cps.toList := by
      have : 95 ∈ (Str.ofString "__").cps.toList := by decide +kernel
      rw [← q2] at this
      exact List.mem_of_mem_drop (List.mem_of_mem_take this)
    rcases hs _ q3 with h | h | h <;> cases h
  have hw : Look.word { strict := false, foot := none } x = true := by
    unfold Look.word attrL
    rw [hf, h3]
    rfl
  unfold Look.str
  rw [hw, hroad]
  cases underscores x <;> rfl
theorem assign_str {n x : Str} {p q r : Pos} {k : Nat} (h : Look.name { strict := false, foot := none } n = true) (hs : Look.str { strict := false, foot := none } x = true) :
    noRoadLS { strict := false, foot := none } (.Assign [.Name n p] (.Constant (.str x) k q) r) = true := by
  show (Look.stores { strict := false, foot := none } [.Name n p] && (Look.name { strict := false, foot := none } n && true) && Look.str { strict := false, foot := none } x) = true
  rw [h, hs]
  rfl
theorem road_cons {lk : Look} {s : Stmt} {r : List Stmt} (h : noRoadLS lk s = true) (t : noRoadLSs lk r = true) : noRoadLSs lk (s :: r) = true := by
  show (noRoadLS lk s && noRoadLSs lk r) = true
  rw [h, t]
  rfl
theorem road1 : noRoadLSs { strict := false, foot := none } top1 = true :=
  road_cons (by decide +kernel)
    (road_cons (assign_str (by decide +kernel) (str_ok s1_ws (by decide +kernel) (by decide +kernel)))
    (road_cons (assign_str (by decide +kernel) (str_ok s1_wl (by decide +kernel) (by decide +kernel)))
    (road_cons (assign_str (by decide +kernel) (str_ok s1_bs (by decide +kernel) (by decide +kernel)))
    (road_cons (assign_str (by decide +kernel) (str_ok s1_bl (by decide +kernel) (by decide +kernel)))
    (road_cons (assign_str (by decide +kernel) (str_ok s1_bo (by decide +kernel) (by decide +kernel)))
      (by decide +kernel))))))
theorem looks1 : looksOpen PySem.Challenge.rw_faxpages_s01_fax_write.prog = true :=
  looks_of (b := false) (ws := []) (by decide +kernel) (by decide +kernel) (by decide +kernel) (by decide +kernel) (by decide +kernel) (by decide +kernel) road1 (by decide +kernel)
theorem said1 : PySem.Challenge.rw_faxpages_s01_fax_write.wellSaid = true := said_of looks1 (by decide +kernel)
end Fax
set_option Elab.async false
set_option linter.all false
set_option maxRecDepth 100000
set_option maxHeartbeats 4000000
/-! Rules that the layer lacks: enumerate of a text, a text repeated. -/
namespace L2
open PySem PySem.Spec PyProof.Rows

/-! ### enumerate(text) -/
def Itse (x : Str) : It :=
  ⟨fun i _ => i < x.cps.size, fun i H v H' => ∃ T c, v = .ref T ∧ H T = none ∧ H' = upd H T (.tup [.int (i : Nat), .str ⟨#[c]⟩]) ∧ x.cps[i]? = some c, fun i _ => x.cps.size ≤ i⟩
theorem turn_enumS {P : Program} {w : World} {K : PySem.W.Frag} {elts : List Expr} {kk : Nat} {tpos : Pos} (e it : Addr) (x : Str) (t : Tok) :
    Turn P w K (.Tuple elts kk tpos) (Itse x) [e, it] e (fun i h => (∃ old, IsEnum h e it ((i : Nat) : Int) old) ∧ h.IsStrIter it (strIterType x) x t i ∧ e ≠ it ∧ i ≤ x.cps.size) where
  mem := by simp
  obj := fun i h st b hb => by
    obtain ⟨⟨old, he⟩, ⟨o, ho, hc, hd⟩, _⟩ := st
    have e' : b = e ∨ b = it := by simpa using hb
    rcases e' with z | z
    · rw [z]; exact ⟨_, he, fun v q => nomatch q⟩
    · rw [z]; exact ⟨o, ho, fun v q => by rw [hd] at q; cases q⟩
  keep := fun i h h' st k => let ⟨⟨old, he⟩, ⟨o, ho, r⟩, hne⟩ := st; ⟨⟨old, k e (by simp) _ he⟩, ⟨o, k it (by simp) o ho, r⟩, hne⟩
  item := by
    intro X hP hw hK hc i pins s σ H E I hf st hg
    subst hP hw hK
    obtain ⟨⟨old, he⟩, hit, hne, hle⟩ := st
    have hel : e < s.heap.objs.size := Heap.lt_size he
    have hil : it < s.heap.objs.size := by obtain ⟨_, q, _⟩ := hit; exact Heap.lt_size q
    have D := Draws.text (prog := X.prog) (w := X.w) (A := X.A.in1) (show X.A.in1.handled = none from I.ok.hd hc) it x t
    refine wpAny_pyNext_enum_itemD D he hit hg hne (by simpa using hne) fun v h' tk hP ho hit' hT hsz hk => ?_
    obtain ⟨c, u, hcx, rfl⟩ := hP
    refine ⟨_, rfl, wpAny_letOwnedTupleGo_enum (s := { s with heap := h', toks := tk + 1 }) ho fun h'' he' sb => ?_⟩
    have hT2 : h''.get? s.heap.objs.size = some { cls := .type "tuple", data := .seq #[.int i tk, .str ⟨#[c]⟩ u] } := (sb.2 _ (Nat.ne_of_gt hel)).trans hT
    have new : ObjOk X.prog X.w (upd H s.heap.objs.size (.tup [.int (i : Nat), .str ⟨#[c]⟩])) h'' s.heap.objs.size (.tup [.int (i : Nat), .str ⟨#[c]⟩]) :=
      ⟨by show 2 ≤ sizeLine; decide, [.int i tk, .str ⟨#[c]⟩ u], .cons ⟨_, rfl⟩ (.cons ⟨u, rfl⟩ .nil), ⟨_, hT2, rfl, _, rfl⟩⟩
    have I1 : Inv X pins σ (upd H s.heap.objs.size (.tup [.int (i : Nat), .str ⟨#[c]⟩])) { s with heap := h'', toks := tk + 1 } :=
      I.turnedNew (ch := [e, it]) (fun b ob hb q => (sb.2 b (fun z => hb (by simp [z]))).trans (hk b ob (fun z => hb (by simp [z])) (fun z => hb (by simp [z])) q)) hf (Nat.le_refl _) new
    have hit2 : h''.IsStrIter it (strIterType x) x t (i + 1) := by
      obtain ⟨o, q, r⟩ := hit'
      exact ⟨o, (sb.2 it (Ne.symm hne)).trans q, r⟩
    refine ⟨.ref s.heap.objs.size, _, I1, rfl, ⟨_, c, rfl, I.hok.fresh (Nat.le_refl _), rfl, hcx⟩, ⟨⟨.str ⟨#[c]⟩ u, ?_⟩, hit2, hne, hg⟩, fun b hb => ?_⟩
    · have e1 : ((i + 1 : Nat) : Int) = (i : Int) + 1 := by omega
      rw [e1]; exact he'
    · have hb' : b < s.heap.objs.size := by
        have e' : b = e ∨ b = it := by simpa using hb
        rcases e' with z | z
        · rw [z]; exact hel
        · rw [z]; exact hil
      rw [upd_ne (Nat.ne_of_lt hb')]
      exact (hf b hb).1
  done := by
    intro X hP hw hK hc i pins s σ H E I hf st hg
    subst hP hw hK
    obtain ⟨⟨old, he⟩, hit, hne, hle⟩ := st
    obtain ⟨f0, f1, f2, f3, f4, f5⟩ := hf it (by simp)
    have hi : i = x.cps.size := Nat.le_antisymm hle hg
    have D := Draws.text (prog := X.prog) (w := X.w) (A := X.A.in1) (show X.A.in1.handled = none from I.ok.hd hc) it x t
    exact wpAny_pyNext_enum_endD D he (hi ▸ hit) fun h' eb => ⟨rfl, I.turned (t' := s.toks) (fun b o hb q => eb b o hb q) f0 f1 f3 f4 f5⟩
  self := fun A i s Q E st h => let ⟨⟨_, he⟩, _⟩ := st; wpAny_pyIter_enum he h
def iEnumS (ta : TA) : TI := fun σ H R => ta σ H fun vs H1 => ∃ x : Str, vs = [.str x] ∧ R (Itse x) H1
theorem pi_enumS {X : Cx} {e : Expr} {ta : TA} {p pos tpos : Pos} {elts : List Expr} {kk : Nat} (hg : Gl X "enumerate") (hm : X.mg "enumerate" = none) (ha : PA X [e] ta) (hs : starEach [e] X.env = [(false, eval e X.env)] := by rfl) :
    PI X (.Tuple elts kk tpos) (.Call (.Name "enumerate" p) [e] [] pos) (iEnumS ta) := by
  refine ⟨fun pins s σ H R I h => ?_⟩
  refine Call_ (ld_blt I hg hm boot_enumerate (PyProof.Rows.callWith_type1 (thn (ha.run pos pins s σ H _ I h) fun us s1 ⟨vs, H1, I1, r1, q1⟩ => ?_) hs rfl))
  obtain ⟨x, ex, q⟩ := q1
  subst ex
  cases r1 with
  | cons r rr =>
    cases rr
    obtain ⟨t, rfl⟩ := r
    refine call_enumerate_str fun h' he hit hsz hk => wpAny_pyIter_enum he ?_
    have I2 : Inv X pins σ H1 { s1 with heap := h' } := I1.kept (t' := s1.toks) hk
    refine ⟨s1.heap.objs.size + 1, [s1.heap.objs.size + 1, s1.heap.objs.size], _, _, H1, rfl, I2, turn_enumS (s1.heap.objs.size + 1) s1.heap.objs.size x t, ⟨⟨.none, he⟩, hit, Nat.succ_ne_self _, Nat.zero_le _⟩, fun b hb => ?_, q⟩
    have e' : b = s1.heap.objs.size + 1 ∨ b = s1.heap.objs.size := by simpa using hb
    have hle : s1.heap.objs.size ≤ b := by
      rcases e' with z | z
      · rw [z]; exact Nat.le_add_right _ _
      · rw [z]; exact Nat.le_refl _
    exact I1.fpOk hle (I1.hok.fresh hle)
/-- the loop over it, by a word -/
theorem for_enumS {x : Str} {g : TG} {tb : TS} {D : Ends} {σ : St} {H : Hp} (Pv : Nat → St → Hp → Prop) (h0 : Pv 0 σ H)
    (hs : ∀ i c T σ H, x.cps[i]? = some c → H T = none → Pv i σ H → g (.ref T) σ (upd H T (.tup [.int (i : Nat), .str ⟨#[c]⟩])) fun σ2 H2 => tb { D with nx := Pv (i + 1), ct := Pv (i + 1), bk := D.nx } σ2 H2) (hd : ∀ σ H, Pv x.cps.size σ H → D.nx σ H) :
    ∃ W : Nat → Nat → St → Hp → Prop, (∃ m, W 0 m σ H) ∧ ∀ i m σ H, W i m σ H →
      ((Itse x).stop i H ∧ D.nx σ H) ∨ ((Itse x).go i H ∧ ∃ N : St → Hp → Prop, (∀ σ' H', N σ' H' → ∃ m', m' < m ∧ W (i + 1) m' σ' H') ∧ ∀ x' H', (Itse x).yld i H x' H' → g x' σ H' fun σ2 H2 => tb { D with nx := N, ct := N, bk := D.nx } σ2 H2) := by
  refine ⟨fun i m σ H => m = x.cps.size - i ∧ i ≤ x.cps.size ∧ Pv i σ H, ⟨x.cps.size, by simp, Nat.zero_le _, h0⟩, ?_⟩
  rintro i m σ H ⟨rfl, hi, p⟩
  by_cases hlt : i < x.cps.size
  · refine .inr ⟨hlt, Pv (i + 1), fun σ' H' p' => ⟨x.cps.size - (i + 1), by omega, rfl, hlt, p'⟩, fun x' H' y => ?_⟩
    obtain ⟨T, c, rfl, nT, rfl, hc⟩ := y
    exact hs i c T σ H hc nT p
  · have e : i = x.cps.size := by omega
    subst e
    exact .inl ⟨Nat.le_refl _, hd σ H p⟩
/-- over enumerate of a list that the body leaves as it is -/
theorem for_enumL {K : PySem.W.Frag} {a : Addr} {xs : List V} {g : TG} {tb : TS} {D : Ends} {σ : St} {H : Hp} (Pv : Nat → St → Hp → Prop) (h0 : Pv 0 σ H) (hl : ∀ i σ H, i ≤ xs.length → Pv i σ H → SqL K H a xs)
    (hs : ∀ i x T σ H, xs[i]? = some x → H T = none → Pv i σ H → g (.ref T) σ (upd H T (.tup [.int (i : Nat), x])) fun σ2 H2 => tb { D with nx := Pv (i + 1), ct := Pv (i + 1), bk := D.nx } σ2 H2) (hd : ∀ σ H, Pv xs.length σ H → D.nx σ H) :
    ∃ W : Nat → Nat → St → Hp → Prop, (∃ m, W 0 m σ H) ∧ ∀ i m σ H, W i m σ H →
      ((Ite K a).stop i H ∧ D.nx σ H) ∨ ((Ite K a).go i H ∧ ∃ N : St → Hp → Prop, (∀ σ' H', N σ' H' → ∃ m', m' < m ∧ W (i + 1) m' σ' H') ∧ ∀ x' H', (Ite K a).yld i H x' H' → g x' σ H' fun σ2 H2 => tb { D with nx := N, ct := N, bk := D.nx } σ2 H2) := by
  refine ⟨fun i m σ H => m = xs.length - i ∧ i ≤ xs.length ∧ Pv i σ H, ⟨xs.length, by simp, Nat.zero_le _, h0⟩, ?_⟩
  rintro i m σ H ⟨rfl, hi, p⟩
  have q := hl i σ H hi p
  by_cases hlt : i < xs.length
  · refine .inr ⟨⟨xs, xs[i], q, by simp [hlt]⟩, Pv (i + 1), fun σ' H' p' => ⟨xs.length - (i + 1), by omega, rfl, hlt, p'⟩, fun x' H' y => ?_⟩
    obtain ⟨T, x, rfl, nT, rfl, hx⟩ := y
    exact hs i x T σ H (hx xs q) nT p
  · have e : i = xs.length := by omega
    subst e
    exact .inl ⟨⟨xs, q, Nat.le_refl _⟩, hd σ H p⟩
/-! ### a text repeated -/
theorem op_mul_str {X : Cx} : OpR X (binaryOp .Mult) (fun x y H Q => ∃ z k, x = .str z ∧ y = .int k ∧ 0 ≤ k ∧ k ≤ 1000 ∧ z.length ≤ 1000 ∧ Q (.str (Txt.mul z k)) H) := by
  intro pins s σ H x y v u Q I rx ry h
  obtain ⟨z, k, rfl, rfl, h0, h1, hz, q⟩ := h
  obtain ⟨t, rfl⟩ := rx
  obtain ⟨t', rfl⟩ := ry
  refine PySem.SB.mul ⟨?_, fun h _ => ?_, fun _ _ => ?_⟩ (fun t' tk => ⟨.str (Txt.mul z k), H, I.tok _, ⟨_, rfl⟩, q⟩)
  · rw [decide_eq_false (by omega), decide_eq_false (by omega)]
    rfl
  · have : (1000 : Int) ≤ (2 ^ 63 - 1) / k := by
      rw [Int.le_ediv_iff_mul_le (by omega)]
      omega
    omega
  · have h2 : z.length * k.toNat ≤ 1000 * 1000 := Nat.mul_le_mul hz (by omega)
    have h3 : ¬ z.length * k.toNat > sizeLine := Nat.not_lt.mpr (Nat.le_trans h2 (by decide))
    show decide (z.length * k.toNat > sizeLine) = false
    exact decide_eq_false h3
theorem rel_str (x : Str) (t : Tok) : RelV (.str x) (.str x t) := ⟨t, rfl⟩
theorem rel_int (i : Int) (t : Tok) : RelV (.int i) (.int i t) := ⟨t, rfl⟩
/-! ### an if whose test is known -/
theorem if_true_of {c : Bool} {A B : Prop} (hc : c = true) (h : A) : if c = true then A else B := by
  rw [if_pos hc]
  exact h
theorem if_false_of {c : Bool} {A B : Prop} (hc : c = false) (h : B) : if c = true then A else B := by
  rw [hc, if_neg Bool.false_ne_true]
  exact h
theorem if_dec {p : Prop} [Decidable p] {A B : Prop} (h1 : p → A) (h2 : ¬ p → B) : if decide p = true then A else B := by
  by_cases h : p
  · exact if_true_of (decide_eq_true h) (h1 h)
  · exact if_false_of (decide_eq_false h) (h2 h)
theorem if_yes {p : Prop} [Decidable p] {A B : Prop} (h : p) (h1 : A) : if decide p = true then A else B := if_true_of (decide_eq_true h) h1
theorem if_no {p : Prop} [Decidable p] {A B : Prop} (h : ¬ p) (h1 : B) : if decide p = true then A else B := if_false_of (decide_eq_false h) h1
/-! ### heaps -/
theorem same_upd {H : Hp} {p : Addr} {o : HO} (h : H p = none) : Same H (upd H p o) := fun b x e => by
  rw [upd_ne (ne_of_none e h)]
  exact e
theorem Same.tup {K : PySem.W.Frag} {H H' : Hp} {a : Addr} {xs : List V} (e : Same H H') (h : SqT K H a xs) : SqT K H' a xs := by
  rcases h with (h | ⟨o, h⟩) | h
  · exact .inl (.inl (e _ _ h))
  · exact .inl (.inr ⟨o, e _ _ h⟩)
  · exact .inr h
/-- all but what stands at l is as it was -/
def But (l : Addr) (H H' : Hp) : Prop := ∀ b o, b ≠ l → H b = some o → H' b = some o
theorem But.refl (l : Addr) (H : Hp) : But l H H := fun _ _ _ e => e
theorem But.trans {l : Addr} {H H1 H2 : Hp} (a : But l H H1) (b : But l H1 H2) : But l H H2 := fun c o n e => b c o n (a c o n e)
theorem Same.but {l : Addr} {H H' : Hp} (a : Same H H') : But l H H' := fun b o _ e => a b o e
theorem but_upd {H : Hp} {l : Addr} {o : HO} : But l H (upd H l o) := fun b x n e => by
  rw [upd_ne n]
  exact e
end L2
set_option Elab.async false
set_option linter.all false
set_option maxRecDepth 100000
set_option maxHeartbeats 4000000
/-! The tables as texts and dicts. -/
namespace Fax
open PySem PySem.Spec PyProof.Rows L2

/-! ### texts of bits -/
theorem str_ext {a b : Str} (h : a.cps.toList = b.cps.toList) : a = b := by
  cases a; cases b
  simp only [Str.mk.injEq]
  exact Array.toList_inj.mp h
theorem T_list (b : Ql31.Bits) : (T b).cps.toList = signs b := rfl
theorem signs_len (b : Ql31.Bits) : (signs b).length = b.length := by simp [signs]
theorem T_len (b : Ql31.Bits) : (T b).length = b.length := by
  show (signs b).toArray.size = _
  rw [List.size_toArray, signs_len]
theorem signs_append (a b : Ql31.Bits) : signs (a ++ b) = signs a ++ signs b := by simp [signs]
theorem T_append (a b : Ql31.Bits) : T a ++ T b = T (a ++ b) := by
  apply str_ext
  show ((signs a).toArray ++ (signs b).toArray).toList = signs (a ++ b)
  rw [signs_append]
  simp
theorem signs_inj : ∀ {a b : Ql31.Bits}, signs a = signs b → a = b
  | [], [], _ => rfl
  | [], _ :: _, h => by simp [signs] at h
  | _ :: _, [], h => by simp [signs] at h
  | x :: a, y :: b, h => by
    have h' : (if x = true then 49 else 48) :: signs a = (if y = true then 49 else 48) :: signs b := h
    obtain ⟨h1, h2⟩ := List.cons.inj h'
    rw [signs_inj h2]
    congr 1
    revert h1
    cases x <;> cases y <;> decide
theorem T_inj {a b : Ql31.Bits} (h : T a = T b) : a = b := signs_inj (congrArg (fun s : Str => s.cps.toList) h)
theorem T_nil : T [] = Str.empty := rfl
theorem join_T : ∀ l : List Ql31.Bits, Str.join Str.empty (l.map T) = T l.flatten
  | [] => rfl
  | [x] => by
    show T x = T ([x].flatten)
    simp
  | x :: y :: r => by
    show T x ++ Str.empty ++ Str.join Str.empty ((y :: r).map T) = _
    rw [join_T (y :: r), ← T_nil, T_append, T_append, List.append_nil]
    rfl
/-! ### a text of codes, split -/
def tx (l : List Nat) : Str := ⟨l.toArray⟩
theorem joined_cps (l : List Str) : (Str.join ⟨#[32]⟩ l).cps.toList = joined (l.map fun x => x.cps.toList) := by
  match l with
  | [] => rfl
  | [x] => rfl
  | x :: y :: r =>
    show ((x.cps ++ #[32]) ++ (Str.join ⟨#[32]⟩ (y :: r)).cps).toList = x.cps.toList ++ 32 :: joined ((y :: r).map fun x => x.cps.toList)
    rw [Array.toList_append, Array.toList_append, joined_cps (y :: r), List.append_assoc]
    rfl
theorem cut_first : ∀ {a b p q : List Nat}, 32 ∉ a → 32 ∉ b → a ++ 32 :: p = b ++ 32 :: q → a = b ∧ p = q
  | [], [], _, _, _, _, h => ⟨rfl, (List.cons.inj h).2⟩
  | [], y :: b, _, _, _, hb, h => absurd (List.mem_cons.mpr (.inl (List.cons.inj h).1)) hb
  | x :: a, [], _, _, ha, _, h => absurd (List.mem_cons.mpr (.inl (List.cons.inj h).1.symm)) ha
  | x :: a, y :: b, p, q, ha, hb, h => by
    obtain ⟨h1, h2⟩ := List.cons.inj h
    obtain ⟨e1, e2⟩ := cut_first (fun z => ha (List.mem_cons_of_mem _ z)) (fun z => hb (List.mem_cons_of_mem _ z)) h2
    exact ⟨by rw [h1, e1], e2⟩
theorem joined_mem : ∀ {x y : List Nat} {r : List (List Nat)}, 32 ∈ joined (x :: y :: r) := by
  intro x y r
  show 32 ∈ x ++ 32 :: joined (y :: r)
  simp
theorem joined_inj : ∀ {a b : List (List Nat)}, a ≠ [] → b ≠ [] → (∀ p ∈ a, 32 ∉ p) → (∀ p ∈ b, 32 ∉ p) → joined a = joined b → a = b
  | [], _, h, _, _, _, _ => absurd rfl h
  | _, [], _, h, _, _, _ => absurd rfl h
  | [x], [y], _, _, _, _, h => by rw [show x = y from h]
  | [x], y :: z :: r, _, _, ha, _, h => by
    have h' : x = joined (y :: z :: r) := h
    exact absurd (h' ▸ joined_mem) (ha x (List.mem_singleton.mpr rfl))
  | x :: z :: r, [y], _, _, _, hb, h => by
    have h' : joined (x :: z :: r) = y := h
    exact absurd (h' ▸ joined_mem) (hb y (List.mem_singleton.mpr rfl))
  | x :: x2 :: r, y :: y2 :: s, _, _, ha, hb, h => by
    have h' : x ++ 32 :: joined (x2 :: r) = y ++ 32 :: joined (y2 :: s) := h
    obtain ⟨e1, e2⟩ := cut_first (ha x List.mem_cons_self) (hb y List.mem_cons_self) h'
    rw [e1, joined_inj (List.cons_ne_nil _ _) (List.cons_ne_nil _ _) (fun p hp => ha p (List.mem_cons_of_mem _ hp)) (fun p hp => hb p (List.mem_cons_of_mem _ hp)) e2]
theorem signs_free (b : Ql31.Bits) : 32 ∉ signs b := by
  intro h
  obtain ⟨x, _, e⟩ := List.mem_map.mp h
  revert e
  cases x <;> decide
theorem split_text (l : List Ql31.Bits) (hl : l ≠ []) : Txt.split (tx (textOf l)) ⟨#[32]⟩ = l.map T := by
  have h1 : joined ((Txt.split (tx (textOf l)) ⟨#[32]⟩).map fun x => x.cps.toList) = joined (l.map signs) := by
    rw [← joined_cps, PySem.StrLaws.join_split]
    rfl
  have hne : Txt.split (tx (textOf l)) ⟨#[32]⟩ ≠ [] := fun h => by
    have := split_pos (tx (textOf l)) ⟨#[32]⟩
    rw [h] at this
    exact absurd this (by decide)
  have h2 := joined_inj (fun h => hne (List.map_eq_nil_iff.mp h)) (fun h => hl (List.map_eq_nil_iff.mp h)) (fun p hp => by
    obtain ⟨x, hx, e⟩ := List.mem_map.mp hp
    rw [← e]
    exact PySem.StrLaws.split_free _ 32 x hx) (fun p hp => by
    obtain ⟨x, hx, e⟩ := List.mem_map.mp hp
    rw [← e]
    exact signs_free x) h1
  have h3 : ((Txt.split (tx (textOf l)) ⟨#[32]⟩).map fun x => x.cps.toList) = (l.map T).map fun x => x.cps.toList := by
    rw [h2, List.map_map]
    rfl
  exact List.map_inj_right (fun a b h => str_ext h) |>.mp h3
theorem blank_is : (" " : Str) = ⟨#[32]⟩ := by decide +kernel
theorem textOf_append : ∀ (a b : List Ql31.Bits), a ≠ [] → b ≠ [] → textOf (a ++ b) = textOf a ++ 32 :: textOf b
  | [], _, h, _ => absurd rfl h
  | [x], [], _, h => absurd rfl h
  | [x], y :: b, _, _ => rfl
  | x :: x2 :: a, b, _, hb => by
    show signs x ++ 32 :: textOf ((x2 :: a) ++ b) = (signs x ++ 32 :: textOf (x2 :: a)) ++ 32 :: textOf b
    rw [textOf_append (x2 :: a) b (List.cons_ne_nil _ _) hb]
    simp
theorem tx_cat (a b : List Ql31.Bits) (ha : a ≠ []) (hb : b ≠ []) : tx (textOf a) ++ ⟨#[32]⟩ ++ tx (textOf b) = tx (textOf (a ++ b)) := by
  apply str_ext
  rw [textOf_append a b ha hb]
  show (((textOf a).toArray ++ #[32]) ++ (textOf b).toArray).toList = _
  simp [tx]
/-! ### the dicts -/
def longs (d : Bool) : List Ql31.Bits := (List.range 40).map fun i => Ql31.codeOf d (64 * (i + 1))
theorem longs_is (d : Bool) : codesL d ++ codesB = longs d := by cases d <;> decide +kernel
/-- the codes by lengths -/
def lenTab (d : Bool) : List (Key × V) := ((List.range 64).map fun (n : Nat) => ((.inl (n : Int) : Key), V.str (T (Ql31.codeOf d n)))) ++ (List.range 40).map fun (i : Nat) => ((.inl (64 * ((i : Int) + 1)) : Key), V.str (T (Ql31.codeOf d (64 * (i + 1)))))
/-- the lengths by codes -/
def codTab (d : Bool) : List (Key × V) := (codeNs.map fun (n : Nat) => ((.inr (T (Ql31.codeOf d n)) : Key), V.int (n : Int)))
theorem lenTab_len (d : Bool) : (lenTab d).length = 104 := by simp [lenTab]
theorem codTab_len (d : Bool) : (codTab d).length = 104 := by simp [codTab, codeNs]
def keyInt : Key → Int
  | .inl i => i
  | .inr _ => 0
/-- the keys of the first table: numbers that differ -/
def lenKeys : List Int := ((List.range 64).map fun (n : Nat) => (n : Int)) ++ (List.range 40).map fun (i : Nat) => 64 * ((i : Int) + 1)
theorem lenKeys_nodup : lenKeys.Nodup := by decide +kernel
theorem lenTab_keys (d : Bool) : (lenTab d).map (·.1) = lenKeys.map Sum.inl := by
  unfold lenTab lenKeys
  rw [List.map_append, List.map_map, List.map_map, List.map_append, List.map_map, List.map_map]
  rfl
theorem nodup_map_inj {α β : Type} {f : α → β} (hf : ∀ a b, f a = f b → a = b) : ∀ {l : List α}, l.Nodup → (l.map f).Nodup
  | [], _ => List.nodup_nil
  | a :: l, h => by
    obtain ⟨h1, h2⟩ := List.nodup_cons.mp h
    rw [List.map_cons]
    refine List.nodup_cons.mpr ⟨fun m => ?_, nodup_map_inj hf h2⟩
    obtain ⟨b, hb, e⟩ := List.mem_map.mp m
    exact h1 (hf _ _ e ▸ hb)
theorem lenTab_nodup (d : Bool) : ((lenTab d).map (·.1)).Nodup := by
  rw [lenTab_keys]
  exact nodup_map_inj (fun a b h => Sum.inl.inj h) lenKeys_nodup
def codeKeys (d : Bool) : List Ql31.Bits := codeNs.map (Ql31.codeOf d)
theorem codeKeys_nodup (d : Bool) : (codeKeys d).Nodup := by cases d <;> decide +kernel
theorem codTab_keys (d : Bool) : (codTab d).map (·.1) = (codeKeys d).map fun b => Sum.inr (T b) := by
  unfold codTab codeKeys
  rw [List.map_map, List.map_map]
  rfl
theorem codTab_nodup (d : Bool) : ((codTab d).map (·.1)).Nodup := by
  rw [codTab_keys]
  exact nodup_map_inj (fun a b h => T_inj (Sum.inr.inj h)) (codeKeys_nodup d)
section
variable {κ : Type} [DecidableEq κ]
theorem valV_none_of : ∀ {kvs : List (κ × V)} {k : κ}, k ∉ kvs.map (·.1) → valV kvs k = none
  | [], _, _ => rfl
  | p :: r, k, h => by
    rw [valV_neg (fun e => h (by rw [List.map_cons, e]; exact List.mem_cons_self))]
    exact valV_none_of fun m => h (by rw [List.map_cons]; exact List.mem_cons_of_mem _ m)
theorem valV_at : ∀ {kvs : List (κ × V)} {i : Nat} {k : κ} {v : V}, (kvs.map (·.1)).Nodup → kvs[i]? = some (k, v) → valV kvs k = some v
  | [], _, _, _, _, h => by simp at h
  | p :: r, 0, k, v, _, h => by
    have e : p = (k, v) := Option.some.inj h
    subst e
    exact valV_pos rfl
  | p :: r, i + 1, k, v, hn, h => by
    obtain ⟨h1, h2⟩ := List.nodup_cons.mp (show (p.1 :: r.map (·.1)).Nodup from hn)
    have hr : r[i]? = some (k, v) := h
    have hm : k ∈ r.map (·.1) := List.mem_map.mpr ⟨(k, v), List.mem_of_getElem? hr, rfl⟩
    rw [valV_neg (fun e => h1 (e ▸ hm))]
    exact valV_at h2 hr
/-- a dict that is filled in its order -/
theorem put_take {kvs : List (κ × V)} {i : Nat} {k : κ} {v : V} (hn : (kvs.map (·.1)).Nodup) (h : kvs[i]? = some (k, v)) : putK (kvs.take i) k v = kvs.take (i + 1) := by
  obtain ⟨hi, e⟩ := List.getElem?_eq_some_iff.mp h
  have hnone : valV (kvs.take i) k = none := by
    refine valV_none_of fun m => ?_
    obtain ⟨p, hp, ep⟩ := List.mem_map.mp m
    obtain ⟨j, hj, ej⟩ := List.getElem_of_mem hp
    rw [List.length_take] at hj
    rw [List.getElem_take] at ej
    have h1 : (kvs.map (·.1))[j]? = some k := by rw [List.getElem?_map, List.getElem?_eq_getElem (by omega), ej, Option.map_some, ep]
    have h2 : (kvs.map (·.1))[i]? = some k := by rw [List.getElem?_map, h, Option.map_some]
    have := nodup_ixA hn h1 h2
    omega
  rw [putK_new v hnone, List.take_succ_eq_append_getElem hi, e]
where nodup_ixA {α : Type} {l : List α} (hN : l.Nodup) {i j : Nat} {x : α} (a : l[i]? = some x) (b : l[j]? = some x) : i = j := nd_ix hN a b
end
theorem lenTab_short (d : Bool) (i : Nat) (h : i < 64) : (lenTab d)[i]? = some (.inl (i : Int), V.str (T (Ql31.codeOf d i))) := by
  unfold lenTab
  rw [List.getElem?_append_left (by simpa using h), List.getElem?_map, List.getElem?_range h]
  rfl
theorem lenTab_long (d : Bool) (i : Nat) (h : i < 40) : (lenTab d)[64 + i]? = some (.inl (64 * ((i : Int) + 1)), V.str (T (Ql31.codeOf d (64 * (i + 1))))) := by
  unfold lenTab
  rw [List.getElem?_append_right (by simp), List.getElem?_map]
  simp only [List.length_map, List.length_range, Nat.add_sub_cancel_left]
  rw [List.getElem?_range h]
  rfl
theorem lenTab_val (d : Bool) (n : Nat) (h : n < 64 ∨ n % 64 = 0 ∧ n ≤ 2560) : valV (lenTab d) (.inl (n : Int)) = some (V.str (T (Ql31.codeOf d n))) := by
  rcases Nat.lt_or_ge n 64 with q | q
  · exact valV_at (lenTab_nodup d) (lenTab_short d n q)
  · have h2 : n % 64 = 0 ∧ n ≤ 2560 := h.resolve_left (by omega)
    have h3 := lenTab_long d (n / 64 - 1) (by omega)
    have e1 : 64 * (n / 64 - 1 + 1) = n := by omega
    have e2 : (64 * (((n / 64 - 1 : Nat) : Int) + 1)) = (n : Int) := by omega
    rw [e1, e2] at h3
    exact valV_at (lenTab_nodup d) h3
theorem codeNs_get (i : Nat) (h : i < 104) : codeNs[i]? = some (if i < 64 then i else 64 * (i - 63)) := by
  unfold codeNs
  by_cases q : i < 64
  · rw [List.getElem?_append_left (by simpa using q), List.getElem?_range q, if_pos q]
  · rw [List.getElem?_append_right (by simp; omega), List.getElem?_map, if_neg q]
    simp only [List.length_range]
    rw [List.getElem?_range (by omega)]
    simp only [Option.map_some, Option.some.injEq]
    omega
theorem lenTab_get (d : Bool) (i n : Nat) (h : codeNs[i]? = some n) : (lenTab d)[i]? = some (.inl (n : Int), V.str (T (Ql31.codeOf d n))) := by
  have hi : i < 104 := by
    have := (List.getElem?_eq_some_iff.mp h).1
    simpa [codeNs] using this
  rw [codeNs_get i hi] at h
  have h := Option.some.inj h
  split at h
  · subst h
    exact lenTab_short d i (by assumption)
  · have e := lenTab_long d (i - 64) (by omega)
    rw [show 64 + (i - 64) = i by omega] at e
    rw [e]
    subst h
    have e2 : 64 * (i - 64 + 1) = 64 * (i - 63) := by omega
    have e3 : (64 * (((i - 64 : Nat) : Int) + 1)) = ((64 * (i - 63) : Nat) : Int) := by omega
    rw [e2, e3]
theorem codTab_get (d : Bool) (i n : Nat) (h : codeNs[i]? = some n) : (codTab d)[i]? = some (.inr (T (Ql31.codeOf d n)), V.int (n : Int)) := by
  unfold codTab
  rw [List.getElem?_map, h]
  rfl
end Fax
set_option Elab.async false
set_option linter.all false
set_option maxRecDepth 100000
set_option maxHeartbeats 4000000
/-! Fields and lists of whole numbers. -/
namespace Fax
open PySem PySem.Spec PyProof.Rows L2
theorem lk_here {k : Str} {v : V} {r : List (Str × V)} : List.lookup k ((k, v) :: r) = some v := by
  have e : (k == k) = true := beq_self_eq_true k
  simp only [List.lookup, e]
theorem lk_past {k g : Str} {v : V} {r : List (Str × V)} (h : (k == g) = false) : List.lookup k ((g, v) :: r) = List.lookup k r := by
  simp only [List.lookup, h]
theorem put_here {f : Str} {v x : V} {r : List (Str × V)} : putF f v ((f, x) :: r) = (f, v) :: r := if_pos rfl
theorem put_past {f g : Str} {v x : V} {r : List (Str × V)} (h : ¬ g = f) : putF f v ((g, x) :: r) = (g, x) :: putF f v r := if_neg h
/-- whole numbers as values -/
abbrev natsV (l : List Nat) : List V := l.map fun (n : Nat) => V.int (n : Int)
theorem natsV_snoc (l : List Nat) (n : Nat) : natsV l ++ [V.int (n : Int)] = natsV (l ++ [n]) := by
  show _ = (l ++ [n]).map _
  rw [List.map_append]
  rfl
theorem natsV_get {cs : List Nat} {j : Nat} (h : j < cs.length) : (natsV cs)[j]? = some (V.int (cs[j] : Int)) := by
  rw [List.getElem?_map, List.getElem?_eq_getElem h]
  rfl
theorem bool_int_ne (a b : Bool) : (!decide (V.int (a.toNat : Int) = V.int (b.toNat : Int))) = decide (a ≠ b) := by cases a <;> cases b <;> decide
theorem rel_ref (a : Addr) : RelV (.ref a) (.ref a) := rfl
/-- two comparisons in one, of whole numbers -/
theorem chain2 {p : Prop} [Decidable p] {y z : Int} {v : V} (hv : v = .int y) {σ : L2.St} {H : Hp} {Q : V → Hp → Prop} (h1 : p ∧ y ≤ z → Q (.bl true) H) (h2 : ¬ (p ∧ y ≤ z) → Q (.bl false) H) :
    if decide p = true then tC (.int z) σ H (fun w' H4 => rI0 (fun i j => .bl (decide (i ≤ j))) v w' H4 Q) else Q (.bl false) H := by
  subst hv
  refine if_dec (fun hp => ⟨y, z, rfl, rfl, ?_⟩) (fun hp => h2 fun h => hp h.1)
  by_cases q : y ≤ z
  · show Q (.bl (decide (y ≤ z))) H
    rw [decide_eq_true q]
    exact h1 ⟨hp, q⟩
  · show Q (.bl (decide (y ≤ z))) H
    rw [decide_eq_false q]
    exact h2 fun h => q h.2
end Fax
set_option Elab.async false
set_option linter.all false
set_option maxRecDepth 100000
set_option maxHeartbeats 4000000
namespace Fax1
open PySem PySem.Spec PyProof.Rows L2 Fax
def top (i : Nat) : Stmt := PySem.Challenge.pw_faxpages_s01_fax_write.main.body.getD i (.Pass ⟨0, 0, 0, 0⟩)
abbrev sTab : Stmt := top 12
abbrev sRun : Stmt := top 13
abbrev sChg : Stmt := top 15
abbrev sAbI : Stmt := inClass (top 16) 0
abbrev sAt : Stmt := inClass (top 16) 1
abbrev sBoth : Stmt := inClass (top 16) 2
abbrev sWrI : Stmt := inClass (top 18) 0
abbrev sPut : Stmt := inClass (top 18) 1
abbrev sPutRun : Stmt := inClass (top 18) 2
abbrev sAlone : Stmt := inClass (top 18) 3
abbrev sBy : Stmt := inClass (top 18) 4
abbrev sBytes : Stmt := inClass (top 18) 5
abbrev sWritten : Stmt := top 19
abbrev sFax : Stmt := top 24
/-- what the top has written: the constants, and that the built-in names are the built-in ones -/
structure Txt (K : PySem.W.Frag) (mg : Str → Option Value) : Prop where
  enum : mg "enumerate" = none
  len : mg "len" = none
  range : mg "range" = none
  max : mg "max" = none
  bo : ∃ t, mg "BOTH_LONG" = some (.str (strAt top1 5) t)
  ws : ∃ t, mg "WHITE_SHORT" = some (.str (strAt top1 1) t)
  wl : ∃ t, mg "WHITE_LONG" = some (.str (strAt top1 2) t)
  bs : ∃ t, mg "BLACK_SHORT" = some (.str (strAt top1 3) t)
  bl : ∃ t, mg "BLACK_LONG" = some (.str (strAt top1 4) t)
  le : ∃ t, mg "LINE_END" = some (.str "000000000001" t)
  pass : ∃ t, mg "PASS" = some (.str "0001" t)
  across : ∃ t, mg "ACROSS" = some (.str "001" t)
  mostLong : ∃ t, mg "MOST_LONG" = some (.int 2560 t)
  step : ∃ t, mg "STEP" = some (.int 64 t)
  mostSide : ∃ t, mg "MOST_SIDE" = some (.int 16384 t)
  beyond : ∃ t, mg "BEYOND" = some (.int (-1) t)
  tooLong : ∃ t, mg "TOO_LONG" = some (.int (-2) t)
/-- the tuple of the straight ways -/
def straights : List V := ([("0000010" : Str), ("000010" : Str), ("010" : Str), ("1" : Str), ("011" : Str), ("000011" : Str), ("0000011" : Str)] : List Str).map V.str
structure Straight (K : PySem.W.Frag) (mg : Str → Option Value) : Prop where
  is : ∃ aS, mg "STRAIGHT" = some (.ref aS) ∧ ∀ H : Hp, SqT K H aS straights
end Fax1
set_option Elab.async false
set_option linter.all false
set_option maxRecDepth 100000
set_option maxHeartbeats 4000000
namespace Fax1
open PySem PySem.Spec PyProof.Rows L2 Fax
/-- tables_of, of one of the two colours -/
def spTab : Sp := fun vs H Q _ => ∃ d : Bool, vs = [.str (tx (textOf (codesS d))), .str (tx (textOf (codesL d)))] ∧
  ∀ (H' : Hp) (p d1 d2 : Addr), Same H H' → H' p = some (.tup [.ref d1, .ref d2]) → H' d1 = some (.dK (lenTab d)) → H' d2 = some (.dK (codTab d)) → Q (.ref p) H'
theorem scTab : FnScope ["short", "long", "by_length", "by_code", "number", "code", "length"] ["short", "long"] (defScope sTab) := ⟨rfl, rfl, rfl, by decide +kernel, rfl, by decide +kernel, by decide +kernel⟩
section
variable {P : Program} {w : World} {K : PySem.W.Frag} {mg : Str → Option Value} {base : Heap}
theorem ok_tab {f : Addr} {fd : FuncData} (F : Fun K "tables_of" "tables_of" sTab f fd) (TX : Txt K mg) : FnOk P w K mg base CX0 1 f fd ["short", "long"] spTab := by
  refine F.ok scTab (fun vs H Q E h => ?_) (fun cdv A outer s H vs Q E hr h => ?_)
  · obtain ⟨d, rfl, _⟩ := h
    rfl
  · obtain ⟨d, rfl, q⟩ := h
    have hu := hu_of hr
    obtain ⟨tbo, mbo⟩ := TX.bo
    obtain ⟨tst, mst⟩ := TX.step
    refine ⟨_, pss_cons (ps_par (i := 2) (j := 3) rfl scTab.nd rfl rfl (by decide) rfl rfl (pa_cons pe_dnewK (pa_cons pe_dnewK pa_nil)) (by rfl))
      (pss_cons (ps_for PassesOwn.never rfl (pi_enum (by rfl) TX.enum (pa_cons (pe_split (pv 0) pe_str) pa_nil))
          (pg_tup rfl (pgs_cons (pg_name (i := 4) scTab.nd rfl (.inl rfl)) (pgs_cons (pg_name (i := 5) scTab.nd rfl (.inl rfl)) pgs_nil)))
          (pss_one (ps_dput hu (pv 2) (pv 4) (pv 5) rfl)))
      (pss_cons (ps_for PassesOwn.never rfl (pi_enum (by rfl) TX.enum (pa_cons (pe_split (pe_op op_add_str (pe_op op_add_str (pv 1) pe_str) (pe_glob rfl mbo (rel_str _ _))) pe_str) pa_nil))
          (pg_tup rfl (pgs_cons (pg_name (i := 4) scTab.nd rfl (.inl rfl)) (pgs_cons (pg_name (i := 5) scTab.nd rfl (.inl rfl)) pgs_nil)))
          (pss_one (ps_dput hu (pv 2) (pe_op op_mul (pe_glob rfl mst (rel_int _ _)) (pe_op op_add (pv 4) pe_int)) (pv 5) rfl)))
      (pss_cons (ps_lock (ps_for PassesOwn.never rfl (pi_keys (pv 2)) (pg_name (i := 6) scTab.nd rfl (.inl rfl))
          (pss_one (ps_dput hu (pv 3) (pe_dget hu (pv 2) (pv 6) (fun _ _ => rfl)) (pv 6) rfl))))
      (pss_one (ps_ret (pe_tup (pa_cons (pv 2) (pa_cons (pv 3) pa_nil)))))))), ?_⟩
    -- by_length, by_code = {}, {}
    refine fun b1 nb1 b2 nb2 => ⟨_, _, rfl, ?_⟩
    have n21 : b2 ≠ b1 := fun e => by rw [e, upd_same] at nb2; cases nb2
    -- short.split(" ")
    have e1 : Txt.split (tx (textOf (codesS d))) (Str.ofString " ") = (codesS d).map T := by rw [blank_is]; exact split_text _ (by cases d <;> decide)
    refine ⟨_, rfl, ⟨_, rfl⟩, _, _, rfl, rfl, (by decide +kernel), (by cases d <;> decide +kernel), fun c nc => ?_⟩
    rw [e1]
    have nc1 : b1 ≠ c := ne_of_none (by rw [upd_ne n21.symm]; exact upd_same) nc
    have nc2 : b2 ≠ c := ne_of_none upd_same nc
    refine ⟨c, ((codesS d).map T).map V.str, rfl, SqL.of upd_same, for_enumL (K := K) (a := c) (xs := ((codesS d).map T).map V.str) (fun i σ H' => ∃ v4 v5, σ = [some (.str (tx (textOf (codesS d)))), some (.str (tx (textOf (codesL d)))), some (.ref b1), some (.ref b2), v4, v5, none] ∧
      Same H H' ∧ H' b1 = some (.dK ((lenTab d).take i)) ∧ H' b2 = some (.dK []) ∧ H' c = some (.lst (((codesS d).map T).map V.str)) ∧ i ≤ 64) ⟨none, none, rfl, ?_, ?_, ?_, upd_same, Nat.zero_le _⟩
      (fun i σ H' _ ⟨_, _, _, _, _, _, h3, _⟩ => SqL.of h3) ?_ ?_⟩
    · exact (same_upd nb1).trans ((same_upd nb2).trans (same_upd nc))
    · rw [upd_ne nc1, upd_ne n21.symm]
      exact upd_same
    · rw [upd_ne nc2]
      exact upd_same
    · rintro i x TT σ H' hx nT ⟨v4, v5, rfl, sm, h1, h2, h3, _⟩
      have hi : i < 64 := by
        have := (List.getElem?_eq_some_iff.mp hx).1
        simpa [codesS] using this
      have ex : x = V.str (T (Ql31.codeOf d i)) := by
        rw [List.getElem?_map, List.getElem?_map, codesS, List.getElem?_map, List.getElem?_range hi] at hx
        exact (Option.some.inj hx).symm
      subst ex
      have m1 : b1 ≠ TT := ne_of_none h1 nT
      have m2 : b2 ≠ TT := ne_of_none h2 nT
      have m3 : c ≠ TT := ne_of_none h3 nT
      refine ⟨TT, _, rfl, .inl (.inl upd_same), rfl, _, _, rfl, _, _, rfl, rfl, ?_⟩
      refine ⟨_, rfl, _, rfl, _, rfl, b1, _, rfl, DPut.k (k := .inl (i : Int)) (by rw [upd_ne m1]; exact h1) (by rw [List.length_take]; exact small1000 (by omega)), ?_⟩
      rw [put_take (lenTab_nodup d) (lenTab_short d i hi)]
      refine ⟨_, _, rfl, ?_, upd_same, ?_, ?_, hi⟩
      · intro b o e
        rw [upd_ne (ne_of_none e nb1), upd_ne (ne_of_none (sm b o e) nT)]
        exact sm b o e
      · rw [upd_ne n21, upd_ne m2]
        exact h2
      · rw [upd_ne nc1.symm, upd_ne m3]
        exact h3
    · rintro σ H' ⟨v4, v5, rfl, sm, h1, h2, h3, _⟩
      have hl64 : (((codesS d).map T).map V.str).length = 64 := by simp [codesS]
      rw [hl64] at h1
      -- (long + " " + BOTH_LONG).split(" ")
      have e2 : tx (textOf (codesL d)) ++ Str.ofString " " ++ strAt top1 5 = tx (textOf (longs d)) := by
        rw [s1_bo, blank_is, ← longs_is]
        exact tx_cat _ _ (by cases d <;> decide) (by decide)
      have e3 : Txt.split (tx (textOf (longs d))) (Str.ofString " ") = (longs d).map T := by rw [blank_is]; exact split_text _ (by cases d <;> decide)
      have l1 : (tx (textOf (codesL d))).length + (Str.ofString " ").length ≤ sizeLine := by cases d <;> decide +kernel
      have l2 : (tx (textOf (codesL d)) ++ Str.ofString " ").length + (strAt top1 5).length ≤ sizeLine := by
        rw [s1_bo]
        cases d <;> decide +kernel
      refine ⟨_, rfl, _, _, rfl, rfl, l1, _, _, rfl, rfl, l2, ⟨_, rfl⟩, _, _, rfl, rfl, (by decide +kernel), ?_, fun c2 nd => ?_⟩
      · rw [e2]
        cases d <;> decide +kernel
      rw [e2, e3]
      have nd1 : b1 ≠ c2 := ne_of_none h1 nd
      have nd2 : b2 ≠ c2 := ne_of_none h2 nd
      refine ⟨c2, ((longs d).map T).map V.str, rfl, SqL.of upd_same, for_enumL (K := K) (a := c2) (xs := ((longs d).map T).map V.str) (fun i σ H' => ∃ v4 v5, σ = [some (.str (tx (textOf (codesS d)))), some (.str (tx (textOf (codesL d)))), some (.ref b1), some (.ref b2), v4, v5, none] ∧
        Same H H' ∧ H' b1 = some (.dK ((lenTab d).take (64 + i))) ∧ H' b2 = some (.dK []) ∧ H' c2 = some (.lst (((longs d).map T).map V.str)) ∧ i ≤ 40) ⟨v4, v5, rfl, sm.trans (same_upd nd), ?_, ?_, upd_same, Nat.zero_le _⟩
        (fun i σ H' _ ⟨_, _, _, _, _, _, h3, _⟩ => SqL.of h3) ?_ ?_⟩
      · rw [upd_ne nd1]
        exact h1
      · rw [upd_ne nd2]
        exact h2
      · rintro i x TT σ H' hx nT ⟨v4, v5, rfl, sm, h1, h2, h3, _⟩
        have hi : i < 40 := by
          have := (List.getElem?_eq_some_iff.mp hx).1
          simpa [longs] using this
        have ex : x = V.str (T (Ql31.codeOf d (64 * (i + 1)))) := by
          rw [List.getElem?_map, List.getElem?_map, longs, List.getElem?_map, List.getElem?_range hi] at hx
          exact (Option.some.inj hx).symm
        subst ex
        have m1 : b1 ≠ TT := ne_of_none h1 nT
        have m2 : b2 ≠ TT := ne_of_none h2 nT
        have m3 : c2 ≠ TT := ne_of_none h3 nT
        refine ⟨TT, _, rfl, .inl (.inl upd_same), rfl, _, _, rfl, _, _, rfl, rfl, ?_⟩
        refine ⟨_, rfl, _, rfl, _, rfl, _, _, rfl, rfl, _, _, rfl, rfl, by unfold CMul; omega, b1, _, rfl, DPut.k (k := .inl (64 * ((i : Int) + 1))) (by rw [upd_ne m1]; exact h1) (by rw [List.length_take]; exact small1000 (by omega)), ?_⟩
        rw [put_take (lenTab_nodup d) (lenTab_long d i hi)]
        refine ⟨_, _, rfl, ?_, upd_same, ?_, ?_, hi⟩
        · intro b o e
          rw [upd_ne (ne_of_none e nb1), upd_ne (ne_of_none (sm b o e) nT)]
          exact sm b o e
        · rw [upd_ne n21, upd_ne m2]
          exact h2
        · rw [upd_ne nd1.symm, upd_ne m3]
          exact h3
      · rintro σ H' ⟨v4, v5, rfl, sm, h1, h2, h3, _⟩
        have hl40 : (((longs d).map T).map V.str).length = 40 := by simp [longs]
        rw [hl40, show (lenTab d).take (64 + 40) = lenTab d from List.take_of_length_le (by rw [lenTab_len]; exact Nat.le_refl _)] at h1
        -- for length in by_length
        refine ⟨b1, .dK (lenTab d), h1, trivial, fun od => ?_⟩
        refine ⟨_, rfl, b1, od, rfl, .inl ⟨lenTab d, upd_same, ?_⟩⟩
        refine for_it walk_keys (fun i σ H' => ∃ v4 v5 v6, σ = [some (.str (tx (textOf (codesS d)))), some (.str (tx (textOf (codesL d)))), some (.ref b1), some (.ref b2), v4, v5, v6] ∧
          Same H H' ∧ H' b1 = some (.frz od (.dK (lenTab d))) ∧ H' b2 = some (.dK ((codTab d).take i))) ⟨v4, v5, none, rfl, ?_, upd_same, ?_⟩ (fun i σ H' _ ⟨_, _, _, _, _, h, _⟩ => h) ?_ ?_
        · intro b o e
          rw [upd_ne (ne_of_none e nb1)]
          exact sm b o e
        · rw [upd_ne n21]
          exact h2
        · rintro i x σ H' H'' hi ⟨v4, v5, v6, rfl, sm, h1, h2⟩ ⟨rfl, k, v, hk, rfl⟩
          rw [lenTab_len] at hi
          obtain ⟨n, hn⟩ : ∃ n, codeNs[i]? = some n := ⟨_, codeNs_get i hi⟩
          have hk2 := lenTab_get d i n hn
          rw [hk] at hk2
          have e4 := Option.some.inj hk2
          have ek : k = Sum.inl (n : Int) := congrArg Prod.fst e4
          have ev : v = V.str (T (Ql31.codeOf d n)) := congrArg Prod.snd e4
          subst ek ev
          refine ⟨_, rfl, _, rfl, _, rfl, _, rfl, b1, V.str (T (Ql31.codeOf d n)), rfl, .inl ⟨lenTab d, _, .inr ⟨od, h1⟩, rfl, (valV_at (lenTab_nodup d) hk).symm⟩, b2, _, rfl,
            DPut.k (k := .inr (T (Ql31.codeOf d n))) h2 (by rw [List.length_take]; exact small1000 (by omega)), ?_⟩
          rw [show kV (.inl (n : Int)) = V.int (n : Int) from rfl, put_take (codTab_nodup d) (codTab_get d i n hn)]
          refine ⟨_, _, _, rfl, ?_, ?_, upd_same⟩
          · intro b o e
            rw [upd_ne (ne_of_none e (by rw [upd_ne n21] at nb2; exact nb2))]
            exact sm b o e
          · rw [upd_ne n21.symm]
            exact h1
        · rintro σ H' ⟨v4, v5, v6, rfl, sm, h1, h2⟩
          rw [lenTab_len, show (codTab d).take 104 = codTab d from List.take_of_length_le (by rw [codTab_len]; exact Nat.le_refl _)] at h2
          refine ⟨h1, ?_⟩
          refine ⟨_, rfl, _, rfl, (by show 2 ≤ sizeLine; decide), fun p np => ?_⟩
          have nb1p : b1 ≠ p := ne_of_none upd_same np
          have nb2p : b2 ≠ p := ne_of_none (by rw [upd_ne n21]; exact h2) np
          refine q _ p b1 b2 ?_ upd_same ?_ ?_
          · intro b o e
            rw [upd_ne ?_, upd_ne (ne_of_none e nb1)]
            · exact sm b o e
            · exact ne_of_none (by rw [upd_ne (ne_of_none e nb1)]; exact sm b o e) np
          · rw [upd_ne nb1p]
            exact upd_same
          · rw [upd_ne nb2p, upd_ne n21]
            exact h2
end
end Fax1
set_option Elab.async false
set_option linter.all false
set_option maxRecDepth 100000
set_option maxHeartbeats 4000000
namespace Fax1
open PySem PySem.Spec PyProof.Rows L2 Fax
/-- run_code: the codes of a run of one of the two colours -/
def spRun : Sp := fun vs H Q _ => ∃ (d : Bool) (a : Addr) (n : Nat), vs = [.ref a, .int (n : Int)] ∧ H a = some (.dK (lenTab d)) ∧ n ≤ 16384 ∧ Q (.str (T (Ql31.run d n))) H
theorem scRun : FnScope ["by_length", "length", "found", "left"] ["by_length", "length"] (defScope sRun) := ⟨rfl, rfl, rfl, by decide +kernel, rfl, by decide +kernel, by decide +kernel⟩
theorem get_len {H : Hp} {a : Addr} {d : Bool} (h : H a = some (.dK (lenTab d))) (n : Nat) (z : Int) (hz : z = (n : Int)) (hn : n < 64 ∨ n % 64 = 0 ∧ n ≤ 2560) : DGet H a (.int z) (some (.str (T (Ql31.codeOf d n)))) := by
  subst hz
  rw [← lenTab_val d n hn]
  exact DGet.k (k := .inl (n : Int)) h
theorem run_split (d : Bool) (n : Nat) : Ql31.run d n = (List.replicate (n / 2560) (Ql31.codeOf d 2560)).flatten ++ ((if 64 ≤ n % 2560 then Ql31.codeOf d (n % 2560 / 64 * 64) else []) ++ Ql31.codeOf d (n % 2560 % 64)) := rfl
theorem rep_more (b : Ql31.Bits) (j : Nat) : (List.replicate (j + 1) b).flatten = (List.replicate j b).flatten ++ b := by
  rw [List.replicate_succ', List.flatten_append]
  simp
theorem rep_len (d : Bool) (j : Nat) (h : j ≤ 6) : (List.replicate j (Ql31.codeOf d 2560)).flatten.length ≤ 78 := by
  rw [flat_replicate_len]
  have := (code_le d 2560 (.inr ⟨rfl, Nat.le_refl _⟩)).2
  have : j * (Ql31.codeOf d 2560).length ≤ 6 * 13 := Nat.mul_le_mul h this
  omega
theorem fits_small {a b : Ql31.Bits} (h : a.length + b.length ≤ 1000) : (T a).length + (T b).length ≤ sizeLine := by
  rw [T_len, T_len]
  exact Nat.le_trans h (by decide)
section
variable {P : Program} {w : World} {K : PySem.W.Frag} {mg : Str → Option Value} {base : Heap}
theorem ok_run {f : Addr} {fd : FuncData} (F : Fun K "run_code" "run_code" sRun f fd) (TX : Txt K mg) : FnOk P w K mg base CX0 1 f fd ["by_length", "length"] spRun := by
  refine F.ok scRun (fun vs H Q E h => ?_) (fun cdv A outer s H vs Q E hr h => ?_)
  · obtain ⟨d, a, n, rfl, _⟩ := h
    rfl
  · obtain ⟨d, a, n, rfl, ha, hn, q⟩ := h
    have hu := hu_of hr
    obtain ⟨tm, mml⟩ := TX.mostLong
    obtain ⟨tst, mst⟩ := TX.step
    refine ⟨_, pss_cons (ps_par (i := 2) (j := 3) rfl scRun.nd rfl rfl (by decide) rfl rfl (pa_cons pe_str (pa_cons (pv 1) pa_nil)) (by rfl))
      (pss_cons (ps_while PassesOwn.never (pt_cmpR op_ge (pv 3) (pe_glob rfl mml (rel_int _ _)) (nomark _))
        (pss_cons (ps_set (i := 2) scRun.nd rfl (.inl rfl) (pe_op op_add_str (pv 2) (pe_dget hu (pv 0) (pe_glob rfl mml (rel_int _ _)) (fun _ _ => rfl))))
        (pss_one (ps_set (i := 3) scRun.nd rfl (.inl rfl) (pe_op op_sub (pv 3) (pe_glob rfl mml (rel_int _ _)))))))
      (pss_cons (ps_if (pt_cmpR op_ge (pv 3) (pe_glob rfl mst (rel_int _ _)) (nomark _))
        (pss_one (ps_set (i := 2) scRun.nd rfl (.inl rfl) (pe_op op_add_str (pv 2) (pe_dget hu (pv 0) (pe_op op_mul (pe_op op_fdiv (pv 3) (pe_glob rfl mst (rel_int _ _))) (pe_glob rfl mst (rel_int _ _))) (fun _ _ => rfl))))) pss_nil)
      (pss_one (ps_ret (pe_op op_add_str (pv 2) (pe_dget hu (pv 0) (pe_op op_mod (pv 3) (pe_glob rfl mst (rel_int _ _))) (fun _ _ => rfl))))))), ?_⟩
    -- found, left = "", length
    refine ⟨_, rfl, _, _, rfl, ?_⟩
    -- the loop: j turns are over
    refine ⟨fun m σ H' => H' = H ∧ ∃ j, j + m = n / 2560 ∧ σ = [some (.ref a), some (.int (n : Int)), some (.str (T (List.replicate j (Ql31.codeOf d 2560)).flatten)), some (.int ((n - 2560 * j : Nat) : Int))], ⟨n / 2560, rfl, 0, by omega, rfl⟩, ?_⟩
    rintro m σ H' ⟨rfl, j, hj, rfl⟩
    refine ⟨_, rfl, _, _, rfl, rfl, _, rfl, ?_⟩
    by_cases hm : 0 < m
    · refine if_yes (by omega) ?_
      refine ⟨fun σ' H'' => ∃ m', m' < m ∧ (H'' = H' ∧ ∃ j, j + m' = n / 2560 ∧ σ' = [some (.ref a), some (.int (n : Int)), some (.str (T (List.replicate j (Ql31.codeOf d 2560)).flatten)), some (.int ((n - 2560 * j : Nat) : Int))]), fun _ _ h => h, ?_⟩
      have hl := rep_len d j (by omega)
      have hc := (code_le d 2560 (.inr ⟨rfl, Nat.le_refl _⟩)).2
      refine ⟨_, rfl, _, rfl, a, _, rfl, get_len ha 2560 2560 rfl (.inr ⟨rfl, Nat.le_refl _⟩), _, _, rfl, rfl, fits_small (by omega), ?_⟩
      refine ⟨_, rfl, _, _, rfl, rfl, ?_⟩
      refine ⟨m - 1, by omega, rfl, j + 1, by omega, ?_⟩
      have e : ((n - 2560 * j : Nat) : Int) - 2560 = ((n - 2560 * (j + 1) : Nat) : Int) := by omega
      rw [rep_more, ← T_append, ← e]
      rfl
    · refine if_no (by omega) ?_
      have hj' : j = n / 2560 := by omega
      subst hj'
      have en : n - 2560 * (n / 2560) = n % 2560 := by omega
      rw [en]
      have hl := rep_len d (n / 2560) (by omega)
      -- if left >= STEP
      refine ⟨_, rfl, _, _, rfl, rfl, _, rfl, ?_⟩
      have hc3 := (code_le d (n % 2560 % 64) (.inl (by omega))).2
      by_cases h64 : 64 ≤ n % 2560
      · refine if_yes (by omega) ?_
        have hc2 := (code_le d (n % 2560 / 64 * 64) (.inr ⟨by omega, by omega⟩)).2
        refine ⟨_, rfl, _, rfl, _, rfl, _, _, rfl, rfl, ⟨by decide, by decide⟩, _, _, rfl, rfl, by unfold CMul; omega, a, _, rfl, get_len ha (n % 2560 / 64 * 64) _ (by omega) (.inr ⟨by omega, by omega⟩), _, _, rfl, rfl, fits_small (by omega), ?_⟩
        rw [T_append]
        refine ⟨_, rfl, _, rfl, _, rfl, _, _, rfl, rfl, (by show (0 : Int) < 64; decide), a, _, rfl, get_len ha (n % 2560 % 64) _ (by omega) (.inl (by omega)), _, _, rfl, rfl, fits_small (by rw [List.length_append]; omega), ?_⟩
        rw [T_append]
        rw [run_split, if_pos h64, ← List.append_assoc] at q
        exact q
      · refine if_no (by omega) ?_
        refine ⟨_, rfl, _, rfl, _, rfl, _, _, rfl, rfl, (by show (0 : Int) < 64; decide), a, _, rfl, get_len ha (n % 2560 % 64) _ (by omega) (.inl (by omega)), _, _, rfl, rfl, fits_small (by omega), ?_⟩
        rw [T_append]
        rw [run_split, if_neg h64, List.nil_append] at q
        exact q
end
end Fax1
set_option Elab.async false
set_option linter.all false
set_option maxRecDepth 100000
set_option maxHeartbeats 4000000
namespace Fax1
open PySem PySem.Spec PyProof.Rows L2 Fax
/-- the fields of an Above -/
def abF (c : Addr) (w s : Nat) : List (Str × V) := [("changes", .ref c), ("width", .int (w : Int)), ("spot", .int (s : Int))]
theorem abF_c (c : Addr) (w s : Nat) : (abF c w s).lookup ("changes" : Str) = some (.ref c) := lk_here
theorem abF_w (c : Addr) (w s : Nat) : (abF c w s).lookup ("width" : Str) = some (.int (w : Int)) := (lk_past (by decide +kernel)).trans lk_here
theorem abF_s (c : Addr) (w s : Nat) : (abF c w s).lookup ("spot" : Str) = some (.int (s : Int)) := (lk_past (by decide +kernel)).trans ((lk_past (by decide +kernel)).trans lk_here)
theorem abF_at (c : Addr) (w s : Nat) : (abF c w s).lookup ("at" : Str) = none := (lk_past (by decide +kernel)).trans ((lk_past (by decide +kernel)).trans ((lk_past (by decide +kernel)).trans rfl))
theorem abF_both (c : Addr) (w s : Nat) : (abF c w s).lookup ("both" : Str) = none := (lk_past (by decide +kernel)).trans ((lk_past (by decide +kernel)).trans ((lk_past (by decide +kernel)).trans rfl))
theorem abF_put (c : Addr) (w s y : Nat) : putF "spot" (.int (y : Int)) (abF c w s) = abF c w y := (put_past (by decide +kernel)).trans (congrArg _ ((put_past (by decide +kernel)).trans (congrArg _ put_here)))
theorem abF_putS {C dx c : Addr} {w s y : Nat} {z : Int} (h : z = (y : Int)) : some (HO.ins C dx (putF "spot" (.int z) (abF c w s))) = some (HO.ins C dx (abF c w y)) := by
  rw [h, abF_put]
theorem abF_new (c : Addr) (w : Nat) : putF "spot" (.int 0) (putF "width" (.int (w : Int)) (putF "changes" (.ref c) [])) = abF c w 0 := by
  show putF "spot" (.int 0) (putF "width" (.int (w : Int)) [(("changes" : Str), .ref c)]) = _
  rw [put_past (by decide +kernel)]
  show putF "spot" (.int 0) [(("changes" : Str), V.ref c), (("width" : Str), V.int (w : Int))] = _
  rw [put_past (by decide +kernel), put_past (by decide +kernel)]
  rfl
/-- the class Above -/
structure AbT (K : PySem.W.Frag) (mg : Str → Option Value) (C fI fA fB : Addr) : Prop where
  cl : Cls K C
  nC : NoAttr K C "changes"
  nW : NoAttr K C "width"
  nS : NoAttr K C "spot"
  g : mg "Above" = some (.ref C)
  mkr : Mk K C fI
  mAt : Meth K C "at" fA
  mBoth : Meth K C "both" fB
def spAbI (C : Addr) : Sp := fun vs H Q _ => ∃ (p dx c : Addr) (w : Nat), vs = [.ref p, .ref c, .int (w : Int)] ∧ H p = some (.ins C dx []) ∧
  ∀ H' : Hp, H' p = some (.ins C dx (abF c w 0)) → But p H H' → Q .non H'
def spAt (C : Addr) : Sp := fun vs H Q _ => ∃ (a dx c : Addr) (w s j : Nat) (cs : List Nat), vs = [.ref a, .int (j : Int)] ∧ H a = some (.ins C dx (abF c w s)) ∧ H c = some (.lst (natsV cs)) ∧ Q (.int (cs.getD j w : Nat)) H
def spBoth (C : Addr) : Sp := fun vs H Q _ => ∃ (a dx c : Addr) (w s : Nat) (cs : List Nat) (p : Int) (col : Bool), vs = [.ref a, .int p, .int (col.toNat : Int)] ∧ H a = some (.ins C dx (abF c w s)) ∧ H c = some (.lst (natsV cs)) ∧
  cs.Pairwise (· < ·) ∧ s ≤ cs.length ∧
  ∀ (H' : Hp) (t : Addr) (j : Nat), Spot cs p j → But a H H' → H' a = some (.ins C dx (abF c w j)) → H' t = some (.tup [.int (cs.getD (pick j col) w : Nat), .int (cs.getD (pick j col + 1) w : Nat)]) → Q (.ref t) H'
theorem scAbI : FnScope ["self", "changes", "width"] ["self", "changes", "width"] (defScope sAbI) := ⟨rfl, rfl, rfl, by decide +kernel, rfl, by decide +kernel, by decide +kernel⟩
theorem scAt : FnScope ["self", "spot"] ["self", "spot"] (defScope sAt) := ⟨rfl, rfl, rfl, by decide +kernel, rfl, by decide +kernel, by decide +kernel⟩
theorem scBoth : FnScope ["self", "place", "colour", "spot"] ["self", "place", "colour"] (defScope sBoth) := ⟨rfl, rfl, rfl, by decide +kernel, rfl, by decide +kernel, by decide +kernel⟩
section
variable {P : Program} {w : World} {K : PySem.W.Frag} {mg : Str → Option Value} {base : Heap} {C fI fA fB : Addr}
theorem ok_abI {f : Addr} {fd : FuncData} (F : Fun K "__init__" "Above.__init__" sAbI f fd) (TA : AbT K mg C fI fA fB) : FnOk P w K mg base CX0 1 f fd ["self", "changes", "width"] (spAbI C) := by
  refine F.ok scAbI (fun vs H Q E h => ?_) (fun cdv A outer s H vs Q E hr h => ?_)
  · obtain ⟨p, dx, c, w, rfl, _⟩ := h
    rfl
  · obtain ⟨p, dx, c, wd, rfl, hp, q⟩ := h
    refine ⟨_, pss_cons (ps_fld (pv 0) (pv 1) rfl) (pss_cons (ps_fld (pv 0) (pv 2) rfl) (pss_one (ps_fld (pv 0) pe_int rfl))), ?_⟩
    refine ⟨_, rfl, _, rfl, p, C, dx, [], rfl, hp, TA.cl, TA.nC, (by show 0 < 1000; decide), ?_⟩
    refine ⟨_, rfl, _, rfl, p, C, dx, _, rfl, upd_same, TA.cl, TA.nW, (by show 1 < 1000; decide), ?_⟩
    refine ⟨_, rfl, p, C, dx, _, rfl, upd_same, TA.cl, TA.nS, (by show 2 < 1000; decide), ?_⟩
    refine q _ (Eq.trans upd_same (congrArg (fun q => some (HO.ins C dx q)) (abF_new c wd))) fun b o hb e => ?_
    rw [upd_ne hb, upd_ne hb, upd_ne hb]
    exact e
theorem ok_at {f : Addr} {fd : FuncData} (F : Fun K "at" "Above.at" sAt f fd) (TX : Txt K mg) (TA : AbT K mg C fI fA fB) : FnOk P w K mg base CX0 1 f fd ["self", "spot"] (spAt C) := by
  refine F.ok scAt (fun vs H Q E h => ?_) (fun cdv A outer s H vs Q E hr h => ?_)
  · obtain ⟨a, dx, c, w, s, j, cs, rfl, _⟩ := h
    rfl
  · obtain ⟨a, dx, c, wd, sp, j, cs, rfl, ha, hc, q⟩ := h
    refine ⟨_, pss_one (ps_ret (pe_ifExp (pt_cmpR op_lt (pv 1) (pe_callB call_len_seq (by rfl) TX.len PySem.boot_len (pa_cons (pe_fld (pv 0) rfl) pa_nil)) (nomark _))
      (pe_ix ix_list (pe_fld (pv 0) rfl) (pv 1) (fun _ _ => rfl)) (pe_fld (pv 0) rfl))), ?_⟩
    refine ⟨_, rfl, _, rfl, a, C, dx, _, _, rfl, ha, TA.cl, TA.nC, abF_c _ _ _, c, natsV cs, rfl, .inl (SqL.of hc), _, _, rfl, rfl, _, rfl, ?_⟩
    rw [List.length_map]
    by_cases hj : j < cs.length
    · refine if_yes (by omega) ?_
      refine ⟨_, rfl, a, C, dx, _, _, rfl, ha, TA.cl, TA.nC, abF_c _ _ _, _, rfl, c, _, _, _, rfl, rfl, SqL.of hc, at_of rfl (natsV_get hj), ?_⟩
      rw [getD_at hj] at q
      exact q
    · refine if_no (by omega) ?_
      refine ⟨_, rfl, a, C, dx, _, _, rfl, ha, TA.cl, TA.nW, abF_w _ _ _, ?_⟩
      rw [getD_out (by omega)] at q
      exact q
theorem ok_both {f : Addr} {fd fdA : FuncData} (F : Fun K "both" "Above.both" sBoth f fd) (TX : Txt K mg) (TA : AbT K mg C fI fA fB) (GA : FnOk P w K mg base CX0 1 fA fdA ["self", "spot"] (spAt C)) (bA : Binds K fdA ["self", "spot"] []) :
    FnOk P w K mg base CX0 2 f fd ["self", "place", "colour"] (spBoth C) := by
  refine F.ok scBoth (fun vs H Q E h => ?_) (fun cdv A outer s H vs Q E hr h => ?_)
  · obtain ⟨a, dx, c, w, s, cs, p, col, rfl, _⟩ := h
    rfl
  · obtain ⟨a, dx, c, wd, sp, cs, p, col, rfl, ha, hc, hsrt, hsp, q⟩ := h
    refine ⟨_, Evl.pss_cut (ps_while PassesOwn.never (PW.pt (pw_and (pt_cmpR op_gt (pe_fld (pv 0) rfl) pe_int (nomark _))
          (pw_and1 (pt_cmpR op_gt (pe_meth (pv 0) TA.cl TA.mAt GA hr bA .nil pass0 (pa_cons (pe_op op_sub (pe_fld (pv 0) rfl) pe_int) pa_nil)) (pv 1) (nomark _)))))
        (pss_one (ps_fld (pv 0) (pe_op op_sub (pe_fld (pv 0) rfl) pe_int) rfl)))
      (Evl.pss_cut (ps_while PassesOwn.never (PW.pt (pw_and (pt_cmpR op_lt (pe_fld (pv 0) rfl) (pe_callB call_len_seq (by rfl) TX.len PySem.boot_len (pa_cons (pe_fld (pv 0) rfl) pa_nil)) (nomark _))
          (pw_and1 (pt_cmpR op_le (pe_ix ix_list (pe_fld (pv 0) rfl) (pe_fld (pv 0) rfl) (fun _ _ => rfl)) (pv 1) (nomark _)))))
        (pss_one (ps_fld (pv 0) (pe_op op_add (pe_fld (pv 0) rfl) pe_int) rfl)))
      (pss_cons (ps_set (i := 3) scBoth.nd rfl (.inl rfl) (pe_fld (pv 0) rfl))
      (Evl.pss_cut (ps_if (pt_cmpR op_ne (pe_op op_mod (pv 3) pe_int) (pv 2) (nomark _)) (pss_one (ps_set (i := 3) scBoth.nd rfl (.inl rfl) (pe_op op_add (pv 3) pe_int))) pss_nil)
      (pss_one (ps_ret (pe_tup (pa_cons (pe_meth (pv 0) TA.cl TA.mAt GA hr bA .nil pass0 (pa_cons (pv 3) pa_nil))
        (pa_cons (pe_meth (pv 0) TA.cl TA.mAt GA hr bA .nil pass0 (pa_cons (pe_op op_add (pv 3) pe_int) pa_nil)) pa_nil)))))))), ?_⟩
    have nca : c ≠ a := ne_of hc ha (by intro z; cases z)
    -- the first loop
    refine ⟨fun σ H' => σ = [some (.ref a), some (.int p), some (.int (col.toNat : Int)), none] ∧ ∃ m, But a H H' ∧ m ≤ cs.length ∧ H' a = some (.ins C dx (abF c wd m)) ∧ ∀ i (h : i < cs.length), i < m → (cs[i] : Int) ≤ p, ?_, ?_⟩
    · refine ⟨fun m σ H' => σ = [some (.ref a), some (.int p), some (.int (col.toNat : Int)), none] ∧ But a H H' ∧ m ≤ cs.length ∧ H' a = some (.ins C dx (abF c wd m)), ⟨sp, rfl, But.refl _ _, hsp, ha⟩, ?_⟩
      rintro m σ H' ⟨rfl, bt, hm, ha'⟩
      have hc' := bt c _ nca hc
      refine ⟨_, rfl, a, C, dx, _, _, rfl, ha', TA.cl, TA.nS, abF_s _ _ _, _, _, rfl, rfl, _, rfl, ?_⟩
      by_cases h0 : 0 < m
      · refine if_yes (by omega) ?_
        have hm1 : m - 1 < cs.length := by omega
        refine ⟨_, rfl, a, dx, _, rfl, ha', abF_at _ _ _, _, rfl, a, C, dx, _, _, rfl, ha', TA.cl, TA.nS, abF_s _ _ _, _, _, rfl, rfl, a, dx, c, wd, m, m - 1, cs, ?_, ha', hc', ?_⟩
        · have : (m : Int) - 1 = ((m - 1 : Nat) : Int) := by omega
          show [V.ref a, V.int ((m : Int) - 1)] = _
          rw [this]
        rw [getD_at hm1]
        refine ⟨_, rfl, _, _, rfl, rfl, _, rfl, ?_⟩
        by_cases hp : p < (cs[m - 1] : Int)
        · refine if_yes hp ?_
          refine ⟨_, fun _ _ h => h, ?_⟩
          refine ⟨_, rfl, a, C, dx, _, _, rfl, ha', TA.cl, TA.nS, abF_s _ _ _, _, _, rfl, rfl, _, rfl, a, C, dx, _, rfl, ha', TA.cl, TA.nS, (by show 3 < 1000; decide), ?_⟩
          refine ⟨m - 1, by omega, rfl, bt.trans but_upd, by omega, ?_⟩
          exact Eq.trans upd_same (abF_putS (by omega))
        · refine if_no hp ?_
          refine ⟨rfl, m, bt, hm, ha', fun i hi him => ?_⟩
          rcases Nat.lt_or_eq_of_le (show i ≤ m - 1 by omega) with z | z
          · have := sorted_lt hsrt hm1 z
            omega
          · subst z
            omega
      · refine if_no (by omega) ?_
        exact ⟨rfl, m, bt, hm, ha', fun i hi him => by omega⟩
    · rintro σ H' ⟨rfl, m, bt, hm, ha', hle⟩
      -- the second loop
      refine ⟨fun σ H' => σ = [some (.ref a), some (.int p), some (.int (col.toNat : Int)), none] ∧ ∃ m, But a H H' ∧ H' a = some (.ins C dx (abF c wd m)) ∧ Spot cs p m, ?_, ?_⟩
      · refine ⟨fun k σ H' => σ = [some (.ref a), some (.int p), some (.int (col.toNat : Int)), none] ∧ ∃ m, k + m = cs.length ∧ But a H H' ∧ H' a = some (.ins C dx (abF c wd m)) ∧ ∀ i (h : i < cs.length), i < m → (cs[i] : Int) ≤ p, ⟨cs.length - m, rfl, m, by omega, bt, ha', hle⟩, ?_⟩
        rintro k σ H' ⟨rfl, m, hk, bt, ha', hle⟩
        have hc' := bt c _ nca hc
        refine ⟨_, rfl, a, C, dx, _, _, rfl, ha', TA.cl, TA.nS, abF_s _ _ _, _, rfl, a, C, dx, _, _, rfl, ha', TA.cl, TA.nC, abF_c _ _ _, c, natsV cs, rfl, .inl (SqL.of hc'), _, _, rfl, rfl, _, rfl, ?_⟩
        rw [List.length_map]
        by_cases hm : m < cs.length
        · refine if_yes (by omega) ?_
          refine ⟨_, rfl, a, C, dx, _, _, rfl, ha', TA.cl, TA.nC, abF_c _ _ _, _, rfl, a, C, dx, _, _, rfl, ha', TA.cl, TA.nS, abF_s _ _ _, c, _, _, _, rfl, rfl, SqL.of hc', at_of rfl (natsV_get hm), _, rfl, _, _, rfl, rfl, _, rfl, ?_⟩
          by_cases hp : (cs[m] : Int) ≤ p
          · refine if_yes hp ?_
            refine ⟨_, fun _ _ h => h, ?_⟩
            refine ⟨_, rfl, a, C, dx, _, _, rfl, ha', TA.cl, TA.nS, abF_s _ _ _, _, _, rfl, rfl, _, rfl, a, C, dx, _, rfl, ha', TA.cl, TA.nS, (by show 3 < 1000; decide), ?_⟩
            refine ⟨k - 1, by omega, rfl, m + 1, by omega, bt.trans but_upd, ?_, fun i hi him => ?_⟩
            · exact Eq.trans upd_same (abF_putS (by omega))
            · rcases Nat.lt_or_eq_of_le (Nat.le_of_lt_succ him) with z | z
              · exact hle i hi z
              · subst z
                exact hp
          · refine if_no hp ?_
            refine ⟨rfl, m, bt, ha', Nat.le_of_lt hm, hle, fun i hi him => ?_⟩
            rcases Nat.lt_or_eq_of_le him with z | z
            · have := sorted_lt hsrt hi z
              omega
            · subst z
              omega
        · refine if_no (by omega) ?_
          exact ⟨rfl, m, bt, ha', by omega, hle, fun i hi him => by omega⟩
      · rintro σ H' ⟨rfl, m, bt, ha', hS⟩
        have hc' := bt c _ nca hc
        refine ⟨_, rfl, a, C, dx, _, _, rfl, ha', TA.cl, TA.nS, abF_s _ _ _, ?_⟩
        refine ⟨fun σ H'' => H'' = H' ∧ σ = [some (.ref a), some (.int p), some (.int (col.toNat : Int)), some (.int (pick m col : Nat))], ?_, ?_⟩
        · refine ⟨_, rfl, _, _, rfl, rfl, (by show (0 : Int) < 2; decide), _, rfl, rfl, _, rfl, ?_⟩
          have hpk : (!decide (V.int ((m : Int) % 2) = V.int (col.toNat : Int))) = decide (¬ m % 2 = col.toNat) := by
            by_cases h : m % 2 = col.toNat
            · have : (m : Int) % 2 = (col.toNat : Int) := by omega
              rw [this, decide_eq_true rfl, decide_eq_false (by omega)]
              rfl
            · rw [decide_eq_false (fun e => h (by have := V.int.inj e; omega)), decide_eq_true h]
              rfl
          rw [hpk]
          by_cases h : m % 2 = col.toNat
          · refine if_no (by omega) ?_
            refine ⟨rfl, ?_⟩
            unfold pick
            rw [if_pos h]
            rfl
          · refine if_yes h ?_
            refine ⟨_, rfl, _, _, rfl, rfl, rfl, ?_⟩
            unfold pick
            rw [if_neg h]
            rfl
        · rintro σ H'' ⟨rfl, rfl⟩
          refine ⟨_, rfl, a, dx, _, rfl, ha', abF_at _ _ _, _, rfl, a, dx, c, wd, m, pick m col, cs, rfl, ha', hc', ?_⟩
          refine ⟨_, rfl, a, dx, _, rfl, ha', abF_at _ _ _, _, rfl, _, _, rfl, rfl, a, dx, c, wd, m, pick m col + 1, cs, rfl, ha', hc', ?_⟩
          refine ⟨by show 2 ≤ sizeLine; decide, fun t nt => ?_⟩
          exact q _ t m hS (bt.trans (same_upd nt).but) (by rw [upd_ne (ne_of_none ha' nt)]; exact ha') upd_same
end
end Fax1
set_option Elab.async false
set_option linter.all false
set_option maxRecDepth 100000
set_option maxHeartbeats 4000000
namespace Fax1
open PySem PySem.Spec PyProof.Rows L2 Fax
/-- changes_of: the places of change of a row of bytes -/
def spChg (K : PySem.W.Frag) : Sp := fun vs H Q _ => ∃ (a : Addr) (l : List Nat) (w : Nat), vs = [.ref a, .int (w : Int)] ∧ SqL K H a (natsV l) ∧ (∀ n ∈ l, n < 256) ∧ l.length ≤ 100000 ∧
  ∀ (H' : Hp) (p : Addr), Same H H' → H p = none → H' p = some (.lst (natsV (chg ((bitsNs l).take w)))) → Q (.ref p) H'
theorem scChg : FnScope ["row", "width", "found", "colour", "number", "byte", "bit", "place", "point"] ["row", "width"] (defScope sChg) := ⟨rfl, rfl, rfl, by decide +kernel, rfl, by decide +kernel, by decide +kernel⟩
theorem point_is (n j : Nat) (h : j < 8) : Builtin.bitAnd ((n : Int) / 2 ^ (7 - (0 + (j : Int))).toNat) 1 = ((n.testBit (7 - j)).toNat : Int) := by
  have e : (7 - (0 + (j : Int))).toNat = 7 - j := by omega
  rw [e, bitAnd_m1, Nat.toNat_testBit]
  have e2 : ((n : Int) / 2 ^ (7 - j)) = ((n / 2 ^ (7 - j) : Nat) : Int) := by
    rw [Int.natCast_ediv, Int.natCast_pow]
    rfl
  rw [e2]
  omega
theorem bitsN_get (n j : Nat) (h : j < 8) : (bitsN n)[j]? = some (n.testBit (7 - j)) := by
  unfold bitsN
  rw [List.getElem?_map, List.getElem?_range h]
  rfl
theorem bitsN_take (n j : Nat) (h : j < 8) : (bitsN n).take (j + 1) = (bitsN n).take j ++ [n.testBit (7 - j)] := by
  have := bitsN_get n j h
  obtain ⟨hj, e⟩ := List.getElem?_eq_some_iff.mp this
  rw [List.take_succ_eq_append_getElem hj, e]
theorem chg_short (l : List Nat) (w : Nat) (r : List Bool) (hl : l.length ≤ 100000) (hr : r.length ≤ 8) : (natsV (chg ((bitsNs l ++ r).take w))).length < sizeLine := by
  rw [List.length_map]
  have h1 := chg_len ((bitsNs l ++ r).take w)
  have h2 : ((bitsNs l ++ r).take w).length ≤ 800008 := by
    rw [List.length_take, List.length_append, bitsNs_len]
    omega
  exact Nat.lt_of_le_of_lt (Nat.le_trans h1 h2) (by decide)
section
variable {P : Program} {w : World} {K : PySem.W.Frag} {mg : Str → Option Value} {base : Heap}
theorem ok_chg {f : Addr} {fd : FuncData} (F : Fun K "changes_of" "changes_of" sChg f fd) (TX : Txt K mg) : FnOk P w K mg base CX0 1 f fd ["row", "width"] (spChg K) := by
  refine F.ok scChg (fun vs H Q E h => ?_) (fun cdv A outer s H vs Q E hr h => ?_)
  · obtain ⟨a, l, w, rfl, _⟩ := h
    rfl
  · obtain ⟨a, l, wd, rfl, hS, h256, hlen, q⟩ := h
    refine ⟨_, pss_cons (ps_par (i := 2) (j := 3) rfl scChg.nd rfl rfl (by decide) rfl rfl (pa_cons (pe_lst pa_nil) (pa_cons pe_int pa_nil)) (by rfl))
      (pss_cons (ps_for PassesOwn.never rfl (pi_enum (by rfl) TX.enum (pa_cons (pv 0) pa_nil))
          (pg_tup rfl (pgs_cons (pg_name (i := 4) scChg.nd rfl (.inl rfl)) (pgs_cons (pg_name (i := 5) scChg.nd rfl (.inl rfl)) pgs_nil)))
          (pss_one (ps_if (pt_cmpR op_ne (pv 5) (pe_op op_mul pe_int (pv 3)) (nomark _))
            (pss_one (ps_for PassesOwn.never rfl (pi_range1 (by rfl) TX.range (pa_cons pe_int pa_nil)) (pg_name (i := 6) scChg.nd rfl (.inl rfl))
              (pss_cons (ps_set (i := 7) scChg.nd rfl (.inl rfl) (pe_op op_add (pe_op op_mul pe_int (pv 4)) (pv 6)))
              (pss_cons (ps_set (i := 8) scChg.nd rfl (.inl rfl) (pe_op op_and (pe_op op_shr (pv 5) (pe_op op_sub pe_int (pv 6))) pe_int))
              (pss_one (ps_if (PW.pt (pw_and (pt_cmpR op_lt (pv 7) (pv 1) (nomark _)) (pw_and1 (pt_cmpR op_ne (pv 8) (pv 3) (nomark _)))))
                (pss_cons (ps_expr (pe_bm PySem.F.plainAttrs_list PySem.F.slot_list_append PySem.F.type_list_append mt_append (pv 2) (pa_cons (pv 7) pa_nil)))
                (pss_one (ps_set (i := 3) scChg.nd rfl (.inl rfl) (pv 8)))) pss_nil)))))) pss_nil)))
      (pss_one (ps_ret (pv 2)))), ?_⟩
    -- found, colour = [], 0
    refine ⟨Nat.zero_le _, fun o no => ⟨_, _, rfl, ?_⟩⟩
    have s1 : Same H (upd H o (.lst [])) := same_upd no
    have e0 : (bitsNs (l.take 0)).take wd = [] := by simp [bitsNs]
    refine ⟨_, rfl, a, natsV l, rfl, s1.seq hS, for_enumL (K := K) (a := a) (xs := natsV l) (fun i σ H' => ∃ v4 v5 v6 v7 v8, σ = [some (.ref a), some (.int (wd : Int)), some (.ref o), some (.int ((lastC false ((bitsNs (l.take i)).take wd)).toNat : Int)), v4, v5, v6, v7, v8] ∧
      Same H H' ∧ H' o = some (.lst (natsV (chg ((bitsNs (l.take i)).take wd))))) ⟨none, none, none, none, none, by rw [e0]; rfl, s1, by rw [e0]; exact upd_same⟩ (fun i σ H' _ ⟨_, _, _, _, _, _, sm, _⟩ => sm.seq hS) ?_ ?_⟩
    · rintro i x TT σ H' hx nT ⟨v4, v5, v6, v7, v8, rfl, sm, ho⟩
      obtain ⟨n, hn, rfl⟩ : ∃ n, l[i]? = some n ∧ x = V.int (n : Int) := by
        rw [List.getElem?_map] at hx
        cases e : l[i]? with
        | none => rw [e] at hx; cases hx
        | some n => rw [e] at hx; exact ⟨n, rfl, (Option.some.inj hx).symm⟩
      obtain ⟨hi, en⟩ := List.getElem?_eq_some_iff.mp hn
      have hn256 := h256 n (List.mem_of_getElem? hn)
      have m1 : o ≠ TT := ne_of_none ho nT
      have etk : l.take (i + 1) = l.take i ++ [n] := by rw [List.take_succ_eq_append_getElem hi, en]
      have ebs : bitsNs (l.take (i + 1)) = bitsNs (l.take i) ++ bitsN n := by
        rw [etk, bitsNs_append]
        show bitsNs (l.take i) ++ (bitsN n ++ []) = _
        rw [List.append_nil]
      have smT : Same H (upd H' TT (.tup [.int (i : Nat), .int (n : Int)])) := sm.trans (same_upd nT)
      have hoT : upd H' TT (.tup [.int (i : Nat), .int (n : Int)]) o = some (.lst (natsV (chg ((bitsNs (l.take i)).take wd)))) := by
        rw [upd_ne m1]
        exact ho
      refine ⟨TT, _, rfl, .inl (.inl upd_same), rfl, _, _, rfl, _, _, rfl, rfl, ?_⟩
      generalize upd H' TT (.tup [.int (i : Nat), .int (n : Int)]) = H2 at smT hoT
      refine ⟨_, rfl, _, rfl, _, _, rfl, rfl, .inl (by decide), rfl, _, rfl, ?_⟩
      generalize hc : lastC false ((bitsNs (l.take i)).take wd) = c
      by_cases hb : (n : Int) = 255 * (c.toNat : Int)
      · refine if_false_of (by rw [decide_eq_true (congrArg V.int hb)]; rfl) ?_
        have hbits : bitsN n = List.replicate 8 c := by
          cases c with
          | false =>
            have : n = 0 := by simpa using hb
            rw [this, bitsN_0]
          | true =>
            have : n = 255 := by
              have : (n : Int) = 255 := hb
              omega
            rw [this, bitsN_255]
        have ts := take_same (bitsNs (l.take i)) wd 8 c hc.symm
        rw [← hbits, ← ebs] at ts
        refine ⟨some (.int (i : Nat)), some (.int (n : Int)), v6, v7, v8, ?_, smT, ?_⟩
        · rw [ts.2, hc]
          rfl
        · rw [ts.1]
          exact hoT
      · refine if_true_of (by rw [decide_eq_false (fun e => hb (V.int.inj e))]; rfl) ?_
        refine ⟨8, rfl, by decide, by decide, for_range (lo := 0) (n := 8) (fun j σ H' => ∃ v6 v7 v8, σ = [some (.ref a), some (.int (wd : Int)), some (.ref o), some (.int ((lastC false ((bitsNs (l.take i) ++ (bitsN n).take j).take wd)).toNat : Int)), some (.int (i : Nat)), some (.int (n : Int)), v6, v7, v8] ∧
          Same H H' ∧ H' o = some (.lst (natsV (chg ((bitsNs (l.take i) ++ (bitsN n).take j).take wd))))) ?_ ?_ ?_⟩
        · refine ⟨v6, v7, v8, ?_, smT, ?_⟩
          · rw [List.take_zero, List.append_nil, hc]
            rfl
          · rw [List.take_zero, List.append_nil]
            exact hoT
        · rintro j σ H3 hj ⟨v6, v7, v8, rfl, sm3, ho3⟩
          have hsh := chg_short (l.take i) wd ((bitsN n).take j) (by rw [List.length_take]; omega) (by rw [List.length_take]; omega)
          have ec := chg_take_snoc (bitsNs (l.take i) ++ (bitsN n).take j) (n.testBit (7 - j)) wd
          have el := lastC_take_snoc (bitsNs (l.take i) ++ (bitsN n).take j) (n.testBit (7 - j)) wd
          rw [List.append_assoc, ← bitsN_take n j hj] at ec el
          have eln : (bitsNs (l.take i) ++ (bitsN n).take j).length = 8 * i + j := by
            rw [List.length_append, bitsNs_len, List.length_take, List.length_take, bitsN_len]
            omega
          rw [eln] at ec el
          refine ⟨_, rfl, _, _, rfl, rfl, .inl (by decide), _, rfl, _, _, rfl, rfl, ?_⟩
          refine ⟨_, rfl, _, rfl, _, _, rfl, rfl, _, _, rfl, rfl, (by show (0 : Int) ≤ 7 - (0 + (j : Int)); omega), _, _, rfl, rfl, ?_⟩
          dsimp only
          rw [point_is n j hj]
          generalize n.testBit (7 - j) = x at ec el ⊢
          generalize lastC false ((bitsNs (l.take i) ++ (bitsN n).take j).take wd) = c3 at ec el ⊢
          refine ⟨_, rfl, _, rfl, _, _, rfl, rfl, _, rfl, ?_⟩
          by_cases hp : 8 * i + j < wd
          · refine if_yes (by omega) ?_
            refine ⟨_, rfl, _, rfl, rfl, _, rfl, ?_⟩
            rw [bool_int_ne]
            by_cases hx : x ≠ c3
            · refine if_yes hx ?_
              rw [if_pos ⟨hp, hx⟩] at ec el
              refine ⟨_, rfl, .inl ⟨rfl, _, .inl (.inl ho3)⟩, _, rfl, o, _, _, rfl, rfl, ho3, hsh, ?_⟩
              refine ⟨_, rfl, some (.int (0 + (j : Int))), some (.int (8 * (i : Int) + (0 + (j : Int)))), some (.int (x.toNat : Int)), ?_, ?_, ?_⟩
              · rw [el]
                rfl
              · intro b ob e
                rw [upd_ne (ne_of_none e no)]
                exact sm3 b ob e
              · have : (8 * (i : Int) + (0 + (j : Int))) = ((8 * i + j : Nat) : Int) := by omega
                rw [ec, ← natsV_snoc, ← this]
                exact upd_same
            · refine if_no hx ?_
              rw [if_neg (fun z => hx z.2)] at ec el
              refine ⟨some (.int (0 + (j : Int))), some (.int (8 * (i : Int) + (0 + (j : Int)))), some (.int (x.toNat : Int)), ?_, sm3, ?_⟩
              · rw [el]
                rfl
              · rw [ec]
                exact ho3
          · refine if_no (by omega) ?_
            refine if_false_of rfl ?_
            rw [if_neg (fun z => hp z.1)] at ec el
            refine ⟨some (.int (0 + (j : Int))), some (.int (8 * (i : Int) + (0 + (j : Int)))), some (.int (x.toNat : Int)), ?_, sm3, ?_⟩
            · rw [el]
              rfl
            · rw [ec]
              exact ho3
        · rintro σ H3 ⟨v6, v7, v8, rfl, sm3, ho3⟩
          have e8 : (bitsN n).take 8 = bitsN n := List.take_of_length_le (by rw [bitsN_len]; exact Nat.le_refl _)
          rw [e8, ← ebs] at ho3
          refine ⟨some (.int (i : Nat)), some (.int (n : Int)), v6, v7, v8, ?_, sm3, ho3⟩
          rw [e8, ← ebs]
    · rintro σ H' ⟨v4, v5, v6, v7, v8, rfl, sm, ho⟩
      rw [List.length_map, List.take_length] at ho
      exact ⟨_, rfl, q H' o sm no ho⟩
end
end Fax1
set_option Elab.async false
set_option linter.all false
set_option maxRecDepth 100000
set_option maxHeartbeats 4000000
namespace Fax1
open PySem PySem.Spec PyProof.Rows L2 Fax
/-- texts of bits as values -/
abbrev textsV (l : List Ql31.Bits) : List V := l.map fun b => V.str (T b)
theorem textsV_snoc (l : List Ql31.Bits) (b : Ql31.Bits) : textsV l ++ [V.str (T b)] = textsV (l ++ [b]) := by
  show _ = (l ++ [b]).map _
  rw [List.map_append]
  rfl
/-- the fields of a Writer -/
def wrF (w : Nat) (tb fl : Addr) : List (Str × V) := [("width", .int (w : Int)), ("tables", .ref tb), ("found", .ref fl)]
theorem wrF_w (w : Nat) (tb fl : Addr) : (wrF w tb fl).lookup ("width" : Str) = some (.int (w : Int)) := lk_here
theorem wrF_t (w : Nat) (tb fl : Addr) : (wrF w tb fl).lookup ("tables" : Str) = some (.ref tb) := (lk_past (by decide +kernel)).trans lk_here
theorem wrF_f (w : Nat) (tb fl : Addr) : (wrF w tb fl).lookup ("found" : Str) = some (.ref fl) := (lk_past (by decide +kernel)).trans ((lk_past (by decide +kernel)).trans lk_here)
theorem wrF_no {m : Str} (w : Nat) (tb fl : Addr) (h1 : (m == ("width" : Str)) = false) (h2 : (m == ("tables" : Str)) = false) (h3 : (m == ("found" : Str)) = false) : (wrF w tb fl).lookup m = none :=
  (lk_past h1).trans ((lk_past h2).trans ((lk_past h3).trans rfl))
theorem wrF_new (w : Nat) (tb fl : Addr) : putF "found" (.ref fl) (putF "tables" (.ref tb) (putF "width" (.int (w : Int)) [])) = wrF w tb fl := by
  show putF "found" (.ref fl) (putF "tables" (.ref tb) [(("width" : Str), .int (w : Int))]) = _
  rw [put_past (by decide +kernel)]
  show putF "found" (.ref fl) [(("width" : Str), V.int (w : Int)), (("tables" : Str), V.ref tb)] = _
  rw [put_past (by decide +kernel), put_past (by decide +kernel)]
  rfl
/-- a writer, and what it has written -/
structure Wr (C : Addr) (H : Hp) (a dx tb d0 d1 fl : Addr) (w : Nat) (found : List Ql31.Bits) : Prop where
  obj : H a = some (.ins C dx (wrF w tb fl))
  tab : H tb = some (.lst [.ref d0, .ref d1])
  h0 : H d0 = some (.dK (lenTab false))
  h1 : H d1 = some (.dK (lenTab true))
  fnd : H fl = some (.lst (textsV found))
theorem Wr.tbl {C : Addr} {H : Hp} {a dx tb d0 d1 fl : Addr} {w : Nat} {found : List Ql31.Bits} (W : Wr C H a dx tb d0 d1 fl w found) (d : Bool) :
    ∃ t, [V.ref d0, V.ref d1][d.toNat]? = some (.ref t) ∧ H t = some (.dK (lenTab d)) := by
  cases d with
  | false => exact ⟨d0, rfl, W.h0⟩
  | true => exact ⟨d1, rfl, W.h1⟩
theorem Wr.next {C : Addr} {H H' : Hp} {a dx tb d0 d1 fl : Addr} {w : Nat} {found found' : List Ql31.Bits} (W : Wr C H a dx tb d0 d1 fl w found) (b : But fl H H') (h : H' fl = some (.lst (textsV found'))) : Wr C H' a dx tb d0 d1 fl w found' :=
  ⟨b _ _ (ne_of W.obj W.fnd (by intro z; cases z)) W.obj, b _ _ (ne_of W.tab W.fnd (by
    intro z
    have e : [V.ref d0, V.ref d1] = textsV found := HO.lst.inj z
    cases found with
    | nil => cases e
    | cons x r => cases e)) W.tab, b _ _ (ne_of W.h0 W.fnd (by intro z; cases z)) W.h0, b _ _ (ne_of W.h1 W.fnd (by intro z; cases z)) W.h1, h⟩
/-- the class Writer -/
structure WrT (K : PySem.W.Frag) (mg : Str → Option Value) (C fI fP fR fA fB fY : Addr) : Prop where
  cl : Cls K C
  nW : NoAttr K C "width"
  nT : NoAttr K C "tables"
  nF : NoAttr K C "found"
  g : mg "Writer" = some (.ref C)
  mkr : Mk K C fI
  mPut : Meth K C "put" fP
  mRun : Meth K C "put_run" fR
  mAlone : Meth K C "put_alone" fA
  mBy : Meth K C "put_by" fB
  mBytes : Meth K C "put_bytes" fY
def spWrI (C : Addr) : Sp := fun vs H Q _ => ∃ (p dx : Addr) (w : Nat), vs = [.ref p, .int (w : Int)] ∧ H p = some (.ins C dx []) ∧
  ∀ (H' : Hp) (tb d0 d1 fl : Addr), Wr C H' p dx tb d0 d1 fl w [] → But p H H' → H fl = none → Q .non H'
def spPut (C : Addr) : Sp := fun vs H Q _ => ∃ (a dx tb d0 d1 fl : Addr) (w : Nat) (found : List Ql31.Bits) (b : Ql31.Bits), vs = [.ref a, .str (T b)] ∧ Wr C H a dx tb d0 d1 fl w found ∧ found.length < sizeLine ∧
  Q .non (upd H fl (.lst (textsV (found ++ [b]))))
def spPutRun (C : Addr) : Sp := fun vs H Q _ => ∃ (a dx tb d0 d1 fl : Addr) (w : Nat) (found : List Ql31.Bits) (d : Bool) (n : Nat), vs = [.ref a, .int (d.toNat : Int), .int (n : Int)] ∧ Wr C H a dx tb d0 d1 fl w found ∧ found.length < sizeLine ∧ n ≤ 16384 ∧
  Q .non (upd H fl (.lst (textsV (found ++ [Ql31.run d n]))))
theorem scWrI : FnScope ["self", "width"] ["self", "width"] (defScope sWrI) := ⟨rfl, rfl, rfl, by decide +kernel, rfl, by decide +kernel, by decide +kernel⟩
theorem scPut : FnScope ["self", "code"] ["self", "code"] (defScope sPut) := ⟨rfl, rfl, rfl, by decide +kernel, rfl, by decide +kernel, by decide +kernel⟩
theorem scPutRun : FnScope ["self", "colour", "length"] ["self", "colour", "length"] (defScope sPutRun) := ⟨rfl, rfl, rfl, by decide +kernel, rfl, by decide +kernel, by decide +kernel⟩
section
variable {P : Program} {w : World} {K : PySem.W.Frag} {mg : Str → Option Value} {base : Heap} {C fI fP fR fA fB fY : Addr}
theorem ok_put {f : Addr} {fd : FuncData} (F : Fun K "put" "Writer.put" sPut f fd) (TW : WrT K mg C fI fP fR fA fB fY) : FnOk P w K mg base CX0 1 f fd ["self", "code"] (spPut C) := by
  refine F.ok scPut (fun vs H Q E h => ?_) (fun cdv A outer s H vs Q E hr h => ?_)
  · obtain ⟨a, dx, tb, d0, d1, fl, w, found, b, rfl, _⟩ := h
    rfl
  · obtain ⟨a, dx, tb, d0, d1, fl, wd, found, b, rfl, W, hl, q⟩ := h
    refine ⟨_, pss_one (ps_expr (pe_bm PySem.F.plainAttrs_list PySem.F.slot_list_append PySem.F.type_list_append mt_append (pe_fld (pv 0) rfl) (pa_cons (pv 1) pa_nil))), ?_⟩
    refine ⟨_, rfl, a, C, dx, _, _, rfl, W.obj, TW.cl, TW.nF, wrF_f _ _ _, .inl ⟨rfl, _, .inl (.inl W.fnd)⟩, _, rfl, fl, _, _, rfl, rfl, W.fnd, by rw [List.length_map]; exact hl, ?_⟩
    rw [textsV_snoc]
    exact q
theorem ok_putRun {f fRun : Addr} {fd fdRun : FuncData} (F : Fun K "put_run" "Writer.put_run" sPutRun f fd) (TW : WrT K mg C fI fP fR fA fB fY) (GR : FnOk P w K mg base CX0 1 fRun fdRun ["by_length", "length"] spRun)
    (gR : mg "run_code" = some (.ref fRun)) (kR : PySem.W.keepIn K (.ref fRun) = true) (bR : Binds K fdRun ["by_length", "length"] []) : FnOk P w K mg base CX0 2 f fd ["self", "colour", "length"] (spPutRun C) := by
  refine F.ok scPutRun (fun vs H Q E h => ?_) (fun cdv A outer s H vs Q E hr h => ?_)
  · obtain ⟨a, dx, tb, d0, d1, fl, w, found, d, n, rfl, _⟩ := h
    rfl
  · obtain ⟨a, dx, tb, d0, d1, fl, wd, found, d, n, rfl, W, hl, hn, q⟩ := h
    refine ⟨_, pss_one (ps_expr (pe_bm PySem.F.plainAttrs_list PySem.F.slot_list_append PySem.F.type_list_append mt_append (pe_fld (pv 0) rfl)
      (pa_cons (pe_call GR hr rfl gR kR bR .nil pass0 (pa_cons (pe_ix ix_list (pe_fld (pv 0) rfl) (pv 1) (fun _ _ => rfl)) (pa_cons (pv 2) pa_nil))) pa_nil))), ?_⟩
    obtain ⟨t, ht, htab⟩ := W.tbl d
    refine ⟨_, rfl, a, C, dx, _, _, rfl, W.obj, TW.cl, TW.nF, wrF_f _ _ _, .inl ⟨rfl, _, .inl (.inl W.fnd)⟩, ?_⟩
    refine ⟨_, rfl, a, C, dx, _, _, rfl, W.obj, TW.cl, TW.nT, wrF_t _ _ _, _, rfl, tb, _, _, _, rfl, rfl, SqL.of W.tab, at_of rfl ht, _, rfl, d, t, n, rfl, htab, hn, ?_⟩
    refine ⟨fl, _, _, rfl, rfl, W.fnd, by rw [List.length_map]; exact hl, ?_⟩
    rw [textsV_snoc]
    exact q
theorem ok_wrI {f fTab : Addr} {fd fdTab : FuncData} (F : Fun K "__init__" "Writer.__init__" sWrI f fd) (TX : Txt K mg) (TW : WrT K mg C fI fP fR fA fB fY) (GT : FnOk P w K mg base CX0 1 fTab fdTab ["short", "long"] spTab)
    (gT : mg "tables_of" = some (.ref fTab)) (kT : PySem.W.keepIn K (.ref fTab) = true) (bT : Binds K fdTab ["short", "long"] []) : FnOk P w K mg base CX0 2 f fd ["self", "width"] (spWrI C) := by
  refine F.ok scWrI (fun vs H Q E h => ?_) (fun cdv A outer s H vs Q E hr h => ?_)
  · obtain ⟨p, dx, w, rfl, _⟩ := h
    rfl
  · obtain ⟨p, dx, wd, rfl, hp, q⟩ := h
    obtain ⟨tws, mws⟩ := TX.ws
    obtain ⟨twl, mwl⟩ := TX.wl
    obtain ⟨tbs, mbs⟩ := TX.bs
    obtain ⟨tbl, mbl⟩ := TX.bl
    refine ⟨_, pss_cons (ps_fld (pv 0) (pv 1) rfl) (pss_cons (ps_fld (pv 0) (pe_lst (pa_cons (pe_ix ix_tup (pe_call GT hr rfl gT kT bT .nil pass0 (pa_cons (pe_glob rfl mws (rel_str _ _)) (pa_cons (pe_glob rfl mwl (rel_str _ _)) pa_nil))) pe_int (fun _ _ => rfl))
      (pa_cons (pe_ix ix_tup (pe_call GT hr rfl gT kT bT .nil pass0 (pa_cons (pe_glob rfl mbs (rel_str _ _)) (pa_cons (pe_glob rfl mbl (rel_str _ _)) pa_nil))) pe_int (fun _ _ => rfl)) pa_nil))) rfl)
      (pss_one (ps_fld (pv 0) (pe_lst pa_nil) rfl))), ?_⟩
    refine ⟨_, rfl, _, rfl, p, C, dx, [], rfl, hp, TW.cl, TW.nW, (by show 0 < 1000; decide), ?_⟩
    have hp1 : upd H p (.ins C dx (putF "width" (.int (wd : Int)) [])) p = some (.ins C dx (putF "width" (.int (wd : Int)) [])) := upd_same
    have bt1 : But p H (upd H p (.ins C dx (putF "width" (.int (wd : Int)) []))) := but_upd
    generalize hH1 : upd H p (.ins C dx (putF "width" (.int (wd : Int)) [])) = H1 at hp1 bt1
    -- the first table
    refine ⟨false, by rw [s1_ws, s1_wl]; rfl, fun H2 p2 d0 e0 sm2 h2 h20 _ => ?_⟩
    refine ⟨p2, _, 0, _, rfl, rfl, SqT.of h2, atI_nat (j := 0) rfl, ?_⟩
    refine ⟨true, by rw [s1_bs, s1_bl]; rfl, fun H3 p3 d1 e1 sm3 h3 h31 _ => ?_⟩
    refine ⟨p3, _, 0, _, rfl, rfl, SqT.of h3, atI_nat (j := 0) rfl, ?_⟩
    refine ⟨(by show 2 ≤ sizeLine; decide), fun tb ntb => ?_⟩
    have hp3 : H3 p = some (.ins C dx (putF "width" (.int (wd : Int)) [])) := sm3 _ _ (sm2 _ _ hp1)
    have h30 : H3 d0 = some (.dK (lenTab false)) := sm3 _ _ h20
    have np : p ≠ tb := ne_of_none hp3 ntb
    refine ⟨_, rfl, p, C, dx, _, rfl, (by rw [upd_ne np]; exact hp3), TW.cl, TW.nT, (by show 1 < 1000; decide), ?_⟩
    refine ⟨Nat.zero_le _, fun fl nfl => ?_⟩
    have nfp : fl ≠ p := fun e => by rw [e, upd_same] at nfl; cases nfl
    rw [upd_ne nfp] at nfl
    have nft : fl ≠ tb := fun e => by rw [e, upd_same] at nfl; cases nfl
    rw [upd_ne nft] at nfl
    refine ⟨_, rfl, p, C, dx, _, rfl, (by rw [upd_ne nfp.symm]; exact upd_same), TW.cl, TW.nF, (by show 2 < 1000; decide), ?_⟩
    have x0 : d0 ≠ p := ne_of h30 hp3 (by intro z; cases z)
    have x1 : d1 ≠ p := ne_of h31 hp3 (by intro z; cases z)
    have y0 : d0 ≠ fl := ne_of_none h30 nfl
    have y1 : d1 ≠ fl := ne_of_none h31 nfl
    have z0 : d0 ≠ tb := ne_of_none h30 ntb
    have z1 : d1 ≠ tb := ne_of_none h31 ntb
    refine q _ tb d0 d1 fl ⟨?_, ?_, ?_, ?_, ?_⟩ (fun b o hb e => ?_) ?_
    · exact Eq.trans upd_same (congrArg (fun z => some (HO.ins C dx z)) (wrF_new wd tb fl))
    · rw [upd_ne np.symm, upd_ne nft.symm, upd_ne np.symm]
      exact upd_same
    · rw [upd_ne x0, upd_ne y0, upd_ne x0, upd_ne z0]
      exact h30
    · rw [upd_ne x1, upd_ne y1, upd_ne x1, upd_ne z1]
      exact h31
    · rw [upd_ne nfp]
      exact upd_same
    · have e3 : H3 b = some o := sm3 _ _ (sm2 _ _ (bt1 _ _ hb e))
      rw [upd_ne hb, upd_ne (ne_of_none e3 nfl), upd_ne hb, upd_ne (ne_of_none e3 ntb)]
      exact e3
    · cases e : H fl with
      | none => rfl
      | some o =>
        have e3 : H3 fl = some o := sm3 _ _ (sm2 _ _ (bt1 _ _ nfp e))
        rw [nfl] at e3
        cases e3
end
end Fax1
set_option Elab.async false
set_option linter.all false
set_option maxRecDepth 100000
set_option maxHeartbeats 4000000
namespace Fax1
open PySem PySem.Spec PyProof.Rows L2 Fax
/-- what a def that writes so many bits more does to the list -/
def Wrote (fl : Addr) (H : Hp) (found : List Ql31.Bits) (b : Ql31.Bits) (H' : Hp) : Prop := ∃ more : List Ql31.Bits, But fl H H' ∧ H' fl = some (.lst (textsV (found ++ more))) ∧ more.flatten = b ∧ more.length ≤ b.length
def spAlone (C : Addr) : Sp := fun vs H Q _ => ∃ (a dx tb d0 d1 fl c : Addr) (r : List Bool) (found : List Ql31.Bits), vs = [.ref a, .ref c] ∧ Wr C H a dx tb d0 d1 fl r.length found ∧ 0 < r.length ∧ r.length ≤ 16384 ∧
  H c = some (.lst (natsV (chg r))) ∧ found.length + (Ql31.rowAlone r).length ≤ 16000000 ∧ ∀ H', Wrote fl H found (Ql31.rowAlone r) H' → Q .non H'
theorem scAlone : FnScope ["self", "changes", "begin", "colour", "place"] ["self", "changes"] (defScope sAlone) := ⟨rfl, rfl, rfl, by decide +kernel, rfl, by decide +kernel, by decide +kernel⟩
theorem chg_w_sorted (r : List Bool) : (chg r ++ [r.length]).Pairwise (· < ·) := by
  rw [List.pairwise_append]
  refine ⟨chg_sorted r, List.pairwise_singleton _ _, fun x hx y hy => ?_⟩
  rw [List.mem_singleton] at hy
  subst hy
  exact chg_lt r x hx
theorem aloneC_len : ∀ (L : List Nat) (b : Nat) (c : Bool), L.length ≤ (aloneC b c L).length
  | [], _, _ => Nat.le_refl _
  | p :: L, b, c => by
    show L.length + 1 ≤ (Ql31.run c (p - b) ++ aloneC p (!c) L).length
    have h1 := (run_le c (p - b)).1
    have h2 := aloneC_len L p (!c)
    rw [List.length_append]
    omega
theorem flip_int (d : Bool) : (1 : Int) - (d.toNat : Int) = ((!d).toNat : Int) := by cases d <;> rfl
section
variable {P : Program} {w : World} {K : PySem.W.Frag} {mg : Str → Option Value} {base : Heap} {C fI fP fR fA fB fY : Addr}
theorem ok_alone {f : Addr} {fd fdR : FuncData} (F : Fun K "put_alone" "Writer.put_alone" sAlone f fd) (TW : WrT K mg C fI fP fR fA fB fY) (GR : FnOk P w K mg base CX0 2 fR fdR ["self", "colour", "length"] (spPutRun C))
    (bR : Binds K fdR ["self", "colour", "length"] []) : FnOk P w K mg base CX0 3 f fd ["self", "changes"] (spAlone C) := by
  refine F.ok scAlone (fun vs H Q E h => ?_) (fun cdv A outer s H vs Q E hr h => ?_)
  · obtain ⟨a, dx, tb, d0, d1, fl, c, r, found, rfl, _⟩ := h
    rfl
  · obtain ⟨a, dx, tb, d0, d1, fl, c, r, found, rfl, W, h0, hw, hc, hlen, q⟩ := h
    refine ⟨_, pss_cons (ps_asg (pe_tup (pa_cons pe_int (pa_cons pe_int pa_nil))) (pg_tup rfl (pgs_cons (pg_name (i := 2) scAlone.nd rfl (.inl rfl)) (pgs_cons (pg_name (i := 3) scAlone.nd rfl (.inl rfl)) pgs_nil))))
      (pss_one (ps_for PassesOwn.never rfl (pi_list (pe_op op_cat (pv 1) (pe_lst (pa_cons (pe_fld (pv 0) rfl) pa_nil)))) (pg_name (i := 4) scAlone.nd rfl (.inl rfl))
        (pss_cons (ps_expr (pe_meth (pv 0) TW.cl TW.mRun GR hr bR .nil pass0 (pa_cons (pv 3) (pa_cons (pe_op op_sub (pv 4) (pv 2)) pa_nil))))
        (pss_one (ps_par (i := 2) (j := 3) rfl scAlone.nd rfl rfl (by decide) rfl rfl (pa_cons (pv 4) (pa_cons (pe_op op_sub pe_int (pv 3)) pa_nil)) (by rfl)))))), ?_⟩
    refine ⟨by show 2 ≤ sizeLine; decide, fun t0 nt0 => ?_⟩
    refine ⟨t0, _, rfl, .inl (.inl upd_same), rfl, _, _, rfl, _, _, rfl, rfl, ?_⟩
    have s0 : Same H (upd H t0 (.tup [.int 0, .int 0])) := same_upd nt0
    have W := W.next s0.but (s0 _ _ W.fnd)
    have hc := s0 _ _ hc
    have q : ∀ H', Wrote fl (upd H t0 (.tup [.int 0, .int 0])) found (Ql31.rowAlone r) H' → Q .non H' := fun H' ⟨more, b, x, y, z⟩ => q H' ⟨more, s0.but.trans b, x, y, z⟩
    generalize upd H t0 (.tup [.int 0, .int 0]) = H at *
    -- changes + [self.width]
    refine ⟨_, rfl, _, rfl, a, C, dx, _, _, rfl, W.obj, TW.cl, TW.nW, wrF_w _ _ _, (by show 1 ≤ sizeLine; decide), fun e ne => ?_⟩
    have nce : c ≠ e := ne_of_none hc ne
    refine ⟨c, e, _, _, rfl, rfl, (by rw [upd_ne nce]; exact hc), upd_same, ?_, fun l nl => ?_⟩
    · rw [List.length_map]
      have := chg_len r
      exact Nat.le_trans (show (chg r).length + 1 ≤ 20000 by omega) (by decide)
    have eL : natsV (chg r) ++ [V.int (r.length : Int)] = natsV (chg r ++ [r.length]) := natsV_snoc _ _
    rw [eL]
    have s1 : Same H (upd (upd H e (.lst [V.int (r.length : Int)])) l (.lst (natsV (chg r ++ [r.length])))) := (same_upd ne).trans (same_upd nl)
    have hl1 : upd (upd H e (.lst [V.int (r.length : Int)])) l (.lst (natsV (chg r ++ [r.length]))) l = some (.lst (natsV (chg r ++ [r.length]))) := upd_same
    generalize upd (upd H e (.lst [V.int (r.length : Int)])) l (.lst (natsV (chg r ++ [r.length]))) = H1 at s1 hl1
    have nHl : H l = none := by
      cases q1 : H l with
      | none => rfl
      | some o => exact absurd (same_upd ne _ _ q1) (by rw [nl]; intro z; cases z)
    have nfl : l ≠ fl := fun z => by rw [z, W.fnd] at nHl; cases nHl
    refine ⟨l, rfl, ⟨_, SqL.of hl1⟩, for_list (K := K) (a := l) (xs := natsV (chg r ++ [r.length])) (fun i σ H' => ∃ (b : Nat) (d : Bool) (more : List Ql31.Bits) (v4 : Option V), σ = [some (.ref a), some (.ref c), some (.int (b : Int)), some (.int (d.toNat : Int)), v4] ∧
      But fl H H' ∧ H' l = some (.lst (natsV (chg r ++ [r.length]))) ∧ H' fl = some (.lst (textsV (found ++ more))) ∧ more.flatten ++ aloneC b d ((chg r ++ [r.length]).drop i) = Ql31.rowAlone r ∧ more.length ≤ more.flatten.length ∧ ∀ y ∈ (chg r ++ [r.length]).drop i, b ≤ y)
      ⟨0, false, [], none, rfl, s1.but, hl1, ?_, ?_, Nat.le_refl _, fun y _ => Nat.zero_le _⟩ (fun i σ H' _ ⟨_, _, _, _, _, _, h, _⟩ => SqL.of h) ?_ ?_⟩
    · rw [List.append_nil]
      exact s1 _ _ W.fnd
    · rw [rowAlone_is]
      rfl
    · rintro i x σ H' hx ⟨b, d, more, v4, rfl, bt, hl, hf, eq, hm, hb⟩
      generalize hLL : chg r ++ [r.length] = L at *
      have hsrt : L.Pairwise (· < ·) := hLL ▸ chg_w_sorted r
      obtain ⟨p, hp, rfl⟩ : ∃ p, L[i]? = some p ∧ x = V.int (p : Int) := by
        rw [List.getElem?_map] at hx
        cases e : L[i]? with
        | none => rw [e] at hx; cases hx
        | some p => rw [e] at hx; exact ⟨p, rfl, (Option.some.inj hx).symm⟩
      obtain ⟨hi, ep⟩ := List.getElem?_eq_some_iff.mp hp
      have ed : L.drop i = p :: L.drop (i + 1) := by rw [List.drop_eq_getElem_cons hi, ep]
      have hbp : b ≤ p := hb p (by rw [ed]; exact List.mem_cons_self)
      have hpw : p ≤ r.length := by
        have hm2 : p ∈ L := List.mem_of_getElem? hp
        rw [← hLL, List.mem_append, List.mem_singleton] at hm2
        rcases hm2 with z | z
        · exact Nat.le_of_lt (chg_lt r p z)
        · exact Nat.le_of_eq z
      rw [ed] at eq
      have eq2 : more.flatten ++ (Ql31.run d (p - b) ++ aloneC p (!d) (L.drop (i + 1))) = Ql31.rowAlone r := eq
      have hrl := run_le d (p - b)
      have htot := congrArg List.length eq2
      rw [List.length_append, List.length_append] at htot
      have W' := W.next bt hf
      refine ⟨_, rfl, a, dx, _, rfl, W'.obj, wrF_no _ _ _ (by decide +kernel) (by decide +kernel) (by decide +kernel), _, rfl, _, rfl, _, rfl, _, _, rfl, rfl, a, dx, tb, d0, d1, fl, r.length, found ++ more, d, p - b, ?_, W', ?_, by omega, ?_⟩
      · have : (p : Int) - (b : Int) = ((p - b : Nat) : Int) := by omega
        show [V.ref a, V.int (d.toNat : Int), V.int ((p : Int) - (b : Int))] = _
        rw [this]
      · rw [List.length_append]
        exact Nat.lt_of_le_of_lt (show found.length + more.length ≤ 16000000 by omega) (by decide)
      · refine ⟨_, rfl, _, rfl, _, _, rfl, rfl, _, _, rfl, ?_⟩
        refine ⟨p, !d, more ++ [Ql31.run d (p - b)], some (.int (p : Int)), ?_, bt.trans but_upd, ?_, ?_, ?_, ?_, fun y hy => ?_⟩
        · rw [← flip_int]
          rfl
        · rw [upd_ne nfl]
          exact hl
        · rw [← List.append_assoc]
          exact upd_same
        · rw [List.flatten_append, List.append_assoc]
          simpa using eq2
        · rw [List.flatten_append, List.length_append, List.length_append]
          have : ([Ql31.run d (p - b)] : List Ql31.Bits).flatten = Ql31.run d (p - b) := by simp
          rw [this, List.length_singleton]
          omega
        · obtain ⟨j, hj, ej⟩ := List.getElem_of_mem hy
          rw [List.getElem_drop] at ej
          rw [List.length_drop] at hj
          have := sorted_lt hsrt (show i + 1 + j < L.length by omega) (show i < i + 1 + j by omega)
          omega
    · rintro σ H' ⟨b, d, more, v4, rfl, bt, hl, hf, eq, hm, hb⟩
      rw [List.length_map, List.drop_length] at eq
      have eq2 : more.flatten = Ql31.rowAlone r := by simpa [aloneC] using eq
      exact q H' ⟨more, bt, hf, eq2, by rw [← eq2]; exact hm⟩
end
end Fax1
set_option Elab.async false
set_option linter.all false
set_option maxRecDepth 100000
set_option maxHeartbeats 4000000
namespace Fax1
open PySem PySem.Spec PyProof.Rows L2 Fax
def spBytes (C : Addr) : Sp := fun vs H Q _ => ∃ (a dx tb d0 d1 fl : Addr) (w : Nat) (found : List Ql31.Bits), vs = [.ref a] ∧ Wr C H a dx tb d0 d1 fl w found ∧ found.flatten.length ≤ 16000000 ∧
  ∀ (H' : Hp) (p : Addr), Same H H' → H' p = some (.lst (natsV (bytesN (padded found.flatten)))) → Q (.ref p) H'
theorem scBytes : FnScope ["self", "text", "found", "byte", "number", "sign"] ["self"] (defScope sBytes) := ⟨rfl, rfl, rfl, by decide +kernel, rfl, by decide +kernel, by decide +kernel⟩
theorem sum_lens : ∀ l : List Ql31.Bits, ((l.map T).map (·.length)).sum = l.flatten.length
  | [] => rfl
  | b :: l => by
    rw [List.map_cons, List.map_cons, List.sum_cons, sum_lens l, List.flatten_cons, List.length_append, T_len]
theorem empty_is : ("" : Str) = Str.empty := by decide +kernel
theorem zero_is : ("0" : Str) = T [false] := by decide +kernel
theorem mul_zero (k : Nat) (hk : k < 8) : Txt.mul (T [false]) (k : Int) = T (List.replicate k false) := by
  match k, hk with
  | 0, _ => decide +kernel
  | 1, _ => decide +kernel
  | 2, _ => decide +kernel
  | 3, _ => decide +kernel
  | 4, _ => decide +kernel
  | 5, _ => decide +kernel
  | 6, _ => decide +kernel
  | 7, _ => decide +kernel
theorem sign_eq (x : Bool) : decide (V.str ⟨#[if x = true then 49 else 48]⟩ = V.str ("1" : Str)) = x := by cases x <;> decide +kernel
section
variable {P : Program} {w : World} {K : PySem.W.Frag} {mg : Str → Option Value} {base : Heap} {C fI fP fR fA fB fY : Addr}
theorem ok_bytes {f : Addr} {fd : FuncData} (F : Fun K "put_bytes" "Writer.put_bytes" sBytes f fd) (TX : Txt K mg) (TW : WrT K mg C fI fP fR fA fB fY) : FnOk P w K mg base CX0 1 f fd ["self"] (spBytes C) := by
  refine F.ok scBytes (fun vs H Q E h => ?_) (fun cdv A outer s H vs Q E hr h => ?_)
  · obtain ⟨a, dx, tb, d0, d1, fl, w, found, rfl, _⟩ := h
    rfl
  · obtain ⟨a, dx, tb, d0, d1, fl, wd, found, rfl, W, hl, q⟩ := h
    refine ⟨_, pss_cons (ps_set (i := 1) scBytes.nd rfl (.inl rfl) (pe_join pe_str (pe_fld (pv 0) rfl)))
      (pss_cons (ps_set (i := 1) scBytes.nd rfl (.inl rfl) (pe_op op_add_str (pv 1) (pe_op op_mul_str pe_str (pe_op op_mod (pe_op op_sub pe_int (pe_callB call_len_str (by rfl) TX.len PySem.boot_len (pa_cons (pv 1) pa_nil))) pe_int))))
      (pss_cons (ps_par (i := 2) (j := 3) rfl scBytes.nd rfl rfl (by decide) rfl rfl (pa_cons (pe_lst pa_nil) (pa_cons pe_int pa_nil)) (by rfl))
      (pss_cons (ps_for PassesOwn.never rfl (pi_enumS (by rfl) TX.enum (pa_cons (pv 1) pa_nil))
          (pg_tup rfl (pgs_cons (pg_name (i := 4) scBytes.nd rfl (.inl rfl)) (pgs_cons (pg_name (i := 5) scBytes.nd rfl (.inl rfl)) pgs_nil)))
          (pss_cons (ps_set (i := 3) scBytes.nd rfl (.inl rfl) (pe_op op_add (pe_op op_mul pe_int (pv 3)) (pe_ifExp (pt_cmpR op_eq (pv 5) pe_str (nomark _)) pe_int pe_int)))
          (pss_one (ps_if (pt_cmpR op_eq (pe_op op_mod (pv 4) pe_int) pe_int (nomark _))
            (pss_cons (ps_expr (pe_bm PySem.F.plainAttrs_list PySem.F.slot_list_append PySem.F.type_list_append mt_append (pv 2) (pa_cons (pv 3) pa_nil)))
            (pss_one (ps_set (i := 3) scBytes.nd rfl (.inl rfl) pe_int))) pss_nil))))
      (pss_one (ps_ret (pv 2)))))), ?_⟩
    -- text = "".join(self.found)
    have ej : Txt.join (Str.ofString "") (found.map T) = T found.flatten := by
      rw [empty_is, show Txt.join Str.empty (found.map T) = Str.join Str.empty (found.map T) from PySem.StrLaws.glued_eq_join _ _]
      exact join_T found
    refine ⟨⟨_, rfl⟩, _, rfl, a, C, dx, _, _, rfl, W.obj, TW.cl, TW.nF, wrF_f _ _ _, _, fl, found.map T, rfl, rfl, .inl (SqL.of (by rw [List.map_map]; exact W.fnd)), ?_, ?_⟩
    · rw [sum_lens, empty_is]
      show found.flatten.length + _ * 0 ≤ 16777216
      omega
    rw [ej]
    generalize found.flatten = bits at *
    -- the zeros
    have hz : ((0 : Int) - (bits.length : Int)) % 8 = (((8 - bits.length % 8) % 8 : Nat) : Int) := by omega
    have hTl : (T bits).length = bits.length := T_len bits
    refine ⟨_, rfl, _, rfl, _, rfl, (by rw [hTl]; exact Nat.le_trans hl (by decide)), _, _, rfl, rfl, _, _, rfl, rfl, (by show (0 : Int) < 8; decide), _, _, rfl, rfl, ?_, ?_, (by decide +kernel), _, _, rfl, rfl, ?_, ?_⟩
    · show (0 : Int) ≤ (0 - ((T bits).length : Int)) % 8
      omega
    · show (0 - ((T bits).length : Int)) % 8 ≤ 1000
      omega
    · show (T bits).length + (Txt.mul ("0" : Str) ((0 - ((T bits).length : Int)) % 8)).length ≤ sizeLine
      rw [hTl, hz, zero_is, mul_zero _ (by omega), T_len, List.length_replicate]
      exact Nat.le_trans (show bits.length + (8 - bits.length % 8) % 8 ≤ 16000007 by omega) (by decide)
    have ep : T bits ++ Txt.mul ("0" : Str) ((0 - ((T bits).length : Int)) % 8) = T (padded bits) := by
      rw [hTl, hz, zero_is, mul_zero _ (by omega), T_append]
      rfl
    dsimp only
    rw [ep]
    have hpl := padded_len bits
    generalize hpb : padded bits = pb at *
    -- found, byte = [], 0
    refine ⟨Nat.zero_le _, fun o no => ⟨_, _, rfl, ?_⟩⟩
    have s1 : Same H (upd H o (.lst [])) := same_upd no
    have hsz : (T pb).cps.size = pb.length := T_len pb
    refine ⟨_, rfl, T pb, rfl, for_enumS (x := T pb) (fun i σ H' => ∃ v4 v5, σ = [some (.ref a), some (.str (T pb)), some (.ref o), some (.int ((packed pb i).2 : Int)), v4, v5] ∧ Same H H' ∧ H' o = some (.lst (natsV (packed pb i).1)) ∧ i ≤ pb.length) ⟨none, none, rfl, s1, upd_same, Nat.zero_le _⟩ ?_ ?_⟩
    · rintro i c TT σ H' hc nT ⟨v4, v5, rfl, sm, ho, hile⟩
      obtain ⟨x, hx, rfl⟩ : ∃ x, pb[i]? = some x ∧ c = if x = true then 49 else 48 := by
        have h1 : (Fax.signs pb).toArray[i]? = some c := hc
        rw [List.getElem?_toArray, Fax.signs, List.getElem?_map] at h1
        cases e : pb[i]? with
        | none => rw [e] at h1; cases h1
        | some x => rw [e] at h1; exact ⟨x, rfl, (Option.some.inj h1).symm⟩
      have hi : i < pb.length := (List.getElem?_eq_some_iff.mp hx).1
      have st := packed_step pb i x hx
      have m1 : o ≠ TT := ne_of_none ho nT
      have smT : Same H (upd H' TT (.tup [.int (i : Nat), .str ⟨#[if x = true then 49 else 48]⟩])) := sm.trans (same_upd nT)
      have hoT : upd H' TT (.tup [.int (i : Nat), .str ⟨#[if x = true then 49 else 48]⟩]) o = some (.lst (natsV (packed pb i).1)) := by
        rw [upd_ne m1]
        exact ho
      refine ⟨TT, _, rfl, .inl (.inl upd_same), rfl, _, _, rfl, _, _, rfl, rfl, ?_⟩
      generalize upd H' TT (.tup [.int (i : Nat), .str ⟨#[if x = true then 49 else 48]⟩]) = H2 at smT hoT
      refine ⟨_, rfl, _, _, rfl, rfl, .inl (by decide), _, rfl, rfl, _, rfl, ?_⟩
      have e1 := sign_eq x
      rw [e1]
      have hlen1 : (natsV (packed pb i).1).length < sizeLine := by
        rw [List.length_map]
        have : (packed pb i).1.length = i / 8 := by simp [packed]
        exact Nat.lt_of_le_of_lt (show (packed pb i).1.length ≤ 16000007 by omega) (by decide)
      generalize V.str ⟨#[if x = true then 49 else 48]⟩ = sv
      cases x
      all_goals
        first
        | refine iteF ?_
        | refine iteT ?_
        refine ⟨_, _, rfl, rfl, ?_⟩
        refine ⟨_, rfl, _, _, rfl, rfl, (by show (0 : Int) < 8; decide), rfl, _, rfl, ?_⟩
        by_cases h7 : i % 8 = 7
        · have h7' : V.int ((i : Int) % 8) = V.int 7 := congrArg V.int (by omega)
          refine if_yes h7' ?_
          rw [if_pos h7] at st
          refine ⟨_, rfl, .inl ⟨rfl, _, .inl (.inl hoT)⟩, _, rfl, o, _, _, rfl, rfl, hoT, hlen1, ?_⟩
          refine ⟨some (.int (i : Nat)), some sv, ?_, ?_, ?_, hi⟩
          · rw [st]
            rfl
          · intro b ob e
            rw [upd_ne (ne_of_none e no)]
            exact smT b ob e
          · rw [st, ← natsV_snoc]
            exact upd_same
        · have h7' : ¬ V.int ((i : Int) % 8) = V.int 7 := fun e => h7 (by have := V.int.inj e; omega)
          refine if_no h7' ?_
          rw [if_neg h7] at st
          refine ⟨some (.int (i : Nat)), some sv, ?_, smT, ?_, hi⟩
          · rw [st]
            rfl
          · rw [st]
            exact hoT
    · rintro σ H' ⟨v4, v5, rfl, sm, ho, _⟩
      rw [hsz] at ho
      refine ⟨_, rfl, q H' o sm ?_⟩
      rw [← packed_all pb (by omega)]
      exact ho
end
end Fax1
set_option Elab.async false
set_option linter.all false
set_option maxRecDepth 100000
set_option maxHeartbeats 4000000
namespace Fax1
open PySem PySem.Spec PyProof.Rows L2 Fax
def spBy (C : Addr) : Sp := fun vs H Q _ => ∃ (a dx tb d0 d1 fl c b : Addr) (r above : List Bool) (found : List Ql31.Bits), vs = [.ref a, .ref c, .ref b] ∧ Wr C H a dx tb d0 d1 fl r.length found ∧ 0 < r.length ∧ r.length ≤ 16384 ∧ above.length = r.length ∧
  H c = some (.lst (natsV (chg r))) ∧ H b = some (.lst (natsV (chg above))) ∧ c ≠ fl ∧ b ≠ fl ∧ found.length + (Ql31.rowBeside above r).length ≤ 16000000 ∧ ∀ H', Wrote fl H found (Ql31.rowBeside above r) H' → Q .non H'
theorem scBy : FnScope ["self", "changes", "before", "own", "above", "place", "colour", "first", "second", "one", "two"] ["self", "changes", "before"] (defScope sBy) := ⟨rfl, rfl, rfl, by decide +kernel, rfl, by decide +kernel, by decide +kernel⟩
theorem straight_at (d : Int) (h : -3 ≤ d ∧ d ≤ 3) : atI straights (d + 3) = some (.str (T (Ql31.vertical d))) := by
  have : d = -3 ∨ d = -2 ∨ d = -1 ∨ d = 0 ∨ d = 1 ∨ d = 2 ∨ d = 3 := by omega
  rcases this with rfl | rfl | rfl | rfl | rfl | rfl | rfl <;> decide +kernel
theorem pass_is : ("0001" : Str) = T Ql31.PASS := by decide +kernel
theorem across_is : ("001" : Str) = T Ql31.ACROSS := by decide +kernel
/-- what both hands back, in the specification's words -/
theorem turn_of {above r : List Bool} {a : Int} {d : Bool} {j1 j2 : Nat} (hl : above.length = r.length) (hs : Stands r a d) (h1 : Spot (chg above) a j1) (h2 : Spot (chg r) a j2) :
    Turn above r a d ((chg above).getD (pick j1 d) r.length) ((chg above).getD (pick j1 d + 1) r.length) ((chg r).getD (pick j2 d) r.length) ((chg r).getD (pick j2 d + 1) r.length) := by
  obtain ⟨e1, e2⟩ := both_is above a d j1 h1
  obtain ⟨e3, e4⟩ := both_is r a d j2 h2
  rw [hl] at e1 e2
  refine ⟨e1.symm, ?_, ?_, ?_⟩
  · rw [← e1]
    exact e2.symm
  · rw [other_is_change r a d hs]
    exact e3.symm
  · rw [← e3]
    exact e4.symm
section
variable {P : Program} {w : World} {K : PySem.W.Frag} {mg : Str → Option Value} {base : Heap} {C fI fP fR fA fB fY : Addr} {CA gI gA gB : Addr}
theorem ok_by {f : Addr} {fd fdR fdP fdI fdB : FuncData} (F : Fun K "put_by" "Writer.put_by" sBy f fd) (TX : Txt K mg) (TS : Straight K mg) (TW : WrT K mg C fI fP fR fA fB fY) (TA : AbT K mg CA gI gA gB)
    (GR : FnOk P w K mg base CX0 2 fR fdR ["self", "colour", "length"] (spPutRun C)) (bR : Binds K fdR ["self", "colour", "length"] [])
    (GP : FnOk P w K mg base CX0 1 fP fdP ["self", "code"] (spPut C)) (bP : Binds K fdP ["self", "code"] [])
    (GI : FnOk P w K mg base CX0 1 gI fdI ["self", "changes", "width"] (spAbI CA)) (bI : Binds K fdI ["self", "changes", "width"] [])
    (GB : FnOk P w K mg base CX0 2 gB fdB ["self", "place", "colour"] (spBoth CA)) (bB : Binds K fdB ["self", "place", "colour"] []) : FnOk P w K mg base CX0 3 f fd ["self", "changes", "before"] (spBy C) := by
  refine F.ok scBy (fun vs H Q E h => ?_) (fun cdv A outer s H vs Q E hr h => ?_)
  · obtain ⟨a, dx, tb, d0, d1, fl, c, b, r, above, found, rfl, _⟩ := h
    rfl
  · obtain ⟨a, dx, tb, d0, d1, fl, c, b, r, above, found, rfl, W, h0, hw, hal, hc, hb, ncf, nbf, hlen, q⟩ := h
    have hr1 : Room 1 _ := hr.mono (by decide)
    obtain ⟨tp, mp⟩ := TX.pass
    obtain ⟨ta, ma⟩ := TX.across
    obtain ⟨aS, mS, hS⟩ := TS.is
    refine ⟨_, pss_cons (ps_par (i := 3) (j := 4) rfl scBy.nd rfl rfl (by decide) rfl rfl (pa_cons (pe_make TA.mkr GI hr rfl TA.g bI .nil pass0 (pa_cons (pv 1) (pa_cons (pe_fld (pv 0) rfl) pa_nil)))
          (pa_cons (pe_make TA.mkr GI hr rfl TA.g bI .nil pass0 (pa_cons (pv 2) (pa_cons (pe_fld (pv 0) rfl) pa_nil))) pa_nil)) (by rfl))
      (pss_cons (ps_asg (pe_tup (pa_cons (pe_un un_neg pe_int) (pa_cons pe_int pa_nil))) (pg_tup rfl (pgs_cons (pg_name (i := 5) scBy.nd rfl (.inl rfl)) (pgs_cons (pg_name (i := 6) scBy.nd rfl (.inl rfl)) pgs_nil))))
      (pss_one (ps_while PassesOwn.never (pt_cmpR op_lt (pv 5) (pe_fld (pv 0) rfl) (nomark _))
        (pss_cons (ps_asg (pe_meth (pv 4) TA.cl TA.mBoth GB hr bB .nil pass0 (pa_cons (pv 5) (pa_cons (pv 6) pa_nil))) (pg_tup rfl (pgs_cons (pg_name (i := 7) scBy.nd rfl (.inl rfl)) (pgs_cons (pg_name (i := 8) scBy.nd rfl (.inl rfl)) pgs_nil))))
        (pss_cons (ps_asg (pe_meth (pv 3) TA.cl TA.mBoth GB hr bB .nil pass0 (pa_cons (pv 5) (pa_cons (pv 6) pa_nil))) (pg_tup rfl (pgs_cons (pg_name (i := 9) scBy.nd rfl (.inl rfl)) (pgs_cons (pg_name (i := 10) scBy.nd rfl (.inl rfl)) pgs_nil))))
        (pss_one (ps_if (pt_cmpR op_lt (pv 8) (pv 9) (nomark _))
          (pss_cons (ps_expr (pe_meth (pv 0) TW.cl TW.mPut GP hr1 bP .nil pass0 (pa_cons (pe_glob rfl mp (rel_str _ _)) pa_nil))) (pss_one (ps_set (i := 5) scBy.nd rfl (.inl rfl) (pv 8))))
          (pss_one (ps_if (pt_chain op_le op_le (pe_un un_neg pe_int) (pe_op op_sub (pv 9) (pv 7)) pe_int)
            (pss_cons (ps_expr (pe_meth (pv 0) TW.cl TW.mPut GP hr1 bP .nil pass0 (pa_cons (pe_ix ix_tup (pe_glob rfl mS (rel_ref _)) (pe_op op_add (pe_op op_sub (pv 9) (pv 7)) pe_int) (fun _ _ => rfl)) pa_nil)))
              (pss_one (ps_par (i := 5) (j := 6) rfl scBy.nd rfl rfl (by decide) rfl rfl (pa_cons (pv 9) (pa_cons (pe_op op_sub pe_int (pv 6)) pa_nil)) (by rfl))))
            (pss_cons (ps_expr (pe_meth (pv 0) TW.cl TW.mPut GP hr1 bP .nil pass0 (pa_cons (pe_glob rfl ma (rel_str _ _)) pa_nil)))
            (pss_cons (ps_expr (pe_meth (pv 0) TW.cl TW.mRun GR hr bR .nil pass0 (pa_cons (pv 6) (pa_cons (pe_op op_sub (pv 9) (pe_callB (call_max2 rfl) (by rfl) TX.max (by decide +kernel) (pa_cons (pv 5) (pa_cons pe_int pa_nil)))) pa_nil))))
            (pss_cons (ps_expr (pe_meth (pv 0) TW.cl TW.mRun GR hr bR .nil pass0 (pa_cons (pe_op op_sub pe_int (pv 6)) (pa_cons (pe_op op_sub (pv 10) (pv 9)) pa_nil))))
            (pss_one (ps_set (i := 5) scBy.nd rfl (.inl rfl) (pv 10))))))))))))))), ?_⟩
    -- own, above = Above(changes, self.width), Above(before, self.width)
    refine ⟨_, rfl, _, rfl, a, C, dx, _, _, rfl, W.obj, TW.cl, TW.nW, wrF_w _ _ _, ?_⟩
    intro x1 e1 nx1 ne1 nd1
    refine ⟨x1, e1, c, r.length, rfl, upd_same, fun H1 hx1 k1 => ⟨rfl, ?_⟩⟩
    have s1 : Same H H1 := Same.made nx1 ne1 fun b o e hb => k1 b o hb e
    refine ⟨_, rfl, _, rfl, a, C, dx, _, _, rfl, s1 _ _ W.obj, TW.cl, TW.nW, wrF_w _ _ _, ?_⟩
    intro x2 e2 nx2 ne2 nd2
    refine ⟨x2, e2, b, r.length, rfl, upd_same, fun H2 hx2 k2 => ⟨rfl, ?_⟩⟩
    have s2 : Same H1 H2 := Same.made nx2 ne2 fun b o e hb => k2 b o hb e
    have nHx2 : H x2 = none := s1.free nx2
    have n12 : x1 ≠ x2 := ne_of_none hx1 nx2
    have hx1' := s2 _ _ hx1
    refine ⟨_, _, rfl, ?_⟩
    -- place, colour = -1, 0
    refine ⟨_, rfl, (by show 2 ≤ sizeLine; decide), fun t nt => ?_⟩
    refine ⟨t, _, rfl, .inl (.inl upd_same), rfl, _, _, rfl, _, _, rfl, rfl, ?_⟩
    have s3 : Same H (upd H2 t (.tup [.int (-1), .int 0])) := s1.trans (s2.trans (same_upd nt))
    have hx1'' : upd H2 t (.tup [.int (-1), .int 0]) x1 = some (.ins CA e1 (abF c r.length 0)) := same_upd nt _ _ hx1'
    have hx2'' : upd H2 t (.tup [.int (-1), .int 0]) x2 = some (.ins CA e2 (abF b r.length 0)) := same_upd nt _ _ hx2
    generalize upd H2 t (.tup [.int (-1), .int 0]) = H3 at s3 hx1'' hx2''
    have xf1 : x1 ≠ fl := (ne_of_none W.fnd nx1).symm
    have xf2 : x2 ≠ fl := (ne_of_none W.fnd nHx2).symm
    refine ⟨fun m σ H' => ∃ (p : Int) (d : Bool) (z1 z2 : Nat) (more : List Ql31.Bits) (v7 v8 v9 v10 : Option V), σ = [some (.ref a), some (.ref c), some (.ref b), some (.ref x1), some (.ref x2), some (.int p), some (.int (d.toNat : Int)), v7, v8, v9, v10] ∧
      But fl H H' ∧ H' x1 = some (.ins CA e1 (abF c r.length z1)) ∧ z1 ≤ (chg r).length ∧ H' x2 = some (.ins CA e2 (abF b r.length z2)) ∧ z2 ≤ (chg above).length ∧ H' fl = some (.lst (textsV (found ++ more))) ∧
      more.flatten ++ bes above r p d = Ql31.rowBeside above r ∧ more.length ≤ more.flatten.length ∧ (p < r.length → Stands r p d) ∧ -1 ≤ p ∧ m = ((r.length : Int) - p).toNat,
      ⟨_, -1, false, 0, 0, [], none, none, none, none, rfl, s3.but, hx1'', Nat.zero_le _, hx2'', Nat.zero_le _, ?_, (rowBeside_is above r hal).symm, Nat.le_refl _, fun _ => stands_start r h0, by decide, rfl⟩, ?_⟩
    · rw [List.append_nil]
      exact s3 _ _ W.fnd
    rintro m σ H' ⟨p, d, z1, z2, more, v7, v8, v9, v10, rfl, bt, h1, hz1, h2, hz2, hf, eq, hm, hst, hp1, hmm⟩
    have W' := W.next bt hf
    refine ⟨_, rfl, _, rfl, a, C, dx, _, _, rfl, W'.obj, TW.cl, TW.nW, wrF_w _ _ _, _, _, rfl, rfl, _, rfl, ?_⟩
    have htot := congrArg List.length eq
    rw [List.length_append] at htot
    by_cases hpw : p < r.length
    · refine if_yes hpw ?_
      have hst := hst hpw
      refine ⟨_, fun _ _ h => h, ?_⟩
      -- first, second = above.both(place, colour)
      refine ⟨_, rfl, x2, e2, _, rfl, h2, abF_both _ _ _, _, rfl, _, rfl, x2, e2, b, r.length, z2, chg above, p, d, rfl, h2, bt _ _ nbf hb, chg_sorted _, hz2, fun H4 t1 j1 hS1 bt4 hx4 ht1 => ?_⟩
      refine ⟨t1, _, rfl, .inl (.inl ht1), rfl, _, _, rfl, _, _, rfl, rfl, ?_⟩
      have h14 := bt4 _ _ n12 h1
      have hc4 : H4 c = some (.lst (natsV (chg r))) := bt4 _ _ (ne_of_none hc nHx2) (bt _ _ ncf hc)
      -- one, two = own.both(place, colour)
      refine ⟨_, rfl, x1, e1, _, rfl, h14, abF_both _ _ _, _, rfl, _, rfl, x1, e1, c, r.length, z1, chg r, p, d, rfl, h14, hc4, chg_sorted _, hz1, fun H5 t2 j2 hS2 bt5 hx5 ht2 => ?_⟩
      refine ⟨t2, _, rfl, .inl (.inl ht2), rfl, _, _, rfl, _, _, rfl, rfl, ?_⟩
      have hx25 := bt5 _ _ n12.symm hx4
      have bt' : But fl H H5 := fun y o n e => bt5 y o (ne_of_none e nx1) (bt4 y o (ne_of_none e nHx2) (bt y o n e))
      have hf5 : H5 fl = some (.lst (textsV (found ++ more))) := bt5 _ _ xf1.symm (bt4 _ _ xf2.symm hf)
      have T := turn_of hal hst hS1 hS2
      have hj1 := hS1.1
      have hj2 := hS2.1
      have W5 := W.next bt' hf5
      generalize (chg above).getD (pick j1 d) r.length = b1 at T ⊢
      generalize (chg above).getD (pick j1 d + 1) r.length = b2 at T ⊢
      generalize (chg r).getD (pick j2 d) r.length = a1 at T ⊢
      generalize (chg r).getD (pick j2 d + 1) r.length = a2 at T ⊢
      obtain ⟨g1, g2, g3, g4, g5⟩ := T.a1_gt hst.1
      have hlt : ∀ k, k ≤ 2 → (found ++ more).length + k < sizeLine := fun k hk => by
        rw [List.length_append]
        exact Nat.lt_of_le_of_lt (show found.length + more.length + k ≤ 16000002 by omega) (by decide)
      -- if second < one
      refine ⟨_, rfl, _, rfl, _, _, rfl, rfl, _, rfl, ?_⟩
      by_cases q1 : b2 < a1
      · refine if_yes (by omega) ?_
        obtain ⟨be, bs, bg⟩ := bes_pass hal hst T q1
        refine ⟨_, rfl, a, dx, _, rfl, W5.obj, wrF_no _ _ _ (by decide +kernel) (by decide +kernel) (by decide +kernel), a, dx, tb, d0, d1, fl, r.length, found ++ more, Ql31.PASS, by rw [pass_is]; rfl, W5, hlt 0 (by decide), ?_⟩
        refine ⟨_, rfl, ?_⟩
        refine ⟨_, ?_, b2, d, j2, j1, more ++ [Ql31.PASS], some (.int (b1 : Int)), some (.int (b2 : Int)), some (.int (a1 : Int)), some (.int (a2 : Int)), rfl, bt'.trans but_upd, ?_, hj2, ?_, hj1, ?_, ?_, ?_, fun _ => bs, by omega, rfl⟩
        · omega
        · rw [upd_ne xf1]; exact hx5
        · rw [upd_ne xf2]; exact hx25
        · rw [← List.append_assoc]; exact upd_same
        · rw [List.flatten_append, List.append_assoc, ← eq, be]
          simp
        · rw [List.flatten_append, List.length_append, List.length_append]
          have : ([Ql31.PASS] : List Ql31.Bits).flatten.length = 4 := by decide +kernel
          rw [this, List.length_singleton]
          omega
      · refine if_no (by omega) ?_
        refine ⟨_, rfl, _, rfl, _, rfl, _, _, rfl, rfl, _, _, rfl, rfl, _, rfl, chain2 (y := (a1 : Int) - (b1 : Int)) rfl (fun q2 => ?_) (fun q2 => ?_)⟩
        · -- a straight one
          refine ⟨_, rfl, iteT ?_⟩
          obtain ⟨be, bs, bg⟩ := bes_straight hal hst T q1 q2
          refine ⟨_, rfl, a, dx, _, rfl, W5.obj, wrF_no _ _ _ (by decide +kernel) (by decide +kernel) (by decide +kernel), _, rfl, _, rfl, _, _, rfl, rfl, _, _, rfl, rfl, aS, _, _, _, rfl, rfl, hS _, straight_at _ q2,
            a, dx, tb, d0, d1, fl, r.length, found ++ more, Ql31.vertical ((a1 : Int) - b1), rfl, W5, hlt 0 (by decide), ?_⟩
          refine ⟨_, rfl, _, rfl, _, _, rfl, rfl, _, _, rfl, ?_⟩
          refine ⟨_, ?_, a1, !d, j2, j1, more ++ [Ql31.vertical ((a1 : Int) - b1)], some (.int (b1 : Int)), some (.int (b2 : Int)), some (.int (a1 : Int)), some (.int (a2 : Int)), ?_, bt'.trans but_upd, ?_, hj2, ?_, hj1, ?_, ?_, ?_, fun z => bs (by omega), by omega, rfl⟩
          · omega
          · rw [← flip_int]
            rfl
          · rw [upd_ne xf1]; exact hx5
          · rw [upd_ne xf2]; exact hx25
          · rw [← List.append_assoc]; exact upd_same
          · rw [List.flatten_append, List.append_assoc, ← eq, be]
            simp
          · rw [List.flatten_append, List.length_append, List.length_append]
            have h1 := vertical_pos _ q2
            have : ([Ql31.vertical ((a1 : Int) - b1)] : List Ql31.Bits).flatten = Ql31.vertical ((a1 : Int) - b1) := by simp
            rw [this, List.length_singleton]
            omega
        · -- across
          refine ⟨_, rfl, iteF ?_⟩
          obtain ⟨be, bs, bg⟩ := bes_across hal hst T q1 q2
          refine ⟨_, rfl, a, dx, _, rfl, W5.obj, wrF_no _ _ _ (by decide +kernel) (by decide +kernel) (by decide +kernel), a, dx, tb, d0, d1, fl, r.length, found ++ more, Ql31.ACROSS, by rw [across_is]; rfl, W5, hlt 0 (by decide), ?_⟩
          have W6 := W5.next but_upd (upd_same (o := .lst (textsV (found ++ more ++ [Ql31.ACROSS]))))
          refine ⟨_, rfl, a, dx, _, rfl, W6.obj, wrF_no _ _ _ (by decide +kernel) (by decide +kernel) (by decide +kernel), _, rfl, _, rfl, _, rfl, p, 0, rfl, _, _, rfl, rfl,
            a, dx, tb, d0, d1, fl, r.length, found ++ more ++ [Ql31.ACROSS], d, a1 - (max p 0).toNat, ?_, W6, by have := hlt 1 (by decide); rw [List.length_append]; exact this, by omega, ?_⟩
          · have : (a1 : Int) - (if 0 > p then 0 else p) = ((a1 - (max p 0).toNat : Nat) : Int) := by
              split <;> omega
            show [V.ref a, V.int (d.toNat : Int), V.int ((a1 : Int) - (if 0 > p then 0 else p))] = _
            rw [this]
          have W7 := W6.next but_upd (upd_same (o := .lst (textsV (found ++ more ++ [Ql31.ACROSS] ++ [Ql31.run d (a1 - (max p 0).toNat)]))))
          refine ⟨_, rfl, a, dx, _, rfl, W7.obj, wrF_no _ _ _ (by decide +kernel) (by decide +kernel) (by decide +kernel), _, rfl, _, _, rfl, rfl, _, rfl, _, rfl, _, _, rfl, rfl,
            a, dx, tb, d0, d1, fl, r.length, found ++ more ++ [Ql31.ACROSS] ++ [Ql31.run d (a1 - (max p 0).toNat)], !d, a2 - a1, ?_, W7, by have := hlt 2 (by decide); rw [List.length_append, List.length_append]; exact this, by omega, ?_⟩
          · have : (a2 : Int) - (a1 : Int) = ((a2 - a1 : Nat) : Int) := by omega
            show [V.ref a, V.int ((1 : Int) - (d.toNat : Int)), V.int ((a2 : Int) - (a1 : Int))] = _
            rw [this, flip_int]
          refine ⟨_, rfl, ?_⟩
          refine ⟨_, ?_, a2, d, j2, j1, more ++ [Ql31.ACROSS, Ql31.run d (a1 - (max p 0).toNat), Ql31.run (!d) (a2 - a1)], some (.int (b1 : Int)), some (.int (b2 : Int)), some (.int (a1 : Int)), some (.int (a2 : Int)), rfl, ?_, ?_, hj2, ?_, hj1, ?_, ?_, ?_, fun z => bs (by omega), by omega, rfl⟩
          · omega
          · exact bt'.trans (but_upd.trans (but_upd.trans but_upd))
          · rw [upd_ne xf1, upd_ne xf1, upd_ne xf1]; exact hx5
          · rw [upd_ne xf2, upd_ne xf2, upd_ne xf2]; exact hx25
          · have e3 : found ++ (more ++ [Ql31.ACROSS, Ql31.run d (a1 - (max p 0).toNat), Ql31.run (!d) (a2 - a1)]) = found ++ more ++ [Ql31.ACROSS] ++ [Ql31.run d (a1 - (max p 0).toNat)] ++ [Ql31.run (!d) (a2 - a1)] := by simp
            rw [e3]
            exact upd_same
          · rw [List.flatten_append, List.append_assoc, ← eq, be]
            simp
          · rw [List.flatten_append, List.length_append, List.length_append]
            have h1 := (run_le d (a1 - (max p 0).toNat)).1
            have h2 := (run_le (!d) (a2 - a1)).1
            have h3 : Ql31.ACROSS.length = 3 := by decide +kernel
            have : ([Ql31.ACROSS, Ql31.run d (a1 - (max p 0).toNat), Ql31.run (!d) (a2 - a1)] : List Ql31.Bits).flatten = Ql31.ACROSS ++ (Ql31.run d (a1 - (max p 0).toNat) ++ Ql31.run (!d) (a2 - a1)) := by simp
            rw [this, List.length_append, List.length_append]
            show more.length + 3 ≤ _
            omega
    · refine if_no hpw ?_
      rw [bes_end _ _ _ _ (by omega), List.append_nil] at eq
      exact q H' ⟨more, bt, hf, eq, by rw [← eq]; exact hm⟩
end
end Fax1
set_option Elab.async false
set_option linter.all false
set_option maxRecDepth 100000
set_option maxHeartbeats 4000000
namespace Fax1
open PySem PySem.Spec PyProof.Rows L2 Fax
/-- the rows of a picture of numbers -/
def rowN (w : Nat) (l : List Nat) (i : Nat) : Ql31.Row := (bitsNs ((l.drop (i * ((w + 7) / 8))).take ((w + 7) / 8))).take w
def rowsN (w n : Nat) (l : List Nat) : List Ql31.Row := (List.range n).map (rowN w l)
theorem rowsN_len (w n : Nat) (l : List Nat) : (rowsN w n l).length = n := by simp [rowsN]
theorem slice_len (w n : Nat) (l : List Nat) (i : Nat) (hl : l.length = n * ((w + 7) / 8)) (hi : i < n) : i * ((w + 7) / 8) + (w + 7) / 8 ≤ l.length := by
  rw [hl, ← Nat.succ_mul]
  exact Nat.mul_le_mul_right _ hi
theorem rowN_len (w n : Nat) (l : List Nat) (i : Nat) (hl : l.length = n * ((w + 7) / 8)) (hi : i < n) : (rowN w l i).length = w := by
  have := slice_len w n l i hl hi
  unfold rowN
  rw [List.length_take, bitsNs_len, List.length_take, List.length_drop]
  omega
theorem rowsN_w (w n : Nat) (l : List Nat) (hl : l.length = n * ((w + 7) / 8)) : ∀ r ∈ rowsN w n l, r.length = w := by
  intro r hr
  obtain ⟨i, hi, rfl⟩ := List.mem_map.mp hr
  exact rowN_len w n l i hl (List.mem_range.mp hi)
theorem rowsN_drop (w n : Nat) (l : List Nat) (i : Nat) (hi : i < n) : (rowsN w n l).drop i = rowN w l i :: (rowsN w n l).drop (i + 1) := by
  have h : i < (rowsN w n l).length := by rw [rowsN_len]; exact hi
  rw [List.drop_eq_getElem_cons h]
  congr 1
  simp [rowsN]
theorem rowsFrom_rowsN (w n : Nat) (p : List Int) (h : ∀ x ∈ p, 0 ≤ x ∧ x < 256) : Ql31.rowsFrom w n (Ql31Neutral.octets p) = rowsN w n (p.map Int.toNat) := by
  unfold Ql31.rowsFrom rowsN
  refine List.map_congr_left fun i _ => ?_
  unfold Ql31.rowFrom rowN
  rw [octets_slice, bitsFrom_octets _ (fun x hx => h x (List.mem_of_mem_drop (List.mem_of_mem_take hx)))]
  unfold Ql31.stride
  rw [List.map_take, List.map_drop]
/-- is the i-th row alone? -/
def isA (kind k i : Nat) : Bool := decide (kind = 0 ∨ kind = 1 ∧ i % k = 0)
def pre1 (kind : Nat) : Ql31.Bits := if kind < 2 then Ql31.EOL else []
def pre2 (kind : Nat) (a : Bool) : Ql31.Bits := if kind = 1 then [a] else []
def coded (a : Bool) (above r : Ql31.Row) : Ql31.Bits := if a = true then Ql31.rowAlone r else Ql31.rowBeside above r
theorem body_cons (kind k i : Nat) (above r : Ql31.Row) (l : List Ql31.Row) (hk : kind ≤ 2) : body kind k i above (r :: l) = pre1 kind ++ (pre2 kind (isA kind k i) ++ (coded (isA kind k i) above r ++ body kind k (i + 1) r l)) := by
  have h3 : kind = 0 ∨ kind = 1 ∨ kind = 2 := by omega
  rcases h3 with rfl | rfl | rfl
  · show (Ql31.EOL ++ Ql31.rowAlone r) ++ l.flatMap _ = _
    rw [List.append_assoc]
    rfl
  · have e : isA 1 k i = decide (i % k = 0) := by
      unfold isA
      rw [decide_eq_decide]
      omega
    rw [e]
    show (if i % k = 0 then Ql31.EOL ++ (true :: Ql31.rowAlone r) else Ql31.EOL ++ (false :: Ql31.rowBeside above r)) ++ Ql31.rows2 k (i + 1) r l = Ql31.EOL ++ ([decide (i % k = 0)] ++ (coded (decide (i % k = 0)) above r ++ Ql31.rows2 k (i + 1) r l))
    split
    · rename_i h
      rw [decide_eq_true h]
      simp [coded]
    · rename_i h
      rw [decide_eq_false h]
      simp [coded]
  · rfl
def piece (kind : Nat) : Ql31.Bits := if kind = 1 then Ql31.EOL ++ [true] else Ql31.EOL
def ends (kind : Nat) : Nat := if kind = 2 then 2 else 6
theorem tail_is (kind : Nat) (hk : kind ≤ 2) : tail kind = (List.replicate (ends kind) (piece kind)).flatten := by
  have h3 : kind = 0 ∨ kind = 1 ∨ kind = 2 := by omega
  rcases h3 with rfl | rfl | rfl
  · rfl
  · rfl
  · show Ql31.EOL ++ Ql31.EOL = ([Ql31.EOL, Ql31.EOL] : List Ql31.Bits).flatten
    simp
/-- the writer, the row above and what is written so far -/
def Sits (C : Addr) (H H' : Hp) (wr dx tb d0 d1 fl : Addr) (w : Nat) (b : Addr) (above : Ql31.Row) (F : Ql31.Bits) : Prop :=
  ∃ found : List Ql31.Bits, Same H H' ∧ Wr C H' wr dx tb d0 d1 fl w found ∧ H' b = some (.lst (natsV (chg above))) ∧ b ≠ fl ∧ found.flatten = F ∧ found.length ≤ F.length
theorem Sits.put {C : Addr} {H H' : Hp} {wr dx tb d0 d1 fl : Addr} {w : Nat} {b : Addr} {above : Ql31.Row} {F : Ql31.Bits} (hfl : H fl = none) {found : List Ql31.Bits} (sm : Same H H') (W : Wr C H' wr dx tb d0 d1 fl w found) (hb : H' b = some (.lst (natsV (chg above)))) (nb : b ≠ fl)
    (eF : found.flatten = F) (hl : found.length ≤ F.length) (x : Ql31.Bits) (hx : 0 < x.length) : Sits C H (upd H' fl (.lst (textsV (found ++ [x])))) wr dx tb d0 d1 fl w b above (F ++ x) :=
  ⟨found ++ [x], fun y o e => by
    rw [upd_ne (ne_of_none e hfl)]
    exact sm y o e, W.next but_upd upd_same, by rw [upd_ne nb]; exact hb, nb, by rw [List.flatten_append, eF]; simp, by rw [List.length_append, List.length_append]; simp; omega⟩
theorem Sits.wrote {C : Addr} {H H' H2 : Hp} {wr dx tb d0 d1 fl : Addr} {w : Nat} {b : Addr} {above : Ql31.Row} {F x : Ql31.Bits} (hfl : H fl = none) {found : List Ql31.Bits} (sm : Same H H') (W : Wr C H' wr dx tb d0 d1 fl w found) (hb : H' b = some (.lst (natsV (chg above)))) (nb : b ≠ fl)
    (eF : found.flatten = F) (hl : found.length ≤ F.length) (hw : Wrote fl H' found x H2) : Sits C H H2 wr dx tb d0 d1 fl w b above (F ++ x) := by
  obtain ⟨more, bt, hf, em, hm⟩ := hw
  refine ⟨found ++ more, fun y o e => bt y o (ne_of_none e hfl) (sm y o e), W.next bt hf, bt _ _ nb hb, nb, ?_, ?_⟩
  · rw [List.flatten_append, eF, em]
  · rw [List.length_append, List.length_append]
    omega
theorem cut_at (l : List Nat) (lo n : Nat) (h : lo + n ≤ l.length) : cutV (natsV l) (some (lo : Int)) (some ((lo + n : Nat) : Int)) = natsV ((l.drop lo).take n) := by
  unfold cutV
  rw [HT.sIx_nat, HT.sIx_nat, List.length_map, Nat.min_eq_left h, Nat.min_eq_left (show lo ≤ l.length by omega), Nat.add_sub_cancel_left, ← List.map_drop, ← List.map_take]
theorem if_pick {p : Prop} [Decidable p] {x y : V} {σ : L2.St} {H : Hp} {Q : VK} (h : ∀ v, (p ∧ v = x ∨ ¬ p ∧ v = y) → Q v H) : if decide p = true then tC x σ H Q else tC y σ H Q :=
  if_dec (fun hp => h x (.inl ⟨hp, rfl⟩)) (fun hp => h y (.inr ⟨hp, rfl⟩))
theorem line_is : ("000000000001" : Str) = T Ql31.EOL := by decide +kernel
theorem one_is : ("1" : Str) = T [true] := by decide +kernel
def spWritten (K : PySem.W.Frag) : Sp := fun vs H Q _ => ∃ (kind k w n : Nat) (a : Addr) (l : List Nat), vs = [.int (kind : Int), .int (k : Int), .int (w : Int), .int (n : Int), .ref a] ∧ SqL K H a (natsV l) ∧ kind ≤ 2 ∧ 0 < k ∧ 0 < w ∧ w ≤ 16384 ∧ n ≤ 16384 ∧
  l.length = n * ((w + 7) / 8) ∧ l.length ≤ 100000 ∧ (∀ x ∈ l, x < 256) ∧ ∀ (H' : Hp) (p : Addr), Same H H' → H' p = some (.lst (natsV (bytesN (padded (Ql31.page kind k w (rowsN w n l)))))) → Q (.ref p) H'
theorem scWritten : FnScope ["kind", "often", "width", "rows", "picture", "writer", "size", "before", "number", "changes", "is_alone", "turn"] ["kind", "often", "width", "rows", "picture"] (defScope sWritten) := ⟨rfl, rfl, rfl, by decide +kernel, rfl, by decide +kernel, by decide +kernel⟩
section
variable {P : Program} {w : World} {K : PySem.W.Frag} {mg : Str → Option Value} {base : Heap} {C fI fP fR fA fB fY : Addr}
theorem ok_written {f fC : Addr} {fd fdI fdP fdA fdB fdY fdC : FuncData} (F : Fun K "written" "written" sWritten f fd) (TX : Txt K mg) (TW : WrT K mg C fI fP fR fA fB fY)
    (GI : FnOk P w K mg base CX0 2 fI fdI ["self", "width"] (spWrI C)) (bI : Binds K fdI ["self", "width"] [])
    (GP : FnOk P w K mg base CX0 1 fP fdP ["self", "code"] (spPut C)) (bP : Binds K fdP ["self", "code"] [])
    (GA : FnOk P w K mg base CX0 3 fA fdA ["self", "changes"] (spAlone C)) (bA : Binds K fdA ["self", "changes"] [])
    (GB : FnOk P w K mg base CX0 3 fB fdB ["self", "changes", "before"] (spBy C)) (bB : Binds K fdB ["self", "changes", "before"] [])
    (GY : FnOk P w K mg base CX0 1 fY fdY ["self"] (spBytes C)) (bY : Binds K fdY ["self"] [])
    (GC : FnOk P w K mg base CX0 1 fC fdC ["row", "width"] (spChg K)) (gC : mg "changes_of" = some (.ref fC)) (kC : PySem.W.keepIn K (.ref fC) = true) (bC : Binds K fdC ["row", "width"] []) :
    FnOk P w K mg base CX0 4 f fd ["kind", "often", "width", "rows", "picture"] (spWritten K) := by
  refine F.ok scWritten (fun vs H Q E h => ?_) (fun cdv A outer s H vs Q E hr h => ?_)
  · obtain ⟨kind, k, w, n, a, l, rfl, _⟩ := h
    rfl
  · obtain ⟨kind, k, wd, n, a, l, rfl, hS, hk2, hk, h0, hw, hn, hl, hl1, h256, q⟩ := h
    have hr1 : Room 1 _ := hr.mono (by decide)
    obtain ⟨tl, ml⟩ := TX.le
    refine ⟨_, pss_cons (ps_par3 (i := 5) (j := 6) (l := 7) rfl scWritten.nd rfl rfl rfl (by decide) (by decide) (by decide) rfl rfl rfl
        (pa_cons (pe_make TW.mkr GI hr rfl TW.g bI .nil pass0 (pa_cons (pv 2) pa_nil)) (pa_cons (pe_op op_fdiv (pe_op op_add (pv 2) pe_int) pe_int) (pa_cons (pe_lst pa_nil) pa_nil))) (by rfl))
      (pss_cons (ps_for PassesOwn.never rfl (pi_range1 (by rfl) TX.range (pa_cons (pv 3) pa_nil)) (pg_name (i := 8) scWritten.nd rfl (.inl rfl))
        (pss_cons (ps_set (i := 9) scWritten.nd rfl (.inl rfl) (pe_call GC hr1 rfl gC kC bC .nil pass0 (pa_cons (pe_slice sl_list (pv 4) (po_some (pe_op op_mul (pv 8) (pv 6))) (po_some (pe_op op_add (pe_op op_mul (pv 8) (pv 6)) (pv 6)))) (pa_cons (pv 2) pa_nil))))
        (Evl.pss_cut (ps_set (i := 10) scWritten.nd rfl (.inl rfl) (pe_or (pe_cmpR op_eq (pv 0) pe_int (nomark _)) (pe_one (pe_and (pe_cmpR op_eq (pv 0) pe_int (nomark _)) (pe_one (pe_cmpR op_eq (pe_op op_mod (pv 8) (pv 1)) pe_int (nomark _)))))))
        (Evl.pss_cut (ps_if (pt_cmpR op_lt (pv 0) pe_int (nomark _)) (pss_one (ps_expr (pe_meth (pv 5) TW.cl TW.mPut GP hr1 bP .nil pass0 (pa_cons (pe_glob rfl ml (rel_str _ _)) pa_nil)))) pss_nil)
        (Evl.pss_cut (ps_if (pt_cmpR op_eq (pv 0) pe_int (nomark _)) (pss_one (ps_expr (pe_meth (pv 5) TW.cl TW.mPut GP hr1 bP .nil pass0 (pa_cons (pe_ifExp (pt_val (pv 10)) pe_str pe_str) pa_nil)))) pss_nil)
        (Evl.pss_cut (ps_if (pt_val (pv 10)) (pss_one (ps_expr (pe_meth (pv 5) TW.cl TW.mAlone GA hr bA .nil pass0 (pa_cons (pv 9) pa_nil)))) (pss_one (ps_expr (pe_meth (pv 5) TW.cl TW.mBy GB hr bB .nil pass0 (pa_cons (pv 9) (pa_cons (pv 7) pa_nil))))))
        (pss_one (ps_set (i := 7) scWritten.nd rfl (.inl rfl) (pv 9)))))))))
      (pss_cons (ps_for PassesOwn.never rfl (pi_range1 (by rfl) TX.range (pa_cons (pe_ifExp (pt_cmpR op_eq (pv 0) pe_int (nomark _)) pe_int pe_int) pa_nil)) (pg_name (i := 11) scWritten.nd rfl (.inl rfl))
        (pss_one (ps_expr (pe_meth (pv 5) TW.cl TW.mPut GP hr1 bP .nil pass0 (pa_cons (pe_ifExp (pt_cmpR op_eq (pv 0) pe_int (nomark _)) (pe_op op_add_str (pe_glob rfl ml (rel_str _ _)) pe_str) (pe_glob rfl ml (rel_str _ _))) pa_nil)))))
      (pss_one (ps_ret (pe_meth0 (pv 5) TW.cl TW.mBytes GY hr1 bY .nil pass0))))), ?_⟩
    -- the writer
    refine ⟨_, rfl, ?_⟩
    intro wr dx nwr ndx ne
    refine ⟨wr, dx, wd, rfl, upd_same, fun H1 tb d0 d1 fl W0 bt0 nfl0 => ⟨rfl, ?_⟩⟩
    have s1 : Same H H1 := Same.made nwr ndx fun b o e hb => bt0 b o hb e
    have nfl : H fl = none := by
      cases q1 : H fl with
      | none => rfl
      | some o =>
        rw [upd_ne (ne_of_none q1 nwr), upd_ne (ne_of_none q1 ndx), q1] at nfl0
        cases nfl0
    refine ⟨_, rfl, _, _, rfl, rfl, _, _, rfl, rfl, (by show (0 : Int) < 8 ∧ (8 : Int) < 1073741824; decide), Nat.zero_le _, fun b0 nb0 => ?_⟩
    refine ⟨_, _, _, rfl, ?_⟩
    have sb := same_upd (o := .lst []) nb0
    have nb0f : b0 ≠ fl := (ne_of_none W0.fnd nb0).symm
    generalize hR : rowsN wd n l = R at q
    have hRl : R.length = n := by rw [← hR, rowsN_len]
    have hRw : ∀ r ∈ R, r.length = wd := by rw [← hR]; exact rowsN_w wd n l hl
    have hpl : (Ql31.page kind k wd R).length ≤ 13500000 := page_le kind k wd h0 hk R hRw (by rw [hRl, ← hl]; exact hl1) (by rw [hRl]; exact hn)
    have hpg := page_is kind k wd R
    generalize Ql31.page kind k wd R = pg at q hpl hpg
    refine ⟨_, rfl, _, rfl, by omega, by omega, for_range (lo := 0) (n := n) (fun i σ H' => ∃ (b : Addr) (above : Ql31.Row) (F : Ql31.Bits) (v8 v9 v10 : Option V), σ = [some (.int (kind : Int)), some (.int (k : Int)), some (.int (wd : Int)), some (.int (n : Int)), some (.ref a), some (.ref wr), some (.int (((wd + 7) / 8 : Nat) : Int)), some (.ref b), v8, v9, v10, none] ∧
      Sits C H H' wr dx tb d0 d1 fl wd b above F ∧ F ++ (body kind k i above (R.drop i) ++ tail kind) = pg ∧ (above.length = wd ∨ i = 0 ∧ kind = 1))
      ⟨b0, if kind = 1 then [] else List.replicate wd false, [], none, none, none, ?_, ⟨[], s1.trans sb, W0.next (fun b o n e => sb b o e) (sb _ _ W0.fnd), ?_, nb0f, rfl, Nat.le_refl _⟩, ?_, ?_⟩ ?_ ?_⟩
    · rw [show (((wd + 7) / 8 : Nat) : Int) = ((wd : Int) + 7) / 8 by omega]
      rfl
    · have : chg (if kind = 1 then [] else List.replicate wd false) = [] := by
        split
        · rfl
        · exact chgF_same 0 wd false
      rw [this]
      exact upd_same
    · rw [List.nil_append, List.drop_zero]
      exact hpg.symm
    · by_cases h1 : kind = 1
      · exact .inr ⟨rfl, h1⟩
      · rw [if_neg h1, List.length_replicate]
        exact .inl rfl
    · -- a turn
      rintro i σ H' hi ⟨b, above, F, v8, v9, v10, rfl, ⟨found, sm, W, hb, nb, eF, hfl⟩, eq, hab⟩
      have hsl := slice_len wd n l i hl hi
      have ed : R.drop i = rowN wd l i :: R.drop (i + 1) := by rw [← hR]; exact rowsN_drop wd n l i hi
      have hrw : (rowN wd l i).length = wd := rowN_len wd n l i hl hi
      rw [ed, body_cons kind k i above _ _ hk2] at eq
      -- changes_of(picture[..])
      refine ⟨_, rfl, _, rfl, _, rfl, _, _, rfl, rfl, .inl (by omega), _, rfl, ?_⟩
      refine ⟨_, rfl, _, rfl, _, _, rfl, rfl, .inl (by omega), _, rfl, _, _, rfl, rfl, _, rfl, a, natsV l, rfl, sm.seq hS, fun c0 nc0 => ?_⟩
      have ecut : cutV (natsV l) (some ((0 + (i : Int)) * (((wd + 7) / 8 : Nat) : Int))) (some ((0 + (i : Int)) * (((wd + 7) / 8 : Nat) : Int) + (((wd + 7) / 8 : Nat) : Int))) = natsV ((l.drop (i * ((wd + 7) / 8))).take ((wd + 7) / 8)) := by
        rw [Int.zero_add, ← Int.natCast_mul, ← Int.natCast_add]
        exact cut_at l _ _ hsl
      rw [ecut]
      refine ⟨_, rfl, c0, (l.drop (i * ((wd + 7) / 8))).take ((wd + 7) / 8), wd, rfl, SqL.of upd_same, fun x hx => h256 x (List.mem_of_mem_drop (List.mem_of_mem_take hx)), by rw [List.length_take, List.length_drop]; omega, fun H2 c sm2 nc hc => ?_⟩
      have sc0 := same_upd (o := .lst (natsV ((l.drop (i * ((wd + 7) / 8))).take ((wd + 7) / 8)))) nc0
      have s2 : Same H' H2 := sc0.trans sm2
      have nc' : H' c = none := sc0.free nc
      have ncf : c ≠ fl := (ne_of_none W.fnd nc').symm
      have hc' : H2 c = some (.lst (natsV (chg (rowN wd l i)))) := hc
      have W2 := W.next (s2.but) (s2 _ _ W.fnd)
      have hb2 := s2 _ _ hb
      have smH := sm.trans s2
      have hFl : F.length ≤ 13500000 := by
        have := congrArg List.length eq
        rw [List.length_append] at this
        omega
      -- is_alone
      refine ⟨fun σ H3 => H3 = H2 ∧ σ = [some (.int (kind : Int)), some (.int (k : Int)), some (.int (wd : Int)), some (.int (n : Int)), some (.ref a), some (.ref wr), some (.int (((wd + 7) / 8 : Nat) : Int)), some (.ref b), some (.int (0 + (i : Int))), some (.ref c), some (.bl (isA kind k i)), none], ?_, ?_⟩
      · refine ⟨_, rfl, rfl, _, rfl, ?_⟩
        by_cases k0 : kind = 0
        · refine if_yes (congrArg V.int (by omega)) ?_
          have : isA kind k i = true := decide_eq_true (.inl k0)
          rw [this]
          exact ⟨rfl, rfl⟩
        · refine if_no (fun e => k0 (by have := V.int.inj e; omega)) ?_
          refine ⟨_, rfl, rfl, _, rfl, ?_⟩
          by_cases k1 : kind = 1
          · refine if_yes (congrArg V.int (by omega)) ?_
            refine ⟨_, rfl, _, rfl, _, _, rfl, rfl, (by show (0 : Int) < (k : Int); omega), rfl, ?_⟩
            refine ⟨rfl, ?_⟩
            have : isA kind k i = decide (V.int ((0 + (i : Int)) % (k : Int)) = V.int 0) := by
              unfold isA
              rw [decide_eq_decide]
              constructor
              · intro h
                rcases h with h | h
                · exact absurd h k0
                · rw [Int.zero_add, ← Int.natCast_emod, h.2]
                  rfl
              · intro h
                have h2 := V.int.inj h
                rw [Int.zero_add, ← Int.natCast_emod] at h2
                exact .inr ⟨k1, by omega⟩
            rw [this]
            rfl
          · refine if_no (fun e => k1 (by have := V.int.inj e; omega)) ?_
            have : isA kind k i = false := decide_eq_false (fun h => h.elim k0 fun z => k1 z.1)
            rw [this]
            exact ⟨rfl, rfl⟩
      rintro σ H3 ⟨rfl, rfl⟩
      generalize hia : isA kind k i = al at eq ⊢
      -- if kind < 2
      refine ⟨fun σ H4 => σ = [some (.int (kind : Int)), some (.int (k : Int)), some (.int (wd : Int)), some (.int (n : Int)), some (.ref a), some (.ref wr), some (.int (((wd + 7) / 8 : Nat) : Int)), some (.ref b), some (.int (0 + (i : Int))), some (.ref c), some (.bl al), none] ∧
        Sits C H H4 wr dx tb d0 d1 fl wd b above (F ++ pre1 kind) ∧ H4 c = some (.lst (natsV (chg (rowN wd l i)))), ?_, ?_⟩
      · refine ⟨_, rfl, _, _, rfl, rfl, _, rfl, ?_⟩
        by_cases k2 : kind < 2
        · refine if_yes (by omega) ?_
          have e1 : pre1 kind = Ql31.EOL := if_pos k2
          refine ⟨_, rfl, wr, dx, _, rfl, W2.obj, wrF_no _ _ _ (by decide +kernel) (by decide +kernel) (by decide +kernel), wr, dx, tb, d0, d1, fl, wd, found, Ql31.EOL, by rw [line_is]; rfl, W2, Nat.lt_of_le_of_lt (Nat.le_trans hfl hFl) (by decide), ?_⟩
          refine ⟨rfl, ?_, by rw [upd_ne ncf]; exact hc'⟩
          rw [e1]
          exact Sits.put nfl smH W2 hb2 nb eF hfl _ (by decide +kernel)
        · refine if_no (by omega) ?_
          have e1 : pre1 kind = [] := if_neg k2
          rw [e1, List.append_nil]
          exact ⟨rfl, ⟨found, smH, W2, hb2, nb, eF, hfl⟩, hc'⟩
      rintro σ H4 ⟨rfl, ⟨found4, sm4, W4, hb4, nb4, eF4, hfl4⟩, hc4⟩
      have hF4 : (F ++ pre1 kind).length ≤ 13500000 := by
        have := congrArg List.length eq
        rw [List.length_append, List.length_append, List.length_append] at this
        rw [List.length_append]
        omega
      -- if kind == 1
      refine ⟨fun σ H5 => σ = [some (.int (kind : Int)), some (.int (k : Int)), some (.int (wd : Int)), some (.int (n : Int)), some (.ref a), some (.ref wr), some (.int (((wd + 7) / 8 : Nat) : Int)), some (.ref b), some (.int (0 + (i : Int))), some (.ref c), some (.bl al), none] ∧
        Sits C H H5 wr dx tb d0 d1 fl wd b above (F ++ pre1 kind ++ pre2 kind al) ∧ H5 c = some (.lst (natsV (chg (rowN wd l i)))), ?_, ?_⟩
      · refine ⟨_, rfl, rfl, _, rfl, ?_⟩
        by_cases k1 : kind = 1
        · refine if_yes (congrArg V.int (by omega)) ?_
          have e1 : pre2 kind al = [al] := if_pos k1
          rw [e1]
          refine ⟨_, rfl, wr, dx, _, rfl, W4.obj, wrF_no _ _ _ (by decide +kernel) (by decide +kernel) (by decide +kernel), ?_⟩
          refine ⟨_, rfl, _, rfl, ?_⟩
          have hlt4 : found4.length < sizeLine := Nat.lt_of_le_of_lt (Nat.le_trans hfl4 hF4) (by decide)
          cases al
          · refine iteF ?_
            refine ⟨wr, dx, tb, d0, d1, fl, wd, found4, [false], by rw [zero_is]; rfl, W4, hlt4, ?_⟩
            exact ⟨rfl, Sits.put nfl sm4 W4 hb4 nb4 eF4 hfl4 _ (by decide), by rw [upd_ne ncf]; exact hc4⟩
          · refine iteT ?_
            refine ⟨wr, dx, tb, d0, d1, fl, wd, found4, [true], by rw [one_is]; rfl, W4, hlt4, ?_⟩
            exact ⟨rfl, Sits.put nfl sm4 W4 hb4 nb4 eF4 hfl4 _ (by decide), by rw [upd_ne ncf]; exact hc4⟩
        · refine if_no (fun e => k1 (by have := V.int.inj e; omega)) ?_
          have e1 : pre2 kind al = [] := if_neg k1
          rw [e1, List.append_nil]
          exact ⟨rfl, ⟨found4, sm4, W4, hb4, nb4, eF4, hfl4⟩, hc4⟩
      rintro σ H5 ⟨rfl, ⟨found5, sm5, W5, hb5, nb5, eF5, hfl5⟩, hc5⟩
      have hF5 : (F ++ pre1 kind ++ pre2 kind al).length + (coded al above (rowN wd l i)).length ≤ 13500000 := by
        have := congrArg List.length eq
        rw [List.length_append, List.length_append, List.length_append, List.length_append, List.length_append] at this
        rw [List.length_append, List.length_append]
        omega
      -- the row
      refine ⟨fun σ H6 => σ = [some (.int (kind : Int)), some (.int (k : Int)), some (.int (wd : Int)), some (.int (n : Int)), some (.ref a), some (.ref wr), some (.int (((wd + 7) / 8 : Nat) : Int)), some (.ref b), some (.int (0 + (i : Int))), some (.ref c), some (.bl al), none] ∧
        Sits C H H6 wr dx tb d0 d1 fl wd b above (F ++ pre1 kind ++ pre2 kind al ++ coded al above (rowN wd l i)) ∧ H6 c = some (.lst (natsV (chg (rowN wd l i)))), ?_, ?_⟩
      · refine ⟨_, rfl, _, rfl, ?_⟩
        have W5' : Wr C H5 wr dx tb d0 d1 fl (rowN wd l i).length found5 := by rw [hrw]; exact W5
        cases al
        · refine iteF ?_
          have hal : above.length = wd := by
            rcases hab with h | ⟨h1, h2⟩
            · exact h
            · exfalso
              have : isA kind k i = true := decide_eq_true (.inr ⟨h2, by rw [h1, Nat.zero_mod]⟩)
              rw [hia] at this
              cases this
          refine ⟨_, rfl, wr, dx, _, rfl, W5.obj, wrF_no _ _ _ (by decide +kernel) (by decide +kernel) (by decide +kernel), _, rfl, _, rfl, wr, dx, tb, d0, d1, fl, c, b, rowN wd l i, above, found5, rfl, W5', by omega, by omega, by omega, hc5, hb5, ncf, nb5, ?_, fun H6 hw6 => ?_⟩
          · have : (coded false above (rowN wd l i)).length = (Ql31.rowBeside above (rowN wd l i)).length := rfl
            omega
          · refine ⟨rfl, Sits.wrote nfl sm5 W5 hb5 nb5 eF5 hfl5 hw6, ?_⟩
            obtain ⟨_, bt6, _⟩ := hw6
            exact bt6 _ _ ncf hc5
        · refine iteT ?_
          refine ⟨_, rfl, wr, dx, _, rfl, W5.obj, wrF_no _ _ _ (by decide +kernel) (by decide +kernel) (by decide +kernel), _, rfl, wr, dx, tb, d0, d1, fl, c, rowN wd l i, found5, rfl, W5', by omega, by omega, hc5, ?_, fun H6 hw6 => ?_⟩
          · have : (coded true above (rowN wd l i)).length = (Ql31.rowAlone (rowN wd l i)).length := rfl
            omega
          · refine ⟨rfl, Sits.wrote nfl sm5 W5 hb5 nb5 eF5 hfl5 hw6, ?_⟩
            obtain ⟨_, bt6, _⟩ := hw6
            exact bt6 _ _ ncf hc5
      rintro σ H6 ⟨rfl, ⟨found6, sm6, W6, hb6, nb6, eF6, hfl6⟩, hc6⟩
      refine ⟨_, rfl, c, rowN wd l i, F ++ pre1 kind ++ pre2 kind al ++ coded al above (rowN wd l i), some (.int (0 + (i : Int))), some (.ref c), some (.bl al), rfl, ⟨found6, sm6, W6, hc6, ncf, eF6, hfl6⟩, ?_, .inl hrw⟩
      rw [← eq]
      simp only [List.append_assoc]
    · -- the page's end
      rintro σ H' ⟨b, above, F, v8, v9, v10, rfl, ⟨found, sm, W, hb, nb, eF, hfl⟩, eq, hab⟩
      rw [show R.drop n = [] from List.drop_eq_nil_of_le (by omega), body_nil, List.nil_append, tail_is kind hk2] at eq
      refine ⟨_, rfl, rfl, _, rfl, if_pick (fun v hv => ?_)⟩
      have hv2 : v = V.int ((ends kind : Nat) : Int) := by
        unfold ends
        rcases hv with ⟨h1, rfl⟩ | ⟨h1, rfl⟩
        · rw [if_pos (by have := V.int.inj h1; omega)]
          rfl
        · rw [if_neg (fun e => h1 (congrArg V.int (by omega)))]
          rfl
      subst hv2
      have hen : ends kind ≤ 6 := by unfold ends; split <;> omega
      refine ⟨_, rfl, by omega, by omega, for_range (lo := 0) (n := ends kind) (fun j σ H' => ∃ (v8 v9 v10 v11 : Option V), σ = [some (.int (kind : Int)), some (.int (k : Int)), some (.int (wd : Int)), some (.int (n : Int)), some (.ref a), some (.ref wr), some (.int (((wd + 7) / 8 : Nat) : Int)), some (.ref b), v8, v9, v10, v11] ∧
        Sits C H H' wr dx tb d0 d1 fl wd b above (F ++ (List.replicate j (piece kind)).flatten)) ⟨v8, v9, v10, none, rfl, ⟨found, sm, W, hb, nb, by simpa using eF, by simpa using hfl⟩⟩ ?_ ?_⟩
      · rintro j σ H' hj ⟨v8, v9, v10, v11, rfl, ⟨found, sm, W, hb, nb, eF2, hfl⟩⟩
        have hlt : found.length < sizeLine := by
          have h1 := congrArg List.length eq
          have h2 : (List.replicate j (piece kind)).flatten.length ≤ (List.replicate (ends kind) (piece kind)).flatten.length := by
            rw [flat_replicate_len, flat_replicate_len]
            exact Nat.mul_le_mul_right _ (Nat.le_of_lt hj)
          rw [List.length_append] at h1 hfl
          exact Nat.lt_of_le_of_lt (show found.length ≤ 13500000 by omega) (by decide)
        have hpp : 0 < (piece kind).length := by
          unfold piece
          split <;> decide +kernel
        have fin : Sits C H (upd H' fl (.lst (textsV (found ++ [piece kind])))) wr dx tb d0 d1 fl wd b above (F ++ (List.replicate (j + 1) (piece kind)).flatten) := by
          rw [rep_more, ← List.append_assoc]
          exact Sits.put nfl sm W hb nb eF2 hfl _ hpp
        refine ⟨_, rfl, wr, dx, _, rfl, W.obj, wrF_no _ _ _ (by decide +kernel) (by decide +kernel) (by decide +kernel), _, rfl, rfl, _, rfl, ?_⟩
        by_cases k1 : kind = 1
        · refine if_yes (congrArg V.int (by omega)) ?_
          have e1 : piece kind = Ql31.EOL ++ [true] := if_pos k1
          refine ⟨_, _, rfl, rfl, (by decide +kernel), wr, dx, tb, d0, d1, fl, wd, found, piece kind, ?_, W, hlt, _, _, _, _, rfl, fin⟩
          rw [e1, ← T_append, line_is, one_is]
          rfl
        · refine if_no (fun e => k1 (by have := V.int.inj e; omega)) ?_
          have e1 : piece kind = Ql31.EOL := if_neg k1
          refine ⟨wr, dx, tb, d0, d1, fl, wd, found, piece kind, ?_, W, hlt, _, _, _, _, rfl, fin⟩
          rw [e1, line_is]
          rfl
      · rintro σ H' ⟨v8, v9, v10, v11, rfl, ⟨found, sm, W, hb, nb, eF2, hfl⟩⟩
        rw [eq] at eF2
        refine ⟨_, rfl, wr, dx, _, rfl, W.obj, wrF_no _ _ _ (by decide +kernel) (by decide +kernel) (by decide +kernel), wr, dx, tb, d0, d1, fl, wd, found, rfl, W, by rw [eF2]; omega, fun H2 p sm2 hp => ?_⟩
        rw [eF2] at hp
        exact q H2 p (sm.trans sm2) hp
end
end Fax1
set_option Elab.async false
set_option linter.all false
set_option maxRecDepth 100000
set_option maxHeartbeats 4000000
namespace Fax1
open PySem PySem.Spec PyProof.Rows L2 Fax
def spFax (K : PySem.W.Frag) : Sp := fun vs H Q _ => ∃ (kind k w n most : Int) (a : Addr) (p : List Int), vs = [.int kind, .int k, .int w, .int n, .int most, .ref a] ∧ SqL K H a (p.map V.int) ∧ PyQl31.fax_write_asked kind k w n most p = true ∧ p.length ≤ 100000 ∧
  ∀ (H' : Hp) (q : Addr), H' q = some (.lst ((PyQl31.fax_write kind k w n most p).map V.int)) → Q (.ref q) H'
theorem scFax : FnScope ["kind", "k", "width", "rows", "most", "picture", "found"] ["kind", "k", "width", "rows", "most", "picture"] (defScope sFax) := ⟨rfl, rfl, rfl, by decide +kernel, rfl, by decide +kernel, by decide +kernel⟩
theorem asked_is {kind k w n most : Int} {p : List Int} (h : PyQl31.fax_write_asked kind k w n most p = true) :
    (0 ≤ kind ∧ 0 ≤ k ∧ 0 ≤ w ∧ 0 ≤ n ∧ 0 ≤ most) ∧ (∀ x ∈ p, 0 ≤ x ∧ x < 256) ∧ ((p.length : Int) = if 2 < kind ∨ k = 0 ∨ w = 0 ∨ 16384 < w ∨ 16384 < n then 0 else n * ((w + 7) / 8)) := by
  have h' : ([kind, k, w, n, most].all (fun (z : Int) => Ql31Neutral.natural z 32) && (p.all (fun (z : Int) => Ql31Neutral.natural z 8) && (p.length : Int) == if 2 < kind ∨ k = 0 ∨ w = 0 ∨ 16384 < w ∨ 16384 < n then 0 else n * ((w + 7) / 8))) = true := h
  rw [Bool.and_eq_true, Bool.and_eq_true] at h'
  obtain ⟨h1, h2, h3⟩ := h'
  refine ⟨?_, fun x hx => ?_, eq_of_beq h3⟩
  · rw [List.all_eq_true] at h1
    have g : ∀ z ∈ [kind, k, w, n, most], 0 ≤ z := fun z hz => by
      have := h1 z hz
      unfold Ql31Neutral.natural at this
      rw [Bool.and_eq_true, decide_eq_true_eq] at this
      exact this.1
    exact ⟨g _ (by simp), g _ (by simp), g _ (by simp), g _ (by simp), g _ (by simp)⟩
  · have := List.all_eq_true.mp h2 x hx
    unfold Ql31Neutral.natural at this
    rw [Bool.and_eq_true, decide_eq_true_eq, decide_eq_true_eq] at this
    exact ⟨this.1, by have := this.2; omega⟩
theorem due_beyond {kind k w n most : Int} {p : List Int} (h : 2 < kind ∨ k = 0 ∨ w = 0 ∨ 16384 < w ∨ 16384 < n) : PyQl31.fax_write kind k w n most p = [-1] := by
  show (if 2 < kind ∨ k = 0 ∨ w = 0 ∨ (16384 : Int) < w ∨ (16384 : Int) < n then [-1] else _) = _
  rw [if_pos h]
theorem due_else {kind k w n most : Int} {p : List Int} (h : ¬ (2 < kind ∨ k = 0 ∨ w = 0 ∨ 16384 < w ∨ 16384 < n)) (hp : ∀ x ∈ p, 0 ≤ x ∧ x < 256) {o : List Nat}
    (ho : o = bytesN (padded (Ql31.page kind.toNat k.toNat w.toNat (rowsN w.toNat n.toNat (p.map Int.toNat))))) :
    PyQl31.fax_write kind k w n most p = if most < (o.length : Int) then [-2] else (o.length : Int) :: o.map (fun (x : Nat) => (x : Int)) := by
  have e : PyQl31.fax_write kind k w n most p = if 2 < kind ∨ k = 0 ∨ w = 0 ∨ (16384 : Int) < w ∨ (16384 : Int) < n then [-1] else
    (if most < ((Ql31.bytesOf ((Ql31.page kind.toNat k.toNat w.toNat (Ql31.rowsFrom w.toNat n.toNat (Ql31Neutral.octets p))).length / 8 + 1) (Ql31.page kind.toNat k.toNat w.toNat (Ql31.rowsFrom w.toNat n.toNat (Ql31Neutral.octets p)))).length : Int) then [-2]
      else ((Ql31.bytesOf ((Ql31.page kind.toNat k.toNat w.toNat (Ql31.rowsFrom w.toNat n.toNat (Ql31Neutral.octets p))).length / 8 + 1) (Ql31.page kind.toNat k.toNat w.toNat (Ql31.rowsFrom w.toNat n.toNat (Ql31Neutral.octets p)))).length : Int) ::
        Ql31Neutral.byteInts (Ql31.bytesOf ((Ql31.page kind.toNat k.toNat w.toNat (Ql31.rowsFrom w.toNat n.toNat (Ql31Neutral.octets p))).length / 8 + 1) (Ql31.page kind.toNat k.toNat w.toNat (Ql31.rowsFrom w.toNat n.toNat (Ql31Neutral.octets p))))) := rfl
  rw [e, if_neg h, rowsFrom_rowsN _ _ _ hp, byteInts_is _ _ (Nat.lt_succ_self _), ← ho]
  have hl : (Ql31.bytesOf ((Ql31.page kind.toNat k.toNat w.toNat (rowsN w.toNat n.toNat (p.map Int.toNat))).length / 8 + 1) (Ql31.page kind.toNat k.toNat w.toNat (rowsN w.toNat n.toNat (p.map Int.toNat)))).length = o.length := by
    have := congrArg List.length (bytesOf_is _ _ (Nat.lt_succ_self ((Ql31.page kind.toNat k.toNat w.toNat (rowsN w.toNat n.toNat (p.map Int.toNat))).length / 8)))
    rw [List.length_map, ← ho] at this
    exact this
  rw [hl]
theorem bytesN_len (b : Ql31.Bits) : (bytesN b).length = b.length / 8 := by simp [bytesN]
section
variable {P : Program} {w : World} {K : PySem.W.Frag} {mg : Str → Option Value} {base : Heap}
theorem ok_fax {f fW : Addr} {fd fdW : FuncData} (F : Fun K "fax_write" "fax_write" sFax f fd) (TX : Txt K mg)
    (GW : FnOk P w K mg base CX0 4 fW fdW ["kind", "often", "width", "rows", "picture"] (spWritten K)) (gW : mg "written" = some (.ref fW)) (kW : PySem.W.keepIn K (.ref fW) = true) (bW : Binds K fdW ["kind", "often", "width", "rows", "picture"] []) :
    FnOk P w K mg base CX0 5 f fd ["kind", "k", "width", "rows", "most", "picture"] (spFax K) := by
  refine F.ok scFax (fun vs H Q E h => ?_) (fun cdv A outer s H vs Q E hr h => ?_)
  · obtain ⟨kind, k, w, n, most, a, p, rfl, _⟩ := h
    rfl
  · obtain ⟨kind, k, wd, n, most, a, p, rfl, hS, hask, hp, q⟩ := h
    obtain ⟨tms, mms⟩ := TX.mostSide
    obtain ⟨tby, mby⟩ := TX.beyond
    obtain ⟨ttl, mtl⟩ := TX.tooLong
    obtain ⟨⟨p1, p2, p3, p4, p5⟩, hb, hl⟩ := asked_is hask
    refine ⟨_, Evl.pss_cut (ps_if (PW.pt (pw_or (pt_cmpR op_gt (pv 0) pe_int (nomark _)) (pw_or (pt_cmpR op_eq (pv 1) pe_int (nomark _)) (pw_or (pt_not (pt_chain op_le op_le pe_int (pv 2) (pe_glob rfl mms (rel_int _ _)))) (pw_or1 (pt_cmpR op_gt (pv 3) (pe_glob rfl mms (rel_int _ _)) (nomark _)))))))
        (pss_one (ps_ret (pe_lst (pa_cons (pe_glob rfl mby (rel_int _ _)) pa_nil)))) pss_nil)
      (pss_cons (ps_set (i := 6) scFax.nd rfl (.inl rfl) (pe_call GW hr rfl gW kW bW .nil pass0 (pa_cons (pv 0) (pa_cons (pv 1) (pa_cons (pv 2) (pa_cons (pv 3) (pa_cons (pv 5) pa_nil)))))))
      (pss_one (ps_ret (pe_ifExp (pt_cmpR op_gt (pe_callB call_len_seq (by rfl) TX.len PySem.boot_len (pa_cons (pv 6) pa_nil)) (pv 4) (nomark _))
        (pe_lst (pa_cons (pe_glob rfl mtl (rel_int _ _)) pa_nil)) (pe_op op_cat (pe_lst (pa_cons (pe_callB call_len_seq (by rfl) TX.len PySem.boot_len (pa_cons (pv 6) pa_nil)) pa_nil)) (pv 6)))))), ?_⟩
    refine ⟨fun σ H' => H' = H ∧ ¬ (2 < kind ∨ k = 0 ∨ wd = 0 ∨ 16384 < wd ∨ 16384 < n) ∧ σ = [some (.int kind), some (.int k), some (.int wd), some (.int n), some (.int most), some (.ref a), none], ?_, ?_⟩
    · have bad : (2 < kind ∨ k = 0 ∨ wd = 0 ∨ 16384 < wd ∨ 16384 < n) → ∀ x, H x = none → Q (.ref x) (upd H x (.lst [.int (-1)])) := fun h x hx => q _ x (by rw [due_beyond h]; exact upd_same)
      refine ⟨_, rfl, _, _, rfl, rfl, _, rfl, ?_⟩
      by_cases c1 : 2 < kind
      · exact if_yes c1 (iteT ⟨by show 1 ≤ sizeLine; decide, fun x hx => bad (.inl c1) x hx⟩)
      refine if_no c1 ?_
      refine ⟨_, rfl, rfl, _, rfl, ?_⟩
      by_cases c2 : k = 0
      · exact if_yes (congrArg V.int c2) (iteT ⟨by show 1 ≤ sizeLine; decide, fun x hx => bad (.inr (.inl c2)) x hx⟩)
      refine if_no (fun e => c2 (V.int.inj e)) ?_
      refine ⟨_, rfl, _, _, rfl, rfl, _, rfl, chain2 (y := wd) rfl (fun c3 => ⟨_, rfl, ?_⟩) (fun c3 => ⟨_, rfl, ?_⟩)⟩
      · refine iteF ?_
        refine ⟨_, rfl, _, _, rfl, rfl, _, rfl, ?_⟩
        by_cases c4 : 16384 < n
        · exact if_yes c4 ⟨by show 1 ≤ sizeLine; decide, fun x hx => bad (.inr (.inr (.inr (.inr c4)))) x hx⟩
        · exact if_no c4 ⟨rfl, by omega, rfl⟩
      · refine iteT ?_
        exact iteT ⟨by show 1 ≤ sizeLine; decide, fun x hx => bad (by omega) x hx⟩
    · rintro σ H' ⟨rfl, hok, rfl⟩
      rw [if_neg hok] at hl
      obtain ⟨kind, rfl⟩ : ∃ z : Nat, kind = (z : Int) := ⟨kind.toNat, by omega⟩
      obtain ⟨k, rfl⟩ : ∃ z : Nat, k = (z : Int) := ⟨k.toNat, by omega⟩
      obtain ⟨wd, rfl⟩ : ∃ z : Nat, wd = (z : Int) := ⟨wd.toNat, by omega⟩
      obtain ⟨n, rfl⟩ : ∃ z : Nat, n = (z : Int) := ⟨n.toNat, by omega⟩
      have epn : p.map V.int = natsV (p.map Int.toNat) := by
        show p.map V.int = (p.map Int.toNat).map _
        rw [List.map_map]
        refine List.map_congr_left fun x hx => ?_
        have := hb x hx
        show V.int x = V.int ((x.toNat : Nat) : Int)
        rw [Int.toNat_of_nonneg this.1]
      have hl2 : (p.map Int.toNat).length = n * ((wd + 7) / 8) := by
        rw [List.length_map]
        have e1 : ((wd : Int) + 7) / 8 = (((wd + 7) / 8 : Nat) : Int) := by omega
        rw [e1, ← Int.natCast_mul] at hl
        omega
      have hdue := due_else (most := most) hok hb rfl
      simp only [Int.toNat_natCast] at hdue
      refine ⟨_, rfl, _, rfl, _, rfl, _, rfl, _, rfl, kind, k, wd, n, a, p.map Int.toNat, rfl, by rw [← epn]; exact hS, by omega, by omega, by omega, by omega, by omega, hl2, by rw [List.length_map]; exact hp, ?_, fun H2 o sm ho => ?_⟩
      · intro x hx
        obtain ⟨z, hz, rfl⟩ := List.mem_map.mp hx
        have := hb z hz
        omega
      have hpl : (Ql31.page kind k wd (rowsN wd n (p.map Int.toNat))).length ≤ 13500000 := page_le kind k wd (by omega) (by omega) _ (rowsN_w wd n _ hl2) (by rw [rowsN_len, ← hl2, List.length_map]; exact hp) (by rw [rowsN_len]; omega)
      have hol : (bytesN (padded (Ql31.page kind k wd (rowsN wd n (p.map Int.toNat))))).length ≤ 1700000 := by
        rw [bytesN_len, padded_len]
        omega
      generalize bytesN (padded (Ql31.page kind k wd (rowsN wd n (p.map Int.toNat)))) = out at *
      refine ⟨_, rfl, o, _, rfl, .inl (SqL.of ho), _, rfl, _, _, rfl, rfl, _, rfl, ?_⟩
      rw [List.length_map]
      by_cases c : most < (out.length : Int)
      · refine if_yes c ?_
        rw [if_pos c] at hdue
        refine ⟨by show 1 ≤ sizeLine; decide, fun x hx => q _ x ?_⟩
        rw [hdue]
        exact upd_same
      · refine if_no c ?_
        rw [if_neg c] at hdue
        refine ⟨_, rfl, o, _, rfl, .inl (SqL.of ho), (by show 1 ≤ sizeLine; decide), fun x hx => ?_⟩
        refine ⟨_, rfl, x, o, _, _, rfl, rfl, upd_same, (by rw [upd_ne (ne_of_none ho hx)]; exact ho), ?_, fun y hy => q _ y ?_⟩
        · rw [List.length_map, List.length_singleton]
          exact Nat.le_trans (show 1 + out.length ≤ 1700001 by omega) (by decide)
        · rw [hdue, List.length_map, List.map_cons, List.map_map]
          exact upd_same
end
end Fax1
set_option Elab.async false
set_option linter.all false
set_option maxRecDepth 100000
set_option maxHeartbeats 8000000
namespace Fax1
open PySem PySem.Spec PyProof.Rows L2 Fax
open PySem.W (Codec)
theorem all_mk {P : Program} {w : World} {K : PySem.W.Frag} {h : Heap} {mg : Str → Option Value} {fa CA CW aS : Addr} {f1 f2 f3 f4 f5 f6 f7 f8 f9 f10 f11 f12 f13 f14 : Addr} (X : K.In h) (G : h.Ns mainGlobals mg) (hfa : mg "fax_write" = some (.ref fa))
    {odS od1 an1 od2 an2 od3 an3 od4 an4 od5 an5 od6 an6 od7 an7 od8 an8 od9 an9 od10 an10 od11 an11 od12 an12 od13 an13 od14 an14 : Option Addr} {slS sl1 sl2 sl3 sl4 sl5 sl6 sl7 sl8 sl9 sl10 sl11 sl12 sl13 sl14 : Array (Option Value)} {oc1 kV1 dc1 pm1 cd1 ct1 oc2 kV2 dc2 pm2 cd2 ct2 oc3 kV3 dc3 pm3 cd3 ct3 oc4 kV4 dc4 pm4 cd4 ct4 oc5 kV5 dc5 pm5 cd5 ct5 oc6 kV6 dc6 pm6 cd6 ct6 oc7 kV7 dc7 pm7 cd7 ct7 oc8 kV8 dc8 pm8 cd8 ct8 oc9 kV9 dc9 pm9 cd9 ct9 oc10 kV10 dc10 pm10 cd10 ct10 oc11 kV11 dc11 pm11 cd11 ct11 oc12 kV12 dc12 pm12 cd12 ct12 oc13 kV13 dc13 pm13 cd13 ct13 oc14 kV14 dc14 pm14 cd14 ct14 : Value} {tbo tws twl tbs tbl tle tps tac tml tst tms tby ttl tS1 tS2 tS3 tS4 tS5 tS6 tS7 : Tok} {nS : Nat}
    (gCA : PySem.W.nsIn K mainGlobals "Above" = some (some (.ref CA)))
    (pgCA : PySem.W.plainGet K CA Str.empty = true)
    (hdCA : PySem.W.hasDictIn K CA = true)
    (poCA : PySem.W.plainOver K CA = true)
    (saCA : PySem.W.findIn K (.ref CA) "__setattr__" = some (some (.builtin "object.__setattr__")))
    (mkCA : PySem.W.makesIn K CA = true)
    (kcCA : PySem.W.keepIn K (.ref CA) = true)
    (noCAchanges : PySem.W.findIn K (.ref CA) "changes" = some none)
    (noCAwidth : PySem.W.findIn K (.ref CA) "width" = some none)
    (noCAspot : PySem.W.findIn K (.ref CA) "spot" = some none)
    (gCW : PySem.W.nsIn K mainGlobals "Writer" = some (some (.ref CW)))
    (pgCW : PySem.W.plainGet K CW Str.empty = true)
    (hdCW : PySem.W.hasDictIn K CW = true)
    (poCW : PySem.W.plainOver K CW = true)
    (saCW : PySem.W.findIn K (.ref CW) "__setattr__" = some (some (.builtin "object.__setattr__")))
    (mkCW : PySem.W.makesIn K CW = true)
    (kcCW : PySem.W.keepIn K (.ref CW) = true)
    (noCWwidth : PySem.W.findIn K (.ref CW) "width" = some none)
    (noCWtables : PySem.W.findIn K (.ref CW) "tables" = some none)
    (noCWfound : PySem.W.findIn K (.ref CW) "found" = some none)
    (a1 : PySem.W.nsIn K mainGlobals "tables_of" = some (some (.ref f1)))
    (l1 : K.lookup f1 = some ⟨oc1, od1, .func (PySem.W.fnOf "tables_of" "tables_of" (defArgs sTab) (defBody sTab) (defScope sTab) .none kV1 dc1 pm1 an1 cd1 ct1), sl1⟩)
    (c1 : PySem.W.codeIn K cd1 "tables_of" = true)
    (k1 : PySem.W.keepIn K (.ref f1) = true)
    (a2 : PySem.W.nsIn K mainGlobals "run_code" = some (some (.ref f2)))
    (l2 : K.lookup f2 = some ⟨oc2, od2, .func (PySem.W.fnOf "run_code" "run_code" (defArgs sRun) (defBody sRun) (defScope sRun) .none kV2 dc2 pm2 an2 cd2 ct2), sl2⟩)
    (c2 : PySem.W.codeIn K cd2 "run_code" = true)
    (k2 : PySem.W.keepIn K (.ref f2) = true)
    (a3 : PySem.W.nsIn K mainGlobals "changes_of" = some (some (.ref f3)))
    (l3 : K.lookup f3 = some ⟨oc3, od3, .func (PySem.W.fnOf "changes_of" "changes_of" (defArgs sChg) (defBody sChg) (defScope sChg) .none kV3 dc3 pm3 an3 cd3 ct3), sl3⟩)
    (c3 : PySem.W.codeIn K cd3 "changes_of" = true)
    (k3 : PySem.W.keepIn K (.ref f3) = true)
    (a4 : PySem.W.findIn K (.ref CA) "__init__" = some (some (.ref f4)))
    (i4 : PySem.W.isFn K (.ref f4) = true)
    (l4 : K.lookup f4 = some ⟨oc4, od4, .func (PySem.W.fnOf "__init__" "Above.__init__" (defArgs sAbI) (defBody sAbI) (defScope sAbI) .none kV4 dc4 pm4 an4 cd4 ct4), sl4⟩)
    (c4 : PySem.W.codeIn K cd4 "Above.__init__" = true)
    (k4 : PySem.W.keepIn K (.ref f4) = true)
    (a5 : PySem.W.findIn K (.ref CA) "at" = some (some (.ref f5)))
    (i5 : PySem.W.isFn K (.ref f5) = true)
    (l5 : K.lookup f5 = some ⟨oc5, od5, .func (PySem.W.fnOf "at" "Above.at" (defArgs sAt) (defBody sAt) (defScope sAt) .none kV5 dc5 pm5 an5 cd5 ct5), sl5⟩)
    (c5 : PySem.W.codeIn K cd5 "Above.at" = true)
    (k5 : PySem.W.keepIn K (.ref f5) = true)
    (a6 : PySem.W.findIn K (.ref CA) "both" = some (some (.ref f6)))
    (i6 : PySem.W.isFn K (.ref f6) = true)
    (l6 : K.lookup f6 = some ⟨oc6, od6, .func (PySem.W.fnOf "both" "Above.both" (defArgs sBoth) (defBody sBoth) (defScope sBoth) .none kV6 dc6 pm6 an6 cd6 ct6), sl6⟩)
    (c6 : PySem.W.codeIn K cd6 "Above.both" = true)
    (k6 : PySem.W.keepIn K (.ref f6) = true)
    (a7 : PySem.W.findIn K (.ref CW) "__init__" = some (some (.ref f7)))
    (i7 : PySem.W.isFn K (.ref f7) = true)
    (l7 : K.lookup f7 = some ⟨oc7, od7, .func (PySem.W.fnOf "__init__" "Writer.__init__" (defArgs sWrI) (defBody sWrI) (defScope sWrI) .none kV7 dc7 pm7 an7 cd7 ct7), sl7⟩)
    (c7 : PySem.W.codeIn K cd7 "Writer.__init__" = true)
    (k7 : PySem.W.keepIn K (.ref f7) = true)
    (a8 : PySem.W.findIn K (.ref CW) "put" = some (some (.ref f8)))
    (i8 : PySem.W.isFn K (.ref f8) = true)
    (l8 : K.lookup f8 = some ⟨oc8, od8, .func (PySem.W.fnOf "put" "Writer.put" (defArgs sPut) (defBody sPut) (defScope sPut) .none kV8 dc8 pm8 an8 cd8 ct8), sl8⟩)
    (c8 : PySem.W.codeIn K cd8 "Writer.put" = true)
    (k8 : PySem.W.keepIn K (.ref f8) = true)
    (a9 : PySem.W.findIn K (.ref CW) "put_run" = some (some (.ref f9)))
    (i9 : PySem.W.isFn K (.ref f9) = true)
    (l9 : K.lookup f9 = some ⟨oc9, od9, .func (PySem.W.fnOf "put_run" "Writer.put_run" (defArgs sPutRun) (defBody sPutRun) (defScope sPutRun) .none kV9 dc9 pm9 an9 cd9 ct9), sl9⟩)
    (c9 : PySem.W.codeIn K cd9 "Writer.put_run" = true)
    (k9 : PySem.W.keepIn K (.ref f9) = true)
    (a10 : PySem.W.findIn K (.ref CW) "put_alone" = some (some (.ref f10)))
    (i10 : PySem.W.isFn K (.ref f10) = true)
    (l10 : K.lookup f10 = some ⟨oc10, od10, .func (PySem.W.fnOf "put_alone" "Writer.put_alone" (defArgs sAlone) (defBody sAlone) (defScope sAlone) .none kV10 dc10 pm10 an10 cd10 ct10), sl10⟩)
    (c10 : PySem.W.codeIn K cd10 "Writer.put_alone" = true)
    (k10 : PySem.W.keepIn K (.ref f10) = true)
    (a11 : PySem.W.findIn K (.ref CW) "put_by" = some (some (.ref f11)))
    (i11 : PySem.W.isFn K (.ref f11) = true)
    (l11 : K.lookup f11 = some ⟨oc11, od11, .func (PySem.W.fnOf "put_by" "Writer.put_by" (defArgs sBy) (defBody sBy) (defScope sBy) .none kV11 dc11 pm11 an11 cd11 ct11), sl11⟩)
    (c11 : PySem.W.codeIn K cd11 "Writer.put_by" = true)
    (k11 : PySem.W.keepIn K (.ref f11) = true)
    (a12 : PySem.W.findIn K (.ref CW) "put_bytes" = some (some (.ref f12)))
    (i12 : PySem.W.isFn K (.ref f12) = true)
    (l12 : K.lookup f12 = some ⟨oc12, od12, .func (PySem.W.fnOf "put_bytes" "Writer.put_bytes" (defArgs sBytes) (defBody sBytes) (defScope sBytes) .none kV12 dc12 pm12 an12 cd12 ct12), sl12⟩)
    (c12 : PySem.W.codeIn K cd12 "Writer.put_bytes" = true)
    (k12 : PySem.W.keepIn K (.ref f12) = true)
    (a13 : PySem.W.nsIn K mainGlobals "written" = some (some (.ref f13)))
    (l13 : K.lookup f13 = some ⟨oc13, od13, .func (PySem.W.fnOf "written" "written" (defArgs sWritten) (defBody sWritten) (defScope sWritten) .none kV13 dc13 pm13 an13 cd13 ct13), sl13⟩)
    (c13 : PySem.W.codeIn K cd13 "written" = true)
    (k13 : PySem.W.keepIn K (.ref f13) = true)
    (a14 : PySem.W.nsIn K mainGlobals "fax_write" = some (some (.ref f14)))
    (l14 : K.lookup f14 = some ⟨oc14, od14, .func (PySem.W.fnOf "fax_write" "fax_write" (defArgs sFax) (defBody sFax) (defScope sFax) .none kV14 dc14 pm14 an14 cd14 ct14), sl14⟩)
    (c14 : PySem.W.codeIn K cd14 "fax_write" = true)
    (k14 : PySem.W.keepIn K (.ref f14) = true)
    (gbo : PySem.W.nsIn K mainGlobals "BOTH_LONG" = some (some (.str (strAt top1 5) tbo)))
    (gws : PySem.W.nsIn K mainGlobals "WHITE_SHORT" = some (some (.str (strAt top1 1) tws)))
    (gwl : PySem.W.nsIn K mainGlobals "WHITE_LONG" = some (some (.str (strAt top1 2) twl)))
    (gbs : PySem.W.nsIn K mainGlobals "BLACK_SHORT" = some (some (.str (strAt top1 3) tbs)))
    (gbl : PySem.W.nsIn K mainGlobals "BLACK_LONG" = some (some (.str (strAt top1 4) tbl)))
    (gle : PySem.W.nsIn K mainGlobals "LINE_END" = some (some (.str ("000000000001") tle)))
    (gps : PySem.W.nsIn K mainGlobals "PASS" = some (some (.str ("0001") tps)))
    (gac : PySem.W.nsIn K mainGlobals "ACROSS" = some (some (.str ("001") tac)))
    (gml : PySem.W.nsIn K mainGlobals "MOST_LONG" = some (some (.int 2560 tml)))
    (gst : PySem.W.nsIn K mainGlobals "STEP" = some (some (.int 64 tst)))
    (gms : PySem.W.nsIn K mainGlobals "MOST_SIDE" = some (some (.int 16384 tms)))
    (gby : PySem.W.nsIn K mainGlobals "BEYOND" = some (some (.int (-1) tby)))
    (gtl : PySem.W.nsIn K mainGlobals "TOO_LONG" = some (some (.int (-2) ttl)))
    (gne : PySem.W.nsIn K mainGlobals "enumerate" = some none)
    (gnl : PySem.W.nsIn K mainGlobals "len" = some none)
    (gnr : PySem.W.nsIn K mainGlobals "range" = some none)
    (gnm : PySem.W.nsIn K mainGlobals "max" = some none)
    (gS : PySem.W.nsIn K mainGlobals "STRAIGHT" = some (some (.ref aS)))
    (lS : K.lookup aS = some ⟨.type "tuple", odS, .seq #[.str "0000010" tS1, .str "000010" tS2, .str "010" tS3, .str "1" tS4, .str "011" tS5, .str "000011" tS6, .str "0000011" tS7] nS, slS⟩) :
    ∃ fd : FuncData, (∀ (s : Shared) (us : List Value), us.length = (["kind", "k", "width", "rows", "most", "picture"] : List Str).length → BindsTo s fd ⟨us, []⟩ ((["kind", "k", "width", "rows", "most", "picture"] : List Str).zip us)) ∧ ∀ base : Heap, K.In base → base.Ns mainGlobals mg → FnOk P w K mg base CX0 5 fa fd ["kind", "k", "width", "rows", "most", "picture"] (spFax K) := by
  have e := hfa.symm.trans (PySem.W.mg_of X G a14)
  cases e
  have TX : Txt K mg := ⟨PySem.W.mg_none_of X G gne, PySem.W.mg_none_of X G gnl, PySem.W.mg_none_of X G gnr, PySem.W.mg_none_of X G gnm, ⟨_, PySem.W.mg_of X G gbo⟩, ⟨_, PySem.W.mg_of X G gws⟩, ⟨_, PySem.W.mg_of X G gwl⟩, ⟨_, PySem.W.mg_of X G gbs⟩, ⟨_, PySem.W.mg_of X G gbl⟩, ⟨_, PySem.W.mg_of X G gle⟩, ⟨_, PySem.W.mg_of X G gps⟩, ⟨_, PySem.W.mg_of X G gac⟩, ⟨_, PySem.W.mg_of X G gml⟩, ⟨_, PySem.W.mg_of X G gst⟩, ⟨_, PySem.W.mg_of X G gms⟩, ⟨_, PySem.W.mg_of X G gby⟩, ⟨_, PySem.W.mg_of X G gtl⟩⟩
  have TS : Straight K mg := ⟨aS, PySem.W.mg_of X G gS, fun H => .inr ⟨_, _, _, lS, rfl, rfl, by show 7 ≤ sizeLine; decide, .cons ⟨_, rfl⟩ (.cons ⟨_, rfl⟩ (.cons ⟨_, rfl⟩ (.cons ⟨_, rfl⟩ (.cons ⟨_, rfl⟩ (.cons ⟨_, rfl⟩ (.cons ⟨_, rfl⟩ .nil))))))⟩⟩
  have TA : AbT K mg CA f4 f5 f6 := ⟨⟨pgCA, hdCA, poCA, saCA⟩, noCAchanges, noCAwidth, noCAspot, PySem.W.mg_of X G gCA, ⟨mkCA, a4, i4, kcCA⟩, ⟨a5, i5, k5⟩, ⟨a6, i6, k6⟩⟩
  have TW : WrT K mg CW f7 f8 f9 f10 f11 f12 := ⟨⟨pgCW, hdCW, poCW, saCW⟩, noCWwidth, noCWtables, noCWfound, PySem.W.mg_of X G gCW, ⟨mkCW, a7, i7, kcCW⟩, ⟨a8, i8, k8⟩, ⟨a9, i9, k9⟩, ⟨a10, i10, k10⟩, ⟨a11, i11, k11⟩, ⟨a12, i12, k12⟩⟩
  have F1 := fun_mk (st := sTab) l1 c1 k1
  have b1 := F1.binds (ps := ["short", "long"]) fun _ _ _ _ _ _ us hl => match us, hl with | [_, _], _ => rfl
  have F2 := fun_mk (st := sRun) l2 c2 k2
  have b2 := F2.binds (ps := ["by_length", "length"]) fun _ _ _ _ _ _ us hl => match us, hl with | [_, _], _ => rfl
  have F3 := fun_mk (st := sChg) l3 c3 k3
  have b3 := F3.binds (ps := ["row", "width"]) fun _ _ _ _ _ _ us hl => match us, hl with | [_, _], _ => rfl
  have F4 := fun_mk (st := sAbI) l4 c4 k4
  have b4 := F4.binds (ps := ["self", "changes", "width"]) fun _ _ _ _ _ _ us hl => match us, hl with | [_, _, _], _ => rfl
  have F5 := fun_mk (st := sAt) l5 c5 k5
  have b5 := F5.binds (ps := ["self", "spot"]) fun _ _ _ _ _ _ us hl => match us, hl with | [_, _], _ => rfl
  have F6 := fun_mk (st := sBoth) l6 c6 k6
  have b6 := F6.binds (ps := ["self", "place", "colour"]) fun _ _ _ _ _ _ us hl => match us, hl with | [_, _, _], _ => rfl
  have F7 := fun_mk (st := sWrI) l7 c7 k7
  have b7 := F7.binds (ps := ["self", "width"]) fun _ _ _ _ _ _ us hl => match us, hl with | [_, _], _ => rfl
  have F8 := fun_mk (st := sPut) l8 c8 k8
  have b8 := F8.binds (ps := ["self", "code"]) fun _ _ _ _ _ _ us hl => match us, hl with | [_, _], _ => rfl
  have F9 := fun_mk (st := sPutRun) l9 c9 k9
  have b9 := F9.binds (ps := ["self", "colour", "length"]) fun _ _ _ _ _ _ us hl => match us, hl with | [_, _, _], _ => rfl
  have F10 := fun_mk (st := sAlone) l10 c10 k10
  have b10 := F10.binds (ps := ["self", "changes"]) fun _ _ _ _ _ _ us hl => match us, hl with | [_, _], _ => rfl
  have F11 := fun_mk (st := sBy) l11 c11 k11
  have b11 := F11.binds (ps := ["self", "changes", "before"]) fun _ _ _ _ _ _ us hl => match us, hl with | [_, _, _], _ => rfl
  have F12 := fun_mk (st := sBytes) l12 c12 k12
  have b12 := F12.binds (ps := ["self"]) fun _ _ _ _ _ _ us hl => match us, hl with | [_], _ => rfl
  have F13 := fun_mk (st := sWritten) l13 c13 k13
  have b13 := F13.binds (ps := ["kind", "often", "width", "rows", "picture"]) fun _ _ _ _ _ _ us hl => match us, hl with | [_, _, _, _, _], _ => rfl
  have F14 := fun_mk (st := sFax) l14 c14 k14
  refine ⟨PySem.W.fnOf "fax_write" "fax_write" (defArgs sFax) (defBody sFax) (defScope sFax) .none kV14 dc14 pm14 an14 cd14 ct14, fun s us hu => match us, hu with | [_, _, _, _, _, _], _ => .of_eq rfl, fun base _ _ => ?_⟩
  have G1 : FnOk P w K mg base CX0 1 f1 _ ["short", "long"] spTab := ok_tab F1 TX
  have G2 : FnOk P w K mg base CX0 1 f2 _ ["by_length", "length"] spRun := ok_run F2 TX
  have G3 : FnOk P w K mg base CX0 1 f3 _ ["row", "width"] (spChg K) := ok_chg F3 TX
  have G4 : FnOk P w K mg base CX0 1 f4 _ ["self", "changes", "width"] (spAbI CA) := ok_abI F4 TA
  have G5 : FnOk P w K mg base CX0 1 f5 _ ["self", "spot"] (spAt CA) := ok_at F5 TX TA
  have G6 : FnOk P w K mg base CX0 2 f6 _ ["self", "place", "colour"] (spBoth CA) := ok_both F6 TX TA G5 b5
  have G7 : FnOk P w K mg base CX0 2 f7 _ ["self", "width"] (spWrI CW) := ok_wrI F7 TX TW G1 (PySem.W.mg_of X G a1) k1 b1
  have G8 : FnOk P w K mg base CX0 1 f8 _ ["self", "code"] (spPut CW) := ok_put F8 TW
  have G9 : FnOk P w K mg base CX0 2 f9 _ ["self", "colour", "length"] (spPutRun CW) := ok_putRun F9 TW G2 (PySem.W.mg_of X G a2) k2 b2
  have G10 : FnOk P w K mg base CX0 3 f10 _ ["self", "changes"] (spAlone CW) := ok_alone F10 TW G9 b9
  have G11 : FnOk P w K mg base CX0 3 f11 _ ["self", "changes", "before"] (spBy CW) := ok_by F11 TX TS TW TA G9 b9 G8 b8 G4 b4 G6 b6
  have G12 : FnOk P w K mg base CX0 1 f12 _ ["self"] (spBytes CW) := ok_bytes F12 TX TW
  have G13 : FnOk P w K mg base CX0 4 f13 _ ["kind", "often", "width", "rows", "picture"] (spWritten K) := ok_written F13 TX TW G7 b7 G8 b8 G10 b10 G11 b11 G12 b12 G3 (PySem.W.mg_of X G a3) k3 b3
  exact ok_fax F14 TX G13 (PySem.W.mg_of X G a13) k13 b13
theorem and_of {a b : Bool} (h : (a && b) = true) : a = true ∧ b = true := by simpa using h
theorem len_of {l : List Int} (h : PySem.W.Codec.inList 0 100000 (PySem.W.Codec.inInt 0 255) l = true) : l.length ≤ 100000 := by
  have h1 : PySem.W.Codec.inNat 0 100000 l.length = true := (and_of (show (PySem.W.Codec.inNat 0 100000 l.length && _) = true from h)).1
  exact of_decide_eq_true (and_of h1).2
end Fax1
open PySem PySem.W PyProof.Rows
set_option maxRecDepth 100000 in
set_option maxHeartbeats 8000000 in
theorem PySem.Challenge.cw_faxpages_s01_fax_write_holds : PySem.Challenge.rw_faxpages_s01_fax_write.Holds := by
  have said := Fax.said1
  w_on; k_headS; (case hw => exact ⟨[.int 3, .int 0, .int 0, .int 0, .int 0, .list []], by decide +kernel, by decide +kernel⟩)
  k_fillS
  refine L2.walk_specK (r := PySem.Challenge.rw_faxpages_s01_fax_write) (k := 5) (CX := L2.CX0) (ps := ["kind", "k", "width", "rows", "most", "picture"]) (sp := Fax1.spFax) Fax.said1 rfl rfl ⟨rfl, by decide, by decide⟩ (fun w h Y => PySem.W.kIn_of Y) ?F ?S (fun _ _ _ _ z => z)
  case F =>
    intro w mg fa h Y KX G hmg
    refine' Fax1.all_mk KX G hmg ?gCA ?pgCA ?hdCA ?poCA ?saCA ?mkCA ?kcCA ?noCAchanges ?noCAwidth ?noCAspot ?gCW ?pgCW ?hdCW ?poCW ?saCW ?mkCW ?kcCW ?noCWwidth ?noCWtables ?noCWfound ?a1 ?l1 ?c1 ?k1 ?a2 ?l2 ?c2 ?k2 ?a3 ?l3 ?c3 ?k3 ?a4 ?i4 ?l4 ?c4 ?k4 ?a5 ?i5 ?l5 ?c5 ?k5 ?a6 ?i6 ?l6 ?c6 ?k6 ?a7 ?i7 ?l7 ?c7 ?k7 ?a8 ?i8 ?l8 ?c8 ?k8 ?a9 ?i9 ?l9 ?c9 ?k9 ?a10 ?i10 ?l10 ?c10 ?k10 ?a11 ?i11 ?l11 ?c11 ?k11 ?a12 ?i12 ?l12 ?c12 ?k12 ?a13 ?l13 ?c13 ?k13 ?a14 ?l14 ?c14 ?k14 ?gbo ?gws ?gwl ?gbs ?gbl ?gle ?gps ?gac ?gml ?gst ?gms ?gby ?gtl ?gne ?gnl ?gnr ?gnm ?gS ?lS
    (case gCA => k_is)
    (case pgCA => k_is)
    (case hdCA => k_is)
    (case poCA => k_is)
    (case saCA => k_is)
    (case mkCA => k_is)
    (case kcCA => k_is)
    (case noCAchanges => k_is)
    (case noCAwidth => k_is)
    (case noCAspot => k_is)
    (case gCW => k_is)
    (case pgCW => k_is)
    (case hdCW => k_is)
    (case poCW => k_is)
    (case saCW => k_is)
    (case mkCW => k_is)
    (case kcCW => k_is)
    (case noCWwidth => k_is)
    (case noCWtables => k_is)
    (case noCWfound => k_is)
    (case a1 => k_is)
    (case l1 => k_is)
    (case c1 => k_is)
    (case k1 => k_is)
    (case a2 => k_is)
    (case l2 => k_is)
    (case c2 => k_is)
    (case k2 => k_is)
    (case a3 => k_is)
    (case l3 => k_is)
    (case c3 => k_is)
    (case k3 => k_is)
    (case a4 => k_is)
    (case i4 => k_is)
    (case l4 => k_is)
    (case c4 => k_is)
    (case k4 => k_is)
    (case a5 => k_is)
    (case i5 => k_is)
    (case l5 => k_is)
    (case c5 => k_is)
    (case k5 => k_is)
    (case a6 => k_is)
    (case i6 => k_is)
    (case l6 => k_is)
    (case c6 => k_is)
    (case k6 => k_is)
    (case a7 => k_is)
    (case i7 => k_is)
    (case l7 => k_is)
    (case c7 => k_is)
    (case k7 => k_is)
    (case a8 => k_is)
    (case i8 => k_is)
    (case l8 => k_is)
    (case c8 => k_is)
    (case k8 => k_is)
    (case a9 => k_is)
    (case i9 => k_is)
    (case l9 => k_is)
    (case c9 => k_is)
    (case k9 => k_is)
    (case a10 => k_is)
    (case i10 => k_is)
    (case l10 => k_is)
    (case c10 => k_is)
    (case k10 => k_is)
    (case a11 => k_is)
    (case i11 => k_is)
    (case l11 => k_is)
    (case c11 => k_is)
    (case k11 => k_is)
    (case a12 => k_is)
    (case i12 => k_is)
    (case l12 => k_is)
    (case c12 => k_is)
    (case k12 => k_is)
    (case a13 => k_is)
    (case l13 => k_is)
    (case c13 => k_is)
    (case k13 => k_is)
    (case a14 => k_is)
    (case l14 => k_is)
    (case c14 => k_is)
    (case k14 => k_is)
    (case gbo => k_is)
    (case gws => k_is)
    (case gwl => k_is)
    (case gbs => k_is)
    (case gbl => k_is)
    (case gle => k_is)
    (case gps => k_is)
    (case gac => k_is)
    (case gml => k_is)
    (case gst => k_is)
    (case gms => k_is)
    (case gby => k_is)
    (case gtl => k_is)
    (case gne => k_is)
    (case gnl => k_is)
    (case gnr => k_is)
    (case gnm => k_is)
    (case gS => k_is)
    (case lS => k_is)
  case S =>
    intro K H xs a hO hwi hask hx
    cases hx with
    | cons h1 hx => cases hx with
    | cons h2 hx => cases hx with
    | cons h3 hx => cases hx with
    | cons h4 hx => cases hx with
    | cons h5 hx => cases hx with
    | cons h6 hx =>
      cases hx; cases h1; cases h2; cases h3; cases h4; cases h5
      cases h6 with
      | lst hs ha =>
        have e := L2.ints_dw a.2.2.2.2.2.1 _ ha
        subst e
        have hw := Fax1.and_of (show (PySem.W.Codec.inInt 0 4294967295 a.1 && (PySem.W.Codec.inInt 0 4294967295 a.2.1 && (PySem.W.Codec.inInt 0 4294967295 a.2.2.1 && (PySem.W.Codec.inInt 0 4294967295 a.2.2.2.1 && (PySem.W.Codec.inInt 0 4294967295 a.2.2.2.2.1 && (PySem.W.Codec.inList 0 100000 (PySem.W.Codec.inInt 0 255) a.2.2.2.2.2.1 && true)))))) = true from hwi)
        have hl := Fax1.len_of (Fax1.and_of (Fax1.and_of (Fax1.and_of (Fax1.and_of (Fax1.and_of hw.2).2).2).2).2).1
        exact ⟨a.1, a.2.1, a.2.2.1, a.2.2.2.1, a.2.2.2.2.1, _, a.2.2.2.2.2.1, rfl, hs, hask, hl, fun H' p hp => .lst (L2.SqL.of hp) (L2.dw_ints _)⟩
#print axioms PySem.Challenge.cw_faxpages_s01_fax_write_holds
