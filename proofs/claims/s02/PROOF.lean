import PyProof.Rows.All
import Wide.All
import OpenK.AllK
import Wide.FinOn
import Open.SpecLaws
import KE.OsGo
import KE.GoesMore
import HandS.ForSpec
import HandS.ForMost
import HandS.Style
import HandS.Walk
import HandS.Evl
import HandS.More
import HandS.Iter
import HandS.Exc
import HandS.ExcOwn
import PyProof.EnumMake
import PyProof.Rows.SortShellAny
import HandS.WideBits
import HandS.ExcInit
import HandS.ExcField
import HandS.WordsExc
import HandS.StrMore
import HandS.Comp
import PySem.Challenge.RW_faxpages_s02_fax_read
namespace Fax
open Ql31

/-- the places of change of a row's points from place i on, c the colour before -/
def chgF : Nat → Bool → List Bool → List Nat
  | _, _, [] => []
  | i, c, b :: r => if b = c then chgF (i + 1) c r else i :: chgF (i + 1) b r
def chg (r : List Bool) : List Nat := chgF 0 false r
def lastC (c : Bool) (r : List Bool) : Bool := r.getLast?.getD c

theorem lastC_nil (c : Bool) : lastC c [] = c := rfl
theorem lastC_cons (c b : Bool) (r : List Bool) : lastC c (b :: r) = lastC b r := by
  unfold lastC
  rw [List.getLast?_cons]
  rfl
theorem lastC_append (c : Bool) (r s : List Bool) : lastC c (r ++ s) = lastC (lastC c r) s := by
  induction r generalizing c with
  | nil => rfl
  | cons b r ih => rw [List.cons_append, lastC_cons, lastC_cons, ih]
theorem chgF_append (i : Nat) (c : Bool) (r s : List Bool) : chgF i c (r ++ s) = chgF i c r ++ chgF (i + r.length) (lastC c r) s := by
  induction r generalizing i c with
  | nil => simp [chgF, lastC]
  | cons b r ih =>
    rw [lastC_cons, List.cons_append]
    simp only [chgF, List.length_cons]
    split
    · rename_i h
      subst h
      rw [ih]
      congr 2
      omega
    · rw [ih, List.cons_append]
      congr 3
      omega
theorem chgF_same (i n : Nat) (c : Bool) : chgF i c (List.replicate n c) = [] := by
  induction n generalizing i with
  | zero => rfl
  | succ n ih =>
    rw [List.replicate_succ]
    simp only [chgF, if_true]
    exact ih _
theorem lastC_same (n : Nat) (c : Bool) : lastC c (List.replicate n c) = c := by
  induction n with
  | zero => rfl
  | succ n ih =>
    rw [List.replicate_succ, lastC_cons]
    exact ih
theorem chgF_replicate (i n : Nat) (c d : Bool) (hn : 0 < n) : chgF i c (List.replicate n d) = if d = c then [] else [i] := by
  by_cases h : d = c
  · subst h
    rw [if_pos rfl, chgF_same]
  · rw [if_neg h]
    cases n with
    | zero => omega
    | succ n =>
      rw [List.replicate_succ]
      simp only [chgF, if_neg h, chgF_same]
theorem lastC_replicate (n : Nat) (c d : Bool) (hn : 0 < n) : lastC c (List.replicate n d) = d := by
  cases n with
  | zero => omega
  | succ n => rw [List.replicate_succ, lastC_cons, lastC_same]

theorem chgF_ge : ∀ (r : List Bool) (i : Nat) (c : Bool), ∀ y ∈ chgF i c r, i ≤ y ∧ y < i + r.length
  | [], _, _, y, h => by simp [chgF] at h
  | b :: r, i, c, y, h => by
    simp only [chgF] at h
    simp only [List.length_cons]
    split at h
    · have := chgF_ge r (i + 1) c y h
      omega
    · rcases List.mem_cons.mp h with h | h
      · omega
      · have := chgF_ge r (i + 1) b y h
        omega
theorem chgF_sorted : ∀ (r : List Bool) (i : Nat) (c : Bool), (chgF i c r).Pairwise (· < ·)
  | [], _, _ => List.Pairwise.nil
  | b :: r, i, c => by
    simp only [chgF]
    split
    · exact chgF_sorted r _ _
    · refine List.Pairwise.cons (fun y h => ?_) (chgF_sorted r _ _)
      have := chgF_ge r _ _ y h
      omega
/-- how many places of a sorted list are at most p -/
def Spot (cs : List Nat) (p : Int) (j : Nat) : Prop := j ≤ cs.length ∧ (∀ i (h : i < cs.length), i < j → (cs[i] : Int) ≤ p) ∧ ∀ i (h : i < cs.length), j ≤ i → p < (cs[i] : Int)
theorem Spot.cons {y : Nat} {cs : List Nat} {p : Int} {j : Nat} (h : Spot (y :: cs) p j) (hy : (y : Int) ≤ p) : ∃ k, j = k + 1 ∧ Spot cs p k := by
  obtain ⟨h1, h2, h3⟩ := h
  cases j with
  | zero =>
    have := h3 0 (by simp) (Nat.le_refl _)
    simp at this
    omega
  | succ k =>
    refine ⟨k, rfl, by simpa using h1, fun i hi hk => ?_, fun i hi hk => ?_⟩
    · have := h2 (i + 1) (by simpa using hi) (by omega)
      simpa using this
    · have := h3 (i + 1) (by simpa using hi) (by omega)
      simpa using this
theorem Spot.zero {cs : List Nat} {p : Int} {j : Nat} (h : Spot cs p j) (hp : ∀ y ∈ cs, p < (y : Int)) : j = 0 := by
  obtain ⟨h1, h2, h3⟩ := h
  cases j with
  | zero => rfl
  | succ k =>
    have a := h2 0 (by omega) (by omega)
    have b := hp cs[0] (List.getElem_mem _)
    omega
theorem parity : ∀ (r : List Bool) (i : Nat) (c : Bool) (x j : Nat), i ≤ x → x < i + r.length → Spot (chgF i c r) x j → r.getD (x - i) false = (c != decide (j % 2 = 1))
  | [], i, c, x, j, h1, h2, _ => by simp at h2; omega
  | b :: r, i, c, x, j, h1, h2, hS => by
    simp only [chgF] at hS
    simp only [List.length_cons] at h2
    by_cases hx : x = i
    · subst hx
      rw [Nat.sub_self, List.getD_cons_zero]
      split at hS
      · rename_i e
        have hj : j = 0 := hS.zero fun y hy => by have := chgF_ge _ _ _ y hy; omega
        subst hj e
        simp
      · rename_i e
        obtain ⟨k, rfl, hT⟩ := hS.cons (by omega)
        have hj : k = 0 := hT.zero fun y hy => by have := chgF_ge _ _ _ y hy; omega
        subst hj
        revert e
        cases b <;> cases c <;> simp
    · have ex : x - i = (x - (i + 1)) + 1 := by omega
      rw [ex, List.getD_cons_succ]
      split at hS
      · exact parity r (i + 1) c x j (by omega) (by omega) hS
      · rename_i e
        obtain ⟨k, rfl, hT⟩ := hS.cons (by omega)
        rw [parity r (i + 1) b x k (by omega) (by omega) hT]
        have e1 : decide ((k + 1) % 2 = 1) = !decide (k % 2 = 1) := by
          by_cases q : k % 2 = 1
          · rw [decide_eq_true q, decide_eq_false (by omega)]
            rfl
          · rw [decide_eq_false q, decide_eq_true (by omega)]
            rfl
        rw [e1]
        revert e
        cases b <;> cases c <;> simp

/-- the spot is there -/
theorem spot_of : ∀ (cs : List Nat), cs.Pairwise (· < ·) → ∀ p : Int, ∃ j, Spot cs p j
  | [], _, p => ⟨0, Nat.le_refl _, fun i h => by simp at h, fun i h => by simp at h⟩
  | y :: cs, h, p => by
    have ih := spot_of cs (List.pairwise_cons.mp h).2 p
    by_cases hy : (y : Int) ≤ p
    · obtain ⟨j, h1, h2, h3⟩ := ih
      refine ⟨j + 1, by simpa using h1, fun i hi hj => ?_, fun i hi hj => ?_⟩
      · cases i with
        | zero => simpa using hy
        | succ i => simpa using h2 i (by simpa using hi) (by omega)
      · cases i with
        | zero => omega
        | succ i => simpa using h3 i (by simpa using hi) (by omega)
    · refine ⟨0, Nat.zero_le _, fun i hi hj => by omega, fun i hi _ => ?_⟩
      cases i with
      | zero => simp; omega
      | succ i =>
        have : cs[i]'(by simpa using hi) ∈ cs := List.getElem_mem _
        have := (List.pairwise_cons.mp h).1 _ this
        simp
        omega
theorem sorted_lt {cs : List Nat} (h : cs.Pairwise (· < ·)) {i j : Nat} (hj : j < cs.length) (hij : i < j) : cs[i]'(by omega) < cs[j] := List.pairwise_iff_getElem.mp h i j (by omega) hj hij
/-- at cs[i] it is i + 1 -/
theorem spot_at {cs : List Nat} (h : cs.Pairwise (· < ·)) {i : Nat} (hi : i < cs.length) : Spot cs (cs[i] : Nat) (i + 1) :=
  ⟨hi, fun k hk hki => by
    rcases Nat.lt_or_eq_of_le (Nat.le_of_lt_succ hki) with q | q
    · have := sorted_lt h hi q
      omega
    · subst q
      exact Int.le_refl _, fun k hk hki => by
    have := sorted_lt h hk (show i < k by omega)
    omega⟩
theorem spot_before {cs : List Nat} (h : cs.Pairwise (· < ·)) {i : Nat} (hi : i < cs.length) : Spot cs ((cs[i] : Nat) - 1 : Int) i :=
  ⟨Nat.le_of_lt hi, fun k hk hki => by
    have := sorted_lt h hi hki
    omega, fun k hk hki => by
    rcases Nat.lt_or_eq_of_le hki with q | q
    · have := sorted_lt h hk q
      omega
    · subst q
      omega⟩
theorem Spot.unique {cs : List Nat} {p : Int} {i j : Nat} (a : Spot cs p i) (b : Spot cs p j) : i = j := by
  obtain ⟨a1, a2, a3⟩ := a
  obtain ⟨b1, b2, b3⟩ := b
  rcases Nat.lt_trichotomy i j with h | h | h
  · have x := a3 i (by omega) (Nat.le_refl _)
    have y := b2 i (by omega) h
    omega
  · exact h
  · have x := b3 j (by omega) (Nat.le_refl _)
    have y := a2 j (by omega) h
    omega

theorem chg_lt (r : List Bool) : ∀ y ∈ chg r, y < r.length := fun y h => by
  have := (chgF_ge r 0 false y h).2
  omega
theorem chg_sorted (r : List Bool) : (chg r).Pairwise (· < ·) := chgF_sorted r 0 false
/-- the colour at a place from 0 on, by the spot -/
theorem at_spot (r : List Bool) (x : Int) (j : Nat) (h0 : 0 ≤ x) (hx : x < r.length) (hS : Spot (chg r) x j) : at_ r x = decide (j % 2 = 1) := by
  have hn : ¬ x < 0 := by omega
  have e := parity r 0 false x.toNat j (Nat.zero_le _) (by omega) (by rw [Int.toNat_of_nonneg h0]; exact hS)
  unfold at_
  rw [if_neg hn]
  rw [Nat.sub_zero] at e
  rw [e]
  cases decide (j % 2 = 1) <;> rfl
theorem at_spot' (r : List Bool) (x : Int) (j : Nat) (hx : x < r.length) (hS : Spot (chg r) x j) : at_ r x = decide (j % 2 = 1) := by
  by_cases h0 : 0 ≤ x
  · exact at_spot r x j h0 hx hS
  · have hj : j = 0 := hS.zero fun y hy => by omega
    subst hj
    unfold at_
    rw [if_pos (by omega)]
    rfl
theorem at_chg (r : List Bool) (i : Nat) (hi : i < (chg r).length) : at_ r ((chg r)[i] : Nat) = decide (i % 2 = 0) ∧ at_ r (((chg r)[i] : Nat) - 1 : Int) = decide (i % 2 = 1) := by
  have hl := chg_lt r _ (List.getElem_mem hi)
  refine ⟨?_, at_spot' r _ i (by omega) (spot_before (chg_sorted r) hi)⟩
  rw [at_spot' r _ (i + 1) (by omega) (spot_at (chg_sorted r) hi)]
  by_cases h : i % 2 = 0
  · rw [decide_eq_true h, decide_eq_true (by omega)]
  · rw [decide_eq_false h, decide_eq_false (by omega)]
/-- a place where the colour changes is in the list -/
theorem chg_of_ne (r : List Bool) (y : Nat) (hy : y < r.length) (h : at_ r y ≠ at_ r ((y : Int) - 1)) : ∃ i, ∃ hi : i < (chg r).length, (chg r)[i] = y := by
  obtain ⟨j, hj⟩ := spot_of _ (chg_sorted r) (y : Int)
  obtain ⟨k, hk⟩ := spot_of _ (chg_sorted r) ((y : Int) - 1)
  rw [at_spot' r _ j (by omega) hj, at_spot' r _ k (by omega) hk] at h
  have hjk : j ≠ k := fun e => h (by rw [e])
  obtain ⟨a1, a2, a3⟩ := hj
  obtain ⟨b1, b2, b3⟩ := hk
  have hkj : k < j := by
    rcases Nat.lt_trichotomy j k with q | q | q
    · have x := a3 j (by omega) (Nat.le_refl _)
      have z := b2 j (by omega) q
      omega
    · exact absurd q hjk
    · exact q
  have x := b3 k (by omega) (Nat.le_refl _)
  have z := a2 k (by omega) hkj
  exact ⟨k, by omega, by omega⟩

/-- the first of a range, or its end -/
theorem first_of {n v : Nat} {P : Nat → Bool} (hv : v ≤ n) (h1 : v < n → P v = true) (h2 : ∀ y, y < v → P y = false) : ((List.range n).find? P).getD n = v := by
  rcases Nat.lt_or_eq_of_le hv with h | h
  · have e : (List.range n).find? P = some v := by
      rw [List.find?_range_eq_some]
      refine ⟨h1 h, List.mem_range.mpr h, fun j hj => ?_⟩
      rw [h2 j hj]
      rfl
    rw [e]
    rfl
  · subst h
    have e : (List.range v).find? P = none := by
      rw [List.find?_range_eq_none]
      intro i hi
      rw [h2 i hi]
      rfl
    rw [e]
    rfl
theorem getD_out {cs : List Nat} {n i : Nat} (h : cs.length ≤ i) : cs.getD i n = n := by
  rw [List.getD_eq_getElem?_getD, List.getElem?_eq_none h]
  rfl
theorem getD_mem {cs : List Nat} {n i : Nat} (h : cs.getD i n < n) : i < cs.length := by
  rcases Nat.lt_or_ge i cs.length with q | q
  · exact q
  · rw [getD_out q] at h
    omega
theorem getD_at {cs : List Nat} {n i : Nat} (h : i < cs.length) : cs.getD i n = cs[i] := by
  rw [List.getD_eq_getElem?_getD, List.getElem?_eq_getElem h]
  rfl
theorem chg_getD_le (r : List Bool) (i : Nat) : (chg r).getD i r.length ≤ r.length := by
  rcases Nat.lt_or_ge i (chg r).length with q | q
  · rw [getD_at q]
    exact Nat.le_of_lt (chg_lt r _ (List.getElem_mem q))
  · rw [getD_out q]
    exact Nat.le_refl _
/-- which change it is: the next one to the other colour than c's, from the spot j -/
def pick (j : Nat) (c : Bool) : Nat := if j % 2 = c.toNat then j else j + 1
theorem pick_mod (j : Nat) (c : Bool) : pick j c % 2 = c.toNat := by
  unfold pick
  split
  · assumption
  · cases c <;> simp at * <;> omega
theorem pick_ge (j : Nat) (c : Bool) : j ≤ pick j c := by
  unfold pick
  split <;> omega
theorem col_even (c : Bool) (j : Nat) (h : j % 2 = c.toNat) : decide (j % 2 = 0) = !c ∧ decide (j % 2 = 1) = c := by
  cases c <;> simp at * <;> omega
theorem change_is (r : List Bool) (p : Int) (c : Bool) (j : Nat) (hS : Spot (chg r) p j) : change r p (!c) = (chg r).getD (pick j c) r.length := by
  unfold change
  obtain ⟨h1, h2, h3⟩ := hS
  refine first_of (chg_getD_le r _) (fun hv => ?_) fun y hy => ?_
  · have hi := getD_mem hv
    rw [getD_at hi]
    obtain ⟨c1, c2⟩ := at_chg r _ hi
    obtain ⟨e1, e2⟩ := col_even c _ (pick_mod j c)
    rw [c1, c2, e1, e2, decide_eq_true (h3 _ hi (pick_ge j c))]
    cases c <;> rfl
  · have hyl : y < r.length := Nat.lt_of_lt_of_le hy (chg_getD_le r _)
    cases hP : (decide (p < (y : Int)) && (at_ r y == !c && at_ r ((y : Int) - 1) != !c)) with
    | false => rfl
    | true =>
      exfalso
      simp only [Bool.and_eq_true, decide_eq_true_eq, beq_iff_eq, bne_iff_ne] at hP
      obtain ⟨hp, hc, hd⟩ := hP
      obtain ⟨i, hi, e⟩ := chg_of_ne r y hyl (by rw [hc]; exact Ne.symm hd)
      have hji : j ≤ i := by
        rcases Nat.lt_or_ge i j with q | q
        · have := h2 i hi q
          rw [e] at this
          omega
        · exact q
      have hip : i < pick j c := by
        rcases Nat.lt_or_ge i (pick j c) with q | q
        · exact q
        · rw [getD_at (Nat.lt_of_le_of_lt q hi), ← e] at hy
          rcases Nat.lt_or_eq_of_le q with z | z
          · have := sorted_lt (chg_sorted r) hi z
            omega
          · subst z
            omega
      have hc1 := (at_chg r i hi).1
      rw [e, hc] at hc1
      unfold pick at hip
      split at hip
      · omega
      · rename_i hne
        have : i = j := by omega
        subst this
        cases c <;> simp at * <;> omega
theorem other_after (r : List Bool) (j : Nat) (c : Bool) (hj : j % 2 = c.toNat) : other r ((chg r).getD j r.length : Nat) (!c) = (chg r).getD (j + 1) r.length := by
  unfold other
  refine first_of (chg_getD_le r _) (fun hv => ?_) fun y hy => ?_
  · have hi := getD_mem hv
    have hi0 : j < (chg r).length := by omega
    rw [getD_at hi, getD_at hi0]
    obtain ⟨c1, c2⟩ := at_chg r _ hi
    have := sorted_lt (chg_sorted r) hi (Nat.lt_succ_self j)
    rw [c1, decide_eq_true (by omega)]
    cases c <;> simp at * <;> omega
  · have hyl : y < r.length := Nat.lt_of_lt_of_le hy (chg_getD_le r _)
    cases hP : (decide (((chg r).getD j r.length : Nat) < (y : Int)) && (at_ r y != !c)) with
    | false => rfl
    | true =>
      exfalso
      simp only [Bool.and_eq_true, decide_eq_true_eq, bne_iff_ne] at hP
      obtain ⟨hp, hc⟩ := hP
      have hi0 : j < (chg r).length := getD_mem (n := r.length) (by omega)
      rw [getD_at hi0] at hp
      have hS : Spot (chg r) (y : Int) (j + 1) := ⟨hi0, fun k hk hkj => by
        rcases Nat.lt_or_eq_of_le (Nat.le_of_lt_succ hkj) with q | q
        · have := sorted_lt (chg_sorted r) hi0 q
          omega
        · subst q
          omega, fun k hk hkj => by
        rw [getD_at (by omega)] at hy
        rcases Nat.lt_or_eq_of_le hkj with q | q
        · have := sorted_lt (chg_sorted r) hk q
          omega
        · subst q
          omega⟩
      rw [at_spot' r _ _ (by omega) hS] at hc
      apply hc
      cases c <;> simp at * <;> omega
/-- both of the program: the next change to the other colour, and the one behind it -/
theorem both_is (r : List Bool) (p : Int) (c : Bool) (j : Nat) (hS : Spot (chg r) p j) :
    change r p (!c) = (chg r).getD (pick j c) r.length ∧ other r (change r p (!c) : Nat) (!c) = (chg r).getD (pick j c + 1) r.length := by
  refine ⟨change_is r p c j hS, ?_⟩
  rw [change_is r p c j hS]
  exact other_after r _ c (pick_mod j c)
/-- where one stands in the row: before it, and white; or at a place of this colour -/
def Stands (r : List Bool) (a : Int) (c : Bool) : Prop := a < r.length ∧ at_ r a = c
theorem other_is_change (r : List Bool) (a : Int) (c : Bool) (h : Stands r a c) : other r a c = change r a (!c) := by
  obtain ⟨ha, hc⟩ := h
  obtain ⟨j, hS⟩ := spot_of _ (chg_sorted r) a
  rw [change_is r a c j hS]
  have hp : decide (j % 2 = 1) = c := by rw [← at_spot' r a j ha hS]; exact hc
  have hj : j % 2 = c.toNat := by cases c <;> simp at * <;> omega
  have e : pick j c = j := if_pos hj
  rw [e]
  unfold other
  obtain ⟨h1, h2, h3⟩ := hS
  refine first_of (chg_getD_le r _) (fun hv => ?_) fun y hy => ?_
  · have hi := getD_mem hv
    rw [getD_at hi, (at_chg r _ hi).1, decide_eq_true (h3 j hi (Nat.le_refl _)), (col_even c j hj).1]
    cases c <;> rfl
  · have hyl : y < r.length := Nat.lt_of_lt_of_le hy (chg_getD_le r _)
    cases hP : (decide (a < (y : Int)) && (at_ r y != c)) with
    | false => rfl
    | true =>
      exfalso
      simp only [Bool.and_eq_true, decide_eq_true_eq, bne_iff_ne] at hP
      obtain ⟨hp2, hc2⟩ := hP
      have hS : Spot (chg r) (y : Int) j := ⟨h1, fun k hk hkj => by
        have := h2 k hk hkj
        omega, fun k hk hkj => by
        rw [getD_at (by omega)] at hy
        rcases Nat.lt_or_eq_of_le hkj with q | q
        · have := sorted_lt (chg_sorted r) hk q
          omega
        · subst q
          omega⟩
      rw [at_spot' r _ _ (by omega) hS] at hc2
      exact hc2 hp
end Fax
namespace Fax
open Ql31

/-! ### A row alone -/
/-- runs up to the places of a list -/
def aloneC : Nat → Bool → List Nat → Bits
  | _, _, [] => []
  | b, c, p :: ps => run c (p - b) ++ aloneC p (!c) ps
theorem takeWhile_split (c : Bool) : ∀ r : List Bool, r = List.replicate (r.takeWhile fun b => b == c).length c ++ r.drop (r.takeWhile fun b => b == c).length ∧
    (∀ x s, r.drop (r.takeWhile fun b => b == c).length = x :: s → x = !c)
  | [] => ⟨rfl, fun x s h => by simp at h⟩
  | b :: r => by
    obtain ⟨h1, h2⟩ := takeWhile_split c r
    by_cases e : b = c
    · subst e
      have q : (b == b) = true := beq_self_eq_true b
      rw [List.takeWhile_cons, if_pos q]
      refine ⟨?_, ?_⟩
      · rw [List.length_cons, List.drop_succ_cons, List.replicate_succ, List.cons_append, ← h1]
      · rw [List.length_cons, List.drop_succ_cons]
        exact h2
    · have q : ¬ (b == c) = true := by simpa using e
      rw [List.takeWhile_cons, if_neg q]
      refine ⟨rfl, fun x s h => ?_⟩
      rw [List.length_nil, List.drop_zero] at h
      have : b = x := (List.cons.inj h).1
      subst this
      revert e
      cases b <;> cases c <;> simp
theorem alone_is : ∀ (k : Nat) (r : List Bool) (c : Bool) (i : Nat), (r.length < k ∨ r.length ≤ k ∧ ∃ s, r = c :: s) → alone k r c = aloneC i c (chgF i c r ++ [i + r.length])
  | 0, r, c, i, h => by
    rcases h with h | ⟨h, s, rfl⟩
    · omega
    · simp at h
  | k + 1, r, c, i, h => by
    obtain ⟨e, hd⟩ := takeWhile_split c r
    show (run c (r.takeWhile fun b => b == c).length ++ if (r.takeWhile fun b => b == c).length = r.length then [] else alone k (r.drop (r.takeWhile fun b => b == c).length) !c) = _
    generalize hn : (r.takeWhile fun b => b == c).length = n at e hd ⊢
    by_cases hl : n = r.length
    · rw [if_pos hl, List.append_nil]
      have : r.drop n = [] := by rw [hl]; exact List.drop_length
      rw [this, List.append_nil] at e
      rw [e, chgF_same, List.nil_append, List.length_replicate]
      show _ = run c (i + n - i) ++ []
      rw [List.append_nil]
      congr 1
      omega
    · rw [if_neg hl]
      have hle : n ≤ r.length := by
        have := congrArg List.length e
        rw [List.length_append, List.length_replicate] at this
        omega
      have hdl : (r.drop n).length = r.length - n := List.length_drop
      cases hs : r.drop n with
      | nil =>
        rw [hs] at hdl
        simp at hdl
        omega
      | cons x s =>
        have hx := hd x s hs
        subst hx
        rw [hs] at hdl
        have hk : ((!c) :: s).length ≤ k := by
          rcases h with h | ⟨h, z, hz⟩
          · omega
          · have hn0 : 0 < n := by
              rw [← hn, hz, List.takeWhile_cons, if_pos (beq_self_eq_true c), List.length_cons]
              omega
            omega
        rw [alone_is k ((!c) :: s) (!c) (i + n) (.inr ⟨hk, s, rfl⟩)]
        · rw [e, hs, chgF_append, chgF_same, List.nil_append, List.length_replicate, lastC_same]
          have q1 : chgF (i + n) c ((!c) :: s) = (i + n) :: chgF (i + n + 1) (!c) s := by
            simp only [chgF]
            rw [if_neg (by cases c <;> simp)]
          have q2 : chgF (i + n) (!c) ((!c) :: s) = chgF (i + n + 1) (!c) s := by
            simp only [chgF, if_true]
          rw [q1, q2, List.cons_append]
          show _ = run c (i + n - i) ++ aloneC (i + n) (!c) _
          rw [show i + n - i = n by omega]
          congr 3
          rw [List.length_append, List.length_replicate]
          congr 1
          omega
theorem rowAlone_is (r : List Bool) : rowAlone r = aloneC 0 false (chg r ++ [r.length]) := by
  unfold rowAlone
  rw [alone_is _ r false 0 (.inl (Nat.lt_succ_self _)), Nat.zero_add]
  rfl

/-! ### A row by the one above -/
theorem find_range_gt {n : Nat} {P : Nat → Bool} {p : Int} (h : ∀ y, P y = true → p < (y : Int)) : p < (((List.range n).find? P).getD n : Nat) ∨ ((List.range n).find? P).getD n = n := by
  cases e : (List.range n).find? P with
  | none => exact .inr rfl
  | some v =>
    refine .inl ?_
    rw [List.find?_range_eq_some] at e
    exact h _ e.1
theorem find_range_le {n : Nat} {P : Nat → Bool} : ((List.range n).find? P).getD n ≤ n := by
  cases e : (List.range n).find? P with
  | none => exact Nat.le_refl _
  | some v =>
    rw [List.find?_range_eq_some] at e
    exact Nat.le_of_lt (List.mem_range.mp e.2.1)
theorem change_le (r : Row) (p : Int) (d : Bool) : change r p d ≤ r.length := find_range_le
theorem other_le (r : Row) (p : Int) (d : Bool) : other r p d ≤ r.length := find_range_le
theorem change_gt (r : Row) (p : Int) (d : Bool) : p < (change r p d : Int) ∨ change r p d = r.length := by
  refine find_range_gt fun y h => ?_
  simp only [Bool.and_eq_true, decide_eq_true_eq] at h
  exact h.1
theorem other_gt (r : Row) (p : Int) (d : Bool) : p < (other r p d : Int) ∨ other r p d = r.length := by
  refine find_range_gt fun y h => ?_
  simp only [Bool.and_eq_true, decide_eq_true_eq] at h
  exact h.1
theorem other_col (r : Row) (p : Int) (d : Bool) (h : other r p d < r.length) : at_ r (other r p d) = !d := by
  unfold other at h ⊢
  cases e : (List.range r.length).find? fun (x : Nat) => decide (p < (x : Int)) && at_ r x != d with
  | none => rw [e] at h; exact absurd h (Nat.lt_irrefl _)
  | some v =>
    rw [List.find?_range_eq_some] at e
    have q := e.1
    simp only [Bool.and_eq_true, decide_eq_true_eq, bne_iff_ne] at q
    show at_ r (v : Nat) = !d
    revert q
    cases at_ r (v : Nat) <;> cases d <;> simp
/-- before the first of the other colour it's the colour -/
theorem other_before (r : Row) (p : Int) (d : Bool) (y : Nat) (h1 : p < (y : Int)) (h2 : y < other r p d) : at_ r y = d := by
  unfold other at h2
  have hyn : y < r.length := Nat.lt_of_lt_of_le h2 (other_le r p d)
  cases hP : at_ r y == d with
  | true => exact beq_iff_eq.mp hP
  | false =>
    exfalso
    have hb : (decide (p < (y : Int)) && at_ r y != d) = true := by
      rw [decide_eq_true h1]
      show (!(at_ r y == d)) = true
      rw [hP]
      rfl
    cases e : (List.range r.length).find? fun (x : Nat) => decide (p < (x : Int)) && at_ r x != d with
    | none =>
      rw [List.find?_range_eq_none] at e
      have := e y hyn
      rw [hb] at this
      cases this
    | some v =>
      rw [e] at h2
      rw [List.find?_range_eq_some] at e
      have := e.2.2 y h2
      rw [hb] at this
      cases this
/-- how many turns are enough -/
def fuel (n : Nat) (a : Int) : Nat := ((n : Int) - a).toNat + 1
theorem beside_end {above r : Row} {a : Int} (k : Nat) (d : Bool) (h : (r.length : Int) ≤ a) : beside above r k a d = [] := by
  cases k with
  | zero => rfl
  | succ k =>
    unfold beside
    rw [if_pos h]
/-- one turn's places -/
structure Turn (above r : Row) (a : Int) (d : Bool) (b1 b2 a1 a2 : Nat) : Prop where
  hb1 : b1 = change above a (!d)
  hb2 : b2 = other above b1 (!d)
  ha1 : a1 = other r a d
  ha2 : a2 = other r a1 (!d)
theorem Turn.b2_gt {above r : Row} {a : Int} {d : Bool} {b1 b2 a1 a2 : Nat} (t : Turn above r a d b1 b2 a1 a2) (hl : above.length = r.length) (h : b2 < a1) : a < (b2 : Int) ∧ b1 < b2 := by
  have h1 : a1 ≤ r.length := t.ha1 ▸ other_le r a d
  have h2 := other_gt above b1 (!d)
  rw [← t.hb2] at h2
  have h3 := change_gt above a (!d)
  rw [← t.hb1] at h3
  have h4 := other_le above b1 (!d)
  rw [← t.hb2] at h4
  omega
theorem Turn.a1_gt {above r : Row} {a : Int} {d : Bool} {b1 b2 a1 a2 : Nat} (t : Turn above r a d b1 b2 a1 a2) (ha : a < r.length) : a < (a1 : Int) ∧ a1 ≤ r.length ∧ a1 ≤ a2 ∧ a2 ≤ r.length ∧ (a1 < r.length → a1 < a2) := by
  have h1 := other_gt r a d
  have h2 := other_le r a d
  rw [← t.ha1] at h1 h2
  have h3 := other_gt r a1 (!d)
  have h4 := other_le r a1 (!d)
  rw [← t.ha2] at h3 h4
  omega
theorem beside_step {above r : Row} {a : Int} {d : Bool} {b1 b2 a1 a2 : Nat} (t : Turn above r a d b1 b2 a1 a2) (k : Nat) (ha : a < r.length) :
    beside above r (k + 1) a d = if b2 < a1 then PASS ++ beside above r k b2 d
      else if -3 ≤ (a1 : Int) - b1 ∧ (a1 : Int) - b1 ≤ 3 then vertical ((a1 : Int) - b1) ++ beside above r k a1 (!d)
      else ACROSS ++ (run d (a1 - (max a 0).toNat) ++ (run (!d) (a2 - a1) ++ beside above r k a2 d)) := by
  obtain ⟨rfl, rfl, rfl, rfl⟩ := t
  conv => lhs; unfold beside
  rw [if_neg (by omega)]
theorem beside_fuel {above r : Row} (hl : above.length = r.length) : ∀ (k k' : Nat) (a : Int) (d : Bool), fuel r.length a ≤ k → fuel r.length a ≤ k' → beside above r k a d = beside above r k' a d
  | 0, _, _, _, h, _ => by unfold fuel at h; omega
  | _ + 1, 0, _, _, _, h => by unfold fuel at h; omega
  | k + 1, k' + 1, a, d, h, h' => by
    by_cases ha : (r.length : Int) ≤ a
    · rw [beside_end _ _ ha, beside_end _ _ ha]
    · have t : Turn above r a d _ _ _ _ := ⟨rfl, rfl, rfl, rfl⟩
      have ha' : a < r.length := by omega
      obtain ⟨g1, g2, g3, g4, g5⟩ := t.a1_gt ha'
      rw [beside_step t k ha', beside_step t k' ha']
      unfold fuel at h h'
      split
      · rename_i q
        have := (t.b2_gt hl q).1
        rw [beside_fuel hl k k' _ d (by unfold fuel; omega) (by unfold fuel; omega)]
      · split
        · rw [beside_fuel hl k k' _ (!d) (by unfold fuel; omega) (by unfold fuel; omega)]
        · rw [beside_fuel hl k k' _ d (by unfold fuel; omega) (by unfold fuel; omega)]
/-- what is still to be written of a row by the one above -/
def bes (above r : Row) (a : Int) (d : Bool) : Bits := beside above r (fuel r.length a) a d
theorem rowBeside_is (above r : Row) (hl : above.length = r.length) : rowBeside above r = bes above r (-1) false := by
  unfold rowBeside bes
  exact beside_fuel hl _ _ _ _ (by unfold fuel; omega) (by unfold fuel; omega)
theorem bes_end (above r : Row) (a : Int) (d : Bool) (h : (r.length : Int) ≤ a) : bes above r a d = [] := beside_end _ _ h
theorem stands_start (r : Row) (h : 0 < r.length) : Stands r (-1) false := ⟨by omega, rfl⟩
theorem stands_at (r : Row) (a : Int) (d : Bool) (h : other r a d < r.length) : Stands r (other r a d : Nat) (!d) := ⟨by omega, other_col r a d h⟩
theorem bes_pass {above r : Row} {a : Int} {d : Bool} {b1 b2 a1 a2 : Nat} (hl : above.length = r.length) (hs : Stands r a d) (t : Turn above r a d b1 b2 a1 a2) (q : b2 < a1) :
    bes above r a d = PASS ++ bes above r b2 d ∧ Stands r b2 d ∧ a < (b2 : Int) := by
  obtain ⟨g1, g2, g3, g4, g5⟩ := t.a1_gt hs.1
  obtain ⟨q1, q2⟩ := t.b2_gt hl q
  refine ⟨?_, ⟨by omega, other_before r a d b2 q1 (by rw [← t.ha1]; exact q)⟩, q1⟩
  have ha := hs.1
  unfold bes
  obtain ⟨k, hk⟩ : ∃ k, fuel r.length a = k + 1 := ⟨_, rfl⟩
  rw [hk, beside_step t k hs.1, if_pos q, beside_fuel hl k (fuel r.length b2) _ d (by unfold fuel at hk ⊢; omega) (Nat.le_refl _)]
theorem bes_straight {above r : Row} {a : Int} {d : Bool} {b1 b2 a1 a2 : Nat} (hl : above.length = r.length) (hs : Stands r a d) (t : Turn above r a d b1 b2 a1 a2) (q : ¬ b2 < a1)
    (q2 : -3 ≤ (a1 : Int) - b1 ∧ (a1 : Int) - b1 ≤ 3) : bes above r a d = vertical ((a1 : Int) - b1) ++ bes above r a1 (!d) ∧ (a1 < r.length → Stands r a1 (!d)) ∧ a < (a1 : Int) := by
  obtain ⟨g1, g2, g3, g4, g5⟩ := t.a1_gt hs.1
  refine ⟨?_, fun h => t.ha1 ▸ stands_at r a d (t.ha1 ▸ h), g1⟩
  have ha := hs.1
  unfold bes
  obtain ⟨k, hk⟩ : ∃ k, fuel r.length a = k + 1 := ⟨_, rfl⟩
  rw [hk, beside_step t k hs.1, if_neg q, if_pos q2, beside_fuel hl k (fuel r.length a1) _ (!d) (by unfold fuel at hk ⊢; omega) (Nat.le_refl _)]
theorem bes_across {above r : Row} {a : Int} {d : Bool} {b1 b2 a1 a2 : Nat} (hl : above.length = r.length) (hs : Stands r a d) (t : Turn above r a d b1 b2 a1 a2) (q : ¬ b2 < a1)
    (q2 : ¬ (-3 ≤ (a1 : Int) - b1 ∧ (a1 : Int) - b1 ≤ 3)) :
    bes above r a d = ACROSS ++ (run d (a1 - (max a 0).toNat) ++ (run (!d) (a2 - a1) ++ bes above r a2 d)) ∧ (a2 < r.length → Stands r a2 d) ∧ a < (a2 : Int) := by
  obtain ⟨g1, g2, g3, g4, g5⟩ := t.a1_gt hs.1
  refine ⟨?_, fun h => ?_, by omega⟩
  · have ha := hs.1
    unfold bes
    obtain ⟨k, hk⟩ : ∃ k, fuel r.length a = k + 1 := ⟨_, rfl⟩
    rw [hk, beside_step t k hs.1, if_neg q, if_neg q2, beside_fuel hl k (fuel r.length a2) _ d (by unfold fuel at hk ⊢; omega) (Nat.le_refl _)]
  · have := stands_at r a1 (!d) (t.ha2 ▸ h)
    rw [← t.ha2, Bool.not_not] at this
    exact this
end Fax
namespace Fax
open Ql31

/-! ### How long it gets -/
def codeNs : List Nat := List.range 64 ++ (List.range 40).map fun i => 64 * (i + 1)
theorem codes_short : (codeNs.all fun n => decide (0 < (codeOf false n).length) && decide ((codeOf false n).length ≤ 13) && decide (0 < (codeOf true n).length) && decide ((codeOf true n).length ≤ 13)) = true := by decide +kernel
theorem code_le (d : Bool) (n : Nat) (h : n < 64 ∨ n % 64 = 0 ∧ n ≤ 2560) : 0 < (codeOf d n).length ∧ (codeOf d n).length ≤ 13 := by
  have hm : n ∈ codeNs := by
    unfold codeNs
    rw [List.mem_append, List.mem_range, List.mem_map]
    rcases h with h | h
    · exact .inl h
    · rcases Nat.lt_or_ge n 64 with q | q
      · exact .inl q
      · exact .inr ⟨n / 64 - 1, List.mem_range.mpr (by omega), by omega⟩
  have := List.all_eq_true.mp codes_short n hm
  simp only [Bool.and_eq_true, decide_eq_true_eq] at this
  cases d <;> omega
theorem flat_replicate_len (n : Nat) (b : Bits) : (List.replicate n b).flatten.length = n * b.length := by
  simp
theorem run_le (d : Bool) (n : Nat) : 0 < (run d n).length ∧ (run d n).length ≤ 13 * max n 1 := by
  unfold run
  rw [List.length_append, List.length_append, flat_replicate_len]
  have h1 := code_le d 2560 (.inr ⟨rfl, Nat.le_refl _⟩)
  have h2 := code_le d (n % 2560 % 64) (.inl (by omega))
  have h3 : (if 64 ≤ n % 2560 then codeOf d (n % 2560 / 64 * 64) else []).length ≤ (if 64 ≤ n % 2560 then 13 else 0) := by
    split
    · exact (code_le d _ (.inr ⟨by omega, by omega⟩)).2
    · exact Nat.le_refl _
  have h4 : n / 2560 * (codeOf d 2560).length ≤ n / 2560 * 13 := Nat.mul_le_mul_left _ h1.2
  refine ⟨by omega, ?_⟩
  generalize (if 64 ≤ n % 2560 then codeOf d (n % 2560 / 64 * 64) else []).length = z at h3 ⊢
  generalize n / 2560 * (codeOf d 2560).length = y at h4 ⊢
  split at h3
  · have : n ≤ max n 1 := Nat.le_max_left _ _
    omega
  · have : n ≤ max n 1 := Nat.le_max_left _ _
    have : 1 ≤ max n 1 := Nat.le_max_right _ _
    by_cases q : n < 64
    · omega
    · omega
theorem alone_le1 : ∀ (k : Nat) (r : List Bool) (c : Bool), (∀ x s, r = x :: s → x = c) → (alone k r c).length ≤ 13 * max r.length 1
  | 0, r, c, _ => Nat.zero_le _
  | k + 1, r, c, hr => by
    obtain ⟨e, hd⟩ := takeWhile_split c r
    show (run c (r.takeWhile fun b => b == c).length ++ if (r.takeWhile fun b => b == c).length = r.length then [] else alone k (r.drop (r.takeWhile fun b => b == c).length) !c).length ≤ _
    have hn0 : r ≠ [] → 0 < (r.takeWhile fun b => b == c).length := by
      intro hne
      cases r with
      | nil => exact absurd rfl hne
      | cons x s =>
        have := hr x s rfl
        subst this
        rw [List.takeWhile_cons, if_pos (beq_self_eq_true x), List.length_cons]
        omega
    generalize hn : (r.takeWhile fun b => b == c).length = n at e hd hn0 ⊢
    have hrl := (run_le c n).2
    rw [List.length_append]
    by_cases hl : n = r.length
    · rw [if_pos hl, List.length_nil]
      omega
    · rw [if_neg hl]
      have hle : n ≤ r.length := by
        have := congrArg List.length e
        rw [List.length_append, List.length_replicate] at this
        omega
      have ih := alone_le1 k (r.drop n) (!c) hd
      rw [List.length_drop] at ih
      have hp : 0 < n := hn0 fun h => by rw [h] at hl hle; simp at hl hle; omega
      omega
theorem alone_le (k : Nat) (r : List Bool) (c : Bool) : (alone k r c).length ≤ 13 * r.length + 26 := by
  cases k with
  | zero => exact Nat.zero_le _
  | succ k =>
    obtain ⟨e, hd⟩ := takeWhile_split c r
    show (run c (r.takeWhile fun b => b == c).length ++ if (r.takeWhile fun b => b == c).length = r.length then [] else alone k (r.drop (r.takeWhile fun b => b == c).length) !c).length ≤ _
    generalize hn : (r.takeWhile fun b => b == c).length = n at e hd ⊢
    have hrl := (run_le c n).2
    rw [List.length_append]
    have hle : n ≤ r.length := by
      have := congrArg List.length e
      rw [List.length_append, List.length_replicate] at this
      omega
    split
    · rw [List.length_nil]
      omega
    · have ih := alone_le1 k (r.drop n) (!c) hd
      rw [List.length_drop] at ih
      omega
theorem vertical_le (d : Int) : (vertical d).length ≤ 7 := by
  unfold vertical
  cases h : verticals.find? fun x => x.1 == d with
  | none => exact (by decide : (bitsOf "").length ≤ 7)
  | some v =>
    have hm := List.mem_of_find?_eq_some h
    show (bitsOf v.2).length ≤ 7
    revert hm
    unfold verticals
    simp only [List.mem_cons, List.not_mem_nil, or_false]
    rintro (rfl | rfl | rfl | rfl | rfl | rfl | rfl) <;> decide +kernel
theorem vertical_pos (d : Int) (h : -3 ≤ d ∧ d ≤ 3) : 0 < (vertical d).length := by
  have : d = -3 ∨ d = -2 ∨ d = -1 ∨ d = 0 ∨ d = 1 ∨ d = 2 ∨ d = 3 := by omega
  rcases this with rfl | rfl | rfl | rfl | rfl | rfl | rfl <;> decide +kernel
theorem bes_le (above r : Row) (hl : above.length = r.length) : ∀ (m : Nat) (a : Int) (d : Bool), -1 ≤ a → (r.length : Int) - a ≤ m → (r.length : Int) - a ≤ r.length + 1 → Stands r a d ∨ (r.length : Int) ≤ a → ((bes above r a d).length : Int) ≤ 16 * max 0 ((r.length : Int) - a) + 13
  | 0, a, d, _, h, _, _ => by
    rw [bes_end _ _ _ _ (by omega)]
    simp
    omega
  | m + 1, a, d, h0, h, h1, hs => by
    by_cases ha : (r.length : Int) ≤ a
    · rw [bes_end _ _ _ _ ha]
      simp
      omega
    · have hs : Stands r a d := hs.resolve_right ha
      have t : Turn above r a d _ _ _ _ := ⟨rfl, rfl, rfl, rfl⟩
      obtain ⟨g1, g2, g3, g4, g5⟩ := t.a1_gt hs.1
      by_cases q : other above (change above a (!d)) (!d) < other r a d
      · obtain ⟨e, hs', hg⟩ := bes_pass hl hs t q
        have ih := bes_le above r hl m _ d (by omega) (by omega) (by omega) (.inl hs')
        rw [e, List.length_append]
        have : PASS.length = 4 := by decide +kernel
        have := hs'.1
        omega
      · by_cases q2 : -3 ≤ (other r a d : Int) - (change above a (!d) : Nat) ∧ (other r a d : Int) - (change above a (!d) : Nat) ≤ 3
        · obtain ⟨e, hs', hg⟩ := bes_straight hl hs t q q2
          have ih := bes_le above r hl m (other r a d : Nat) (!d) (by omega) (by omega) (by omega) (by
            rcases Nat.lt_or_ge (other r a d) r.length with z | z
            · exact .inl (hs' z)
            · exact .inr (by omega))
          rw [e, List.length_append]
          have := vertical_le ((other r a d : Int) - (change above a (!d) : Nat))
          omega
        · obtain ⟨e, hs', hg⟩ := bes_across hl hs t q q2
          have ih := bes_le above r hl m (other r (other r a d : Nat) (!d) : Nat) d (by omega) (by omega) (by omega) (by
            rcases Nat.lt_or_ge (other r (other r a d : Nat) (!d)) r.length with z | z
            · exact .inl (hs' z)
            · exact .inr (by omega))
          rw [e, List.length_append, List.length_append, List.length_append]
          have : ACROSS.length = 3 := by decide +kernel
          have r1 := (run_le d (other r a d - (max a 0).toNat)).2
          have r2 := (run_le (!d) (other r (other r a d : Nat) (!d) - other r a d)).2
          by_cases z : other r (other r a d : Nat) (!d) < r.length
          · omega
          · have ez : (bes above r (other r (other r a d : Nat) (!d) : Nat) d).length = 0 := by rw [bes_end _ _ _ _ (by omega)]; rfl
            have c1 := change_gt above a (!d)
            have c2 := change_le above a (!d)
            omega
theorem rowAlone_le (r : Row) : (rowAlone r).length ≤ 13 * r.length + 26 := alone_le _ _ _
theorem rowBeside_le (above r : Row) (hl : above.length = r.length) (h : 0 < r.length) : (rowBeside above r).length ≤ 16 * r.length + 29 := by
  rw [rowBeside_is above r hl]
  have := bes_le above r hl (r.length + 1) (-1) false (by omega) (by omega) (by omega) (.inl (stands_start r h))
  omega
theorem EOL_len : EOL.length = 12 := by decide +kernel
theorem rows2_le (k w : Nat) (hw : 0 < w) (hk : 0 < k) : ∀ (l : List Row) (i : Nat) (above : Row), (above.length = w ∨ i = 0) → (∀ r ∈ l, r.length = w) → (rows2 k i above l).length ≤ l.length * (16 * w + 42)
  | [], _, _, _, _ => Nat.zero_le _
  | r :: l, i, above, ha, hl => by
    have hr := hl r (List.mem_cons_self)
    have ih := rows2_le k w hw hk l (i + 1) r (.inl hr) fun x hx => hl x (List.mem_cons_of_mem _ hx)
    show ((if i % k = 0 then EOL ++ (true :: rowAlone r) else EOL ++ (false :: rowBeside above r)) ++ rows2 k (i + 1) r l).length ≤ _
    rw [List.length_append, List.length_cons, Nat.succ_mul]
    split
    · rw [List.length_append, List.length_cons, EOL_len]
      have := rowAlone_le r
      omega
    · rename_i hi
      have ha : above.length = w := by
        rcases ha with h | h
        · exact h
        · rw [h, Nat.zero_mod] at hi
          exact absurd rfl hi
      rw [List.length_append, List.length_cons, EOL_len]
      have := rowBeside_le above r (by omega) (by omega)
      omega
theorem rows6_le (w : Nat) (hw : 0 < w) : ∀ (l : List Row) (above : Row), above.length = w → (∀ r ∈ l, r.length = w) → (rows6 above l).length ≤ l.length * (16 * w + 42)
  | [], _, _, _ => Nat.zero_le _
  | r :: l, above, ha, hl => by
    have hr := hl r (List.mem_cons_self)
    have ih := rows6_le w hw l r hr fun x hx => hl x (List.mem_cons_of_mem _ hx)
    show (rowBeside above r ++ rows6 r l).length ≤ _
    rw [List.length_append, List.length_cons, Nat.succ_mul]
    have := rowBeside_le above r (by omega) (by omega)
    omega
theorem rows0_le (w : Nat) : ∀ (l : List Row), (∀ r ∈ l, r.length = w) → (l.flatMap fun r => EOL ++ rowAlone r).length ≤ l.length * (16 * w + 42)
  | [], _ => Nat.zero_le _
  | r :: l, hl => by
    have hr := hl r (List.mem_cons_self)
    have ih := rows0_le w l fun x hx => hl x (List.mem_cons_of_mem _ hx)
    rw [List.flatMap_cons, List.length_append, List.length_append, EOL_len, List.length_cons, Nat.succ_mul]
    have := rowAlone_le r
    omega
/-- what stands behind the rows -/
def tail (kind : Nat) : Bits := if kind = 0 then (List.replicate 6 EOL).flatten else if kind = 1 then (List.replicate 6 (EOL ++ [true])).flatten else EOL ++ EOL
theorem tail_le (kind : Nat) : (tail kind).length ≤ 78 := by
  unfold tail
  split
  · decide +kernel
  · split <;> decide +kernel
/-- the rows from the i-th on -/
def body (kind k i : Nat) (above : Row) (l : List Row) : Bits := if kind = 0 then l.flatMap fun r => EOL ++ rowAlone r else if kind = 1 then rows2 k i above l else rows6 above l
theorem body_nil (kind k i : Nat) (above : Row) : body kind k i above [] = [] := by
  unfold body
  split
  · rfl
  · split <;> rfl
theorem page_is (kind k w : Nat) (l : List Row) : page kind k w l = body kind k 0 (if kind = 1 then [] else List.replicate w false) l ++ tail kind := by
  unfold page body tail
  by_cases h0 : kind = 0
  · rw [if_pos h0, if_pos h0, if_pos h0]
  · rw [if_neg h0, if_neg h0, if_neg h0]
    by_cases h1 : kind = 1
    · rw [if_pos h1, if_pos h1, if_pos h1, if_pos h1]
    · rw [if_neg h1, if_neg h1, if_neg h1, if_neg h1]
theorem body_le (kind k w i : Nat) (hw : 0 < w) (hk : 0 < k) (above : Row) (l : List Row) (ha : above.length = w ∨ i = 0 ∧ kind = 1) (hl : ∀ r ∈ l, r.length = w) : (body kind k i above l).length ≤ l.length * (16 * w + 42) := by
  unfold body
  split
  · exact rows0_le w l hl
  · split
    · exact rows2_le k w hw hk l i above (ha.imp id And.left) hl
    · exact rows6_le w hw l above (by omega) hl
theorem page_le (kind k w : Nat) (hw : 0 < w) (hk : 0 < k) (l : List Row) (hl : ∀ r ∈ l, r.length = w) (h1 : l.length * ((w + 7) / 8) ≤ 100000) (h2 : l.length ≤ 16384) : (page kind k w l).length ≤ 13500000 := by
  rw [page_is, List.length_append]
  have := body_le kind k w 0 hw hk (if kind = 1 then [] else List.replicate w false) l (by
    by_cases h : kind = 1
    · exact .inr ⟨rfl, h⟩
    · rw [if_neg h, List.length_replicate]
      exact .inl rfl) hl
  have ht := tail_le kind
  have h3 : l.length * (16 * w + 42) ≤ l.length * (128 * ((w + 7) / 8) + 42) := Nat.mul_le_mul_left _ (by omega)
  have h4 : l.length * (128 * ((w + 7) / 8) + 42) = 128 * (l.length * ((w + 7) / 8)) + 42 * l.length := by
    rw [Nat.mul_add, Nat.mul_left_comm, Nat.mul_comm l.length 42]
  omega
end Fax
namespace Fax
open Ql31

/-! ### Bytes to points -/
def bitsN (n : Nat) : Bits := (List.range 8).map fun i => n.testBit (7 - i)
theorem bitsN_len (n : Nat) : (bitsN n).length = 8 := by simp [bitsN]
def bitsNs (l : List Nat) : Bits := l.flatMap bitsN
theorem bitsNs_len : ∀ l : List Nat, (bitsNs l).length = 8 * l.length
  | [] => rfl
  | n :: l => by
    show (bitsN n ++ bitsNs l).length = _
    rw [List.length_append, bitsN_len, bitsNs_len l, List.length_cons]
    omega
theorem bitsNs_append (a b : List Nat) : bitsNs (a ++ b) = bitsNs a ++ bitsNs b := by
  unfold bitsNs
  rw [List.flatMap_append]
theorem bitsFrom_is (l : List UInt8) : bitsFrom l = bitsNs (l.map UInt8.toNat) := by
  unfold bitsFrom bitsNs bitsN
  rw [List.flatMap_map]
theorem bitsFrom_octets (l : List Int) (h : ∀ x ∈ l, 0 ≤ x ∧ x < 256) : bitsFrom (Ql31Neutral.octets l) = bitsNs (l.map Int.toNat) := by
  rw [bitsFrom_is]
  unfold Ql31Neutral.octets
  rw [List.map_map]
  congr 1
  refine List.map_congr_left fun x hx => ?_
  have := h x hx
  show (UInt8.ofNat x.toNat).toNat = x.toNat
  rw [UInt8.toNat_ofNat']
  exact Nat.mod_eq_of_lt (by omega)
theorem bitsN_0 : bitsN 0 = List.replicate 8 false := by decide +kernel
theorem bitsN_255 : bitsN 255 = List.replicate 8 true := by decide +kernel
/-- one point more -/
theorem chg_snoc (r : List Bool) (x : Bool) : chg (r ++ [x]) = if x = lastC false r then chg r else chg r ++ [r.length] := by
  unfold chg
  rw [chgF_append, Nat.zero_add]
  simp only [chgF]
  split
  · rw [List.append_nil]
  · rfl
theorem lastC_snoc (c : Bool) (r : List Bool) (x : Bool) : lastC c (r ++ [x]) = x := by
  rw [lastC_append]
  rfl
theorem take_snoc (r : List Bool) (x : Bool) (w : Nat) : (r ++ [x]).take w = if r.length < w then r.take w ++ [x] else r.take w := by
  split
  · rename_i h
    rw [List.take_of_length_le (by simp; omega), List.take_of_length_le (by omega)]
  · rename_i h
    rw [List.take_append_of_le_length (by omega)]
/-- .. of the first w points -/
theorem chg_take_snoc (r : List Bool) (x : Bool) (w : Nat) : chg ((r ++ [x]).take w) = if r.length < w ∧ x ≠ lastC false (r.take w) then chg (r.take w) ++ [r.length] else chg (r.take w) := by
  rw [take_snoc]
  by_cases h : r.length < w
  · rw [if_pos h, chg_snoc]
    by_cases q : x = lastC false (r.take w)
    · rw [if_pos q, if_neg (fun z => z.2 q)]
    · rw [if_neg q, if_pos ⟨h, q⟩]
      congr 2
      rw [List.length_take]
      omega
  · rw [if_neg h, if_neg (fun z => h z.1)]
theorem lastC_take_snoc (r : List Bool) (x : Bool) (w : Nat) : lastC false ((r ++ [x]).take w) = if r.length < w ∧ x ≠ lastC false (r.take w) then x else lastC false (r.take w) := by
  rw [take_snoc]
  by_cases h : r.length < w
  · rw [if_pos h, lastC_snoc]
    by_cases q : x = lastC false (r.take w)
    · rw [if_neg (fun z => z.2 q), q]
    · rw [if_pos ⟨h, q⟩]
  · rw [if_neg h, if_neg (fun z => h z.1)]
/-- points of the colour that it is change nothing -/
theorem take_same (r : List Bool) (w n : Nat) (c : Bool) (hc : c = lastC false (r.take w)) : chg ((r ++ List.replicate n c).take w) = chg (r.take w) ∧ lastC false ((r ++ List.replicate n c).take w) = lastC false (r.take w) := by
  induction n with
  | zero => rw [List.replicate_zero, List.append_nil]; exact ⟨rfl, rfl⟩
  | succ n ih =>
    rw [List.replicate_succ', ← List.append_assoc, chg_take_snoc, lastC_take_snoc, ih.1, ih.2, if_neg (fun z => z.2 hc), if_neg (fun z => z.2 hc)]
    exact ⟨rfl, rfl⟩
theorem chg_take_prefix (r s : List Bool) (w : Nat) : (chg (r.take w)).length ≤ (chg ((r ++ s).take w)).length := by
  induction s generalizing r with
  | nil => rw [List.append_nil]; exact Nat.le_refl _
  | cons x s ih =>
    have e : r ++ x :: s = (r ++ [x]) ++ s := by simp
    rw [e]
    refine Nat.le_trans ?_ (ih (r ++ [x]))
    rw [chg_take_snoc]
    split
    · rw [List.length_append]
      omega
    · exact Nat.le_refl _
theorem chgF_len : ∀ (r : List Bool) (i : Nat) (c : Bool), (chgF i c r).length ≤ r.length
  | [], _, _ => Nat.le_refl _
  | b :: r, i, c => by
    simp only [chgF, List.length_cons]
    split
    · have := chgF_len r (i + 1) c
      omega
    · have := chgF_len r (i + 1) b
      rw [List.length_cons]
      omega
theorem chg_len (r : List Bool) : (chg r).length ≤ r.length := chgF_len r 0 false

/-! ### Points to bytes -/
/-- the number that bits tell -/
def val (b : Bits) : Nat := b.foldl (fun n x => 2 * n + x.toNat) 0
theorem val_snoc (b : Bits) (x : Bool) : val (b ++ [x]) = 2 * val b + x.toNat := by
  unfold val
  rw [List.foldl_append]
  rfl
theorem val_fold (b : Bits) (n : Nat) : b.foldl (fun n x => 2 * n + x.toNat) n = n * 2 ^ b.length + val b := by
  induction b generalizing n with
  | nil => simp [val]
  | cons x b ih =>
    have e : val (x :: b) = x.toNat * 2 ^ b.length + val b := by
      show b.foldl (fun n x => 2 * n + x.toNat) (2 * 0 + x.toNat) = _
      rw [ih]
      simp
    rw [List.foldl_cons, ih, e, List.length_cons, Nat.pow_succ]
    rw [Nat.add_mul, Nat.mul_assoc 2 n, Nat.mul_comm 2 (n * 2 ^ b.length), Nat.mul_assoc]
    omega
theorem val_lt (b : Bits) : val b < 2 ^ b.length := by
  induction b with
  | nil => exact (by decide : 0 < 1)
  | cons x b ih =>
    have e : val (x :: b) = x.toNat * 2 ^ b.length + val b := by
      show b.foldl (fun n x => 2 * n + x.toNat) (2 * 0 + x.toNat) = _
      rw [val_fold]
      simp
    rw [e, List.length_cons, Nat.pow_succ]
    have : x.toNat ≤ 1 := by cases x <;> decide
    have : x.toNat * 2 ^ b.length ≤ 1 * 2 ^ b.length := Nat.mul_le_mul_right _ this
    omega
/-- zeros to the byte's end -/
def padded (b : Bits) : Bits := b ++ List.replicate ((8 - b.length % 8) % 8) false
theorem padded_len (b : Bits) : (padded b).length = 8 * ((b.length + 7) / 8) := by
  unfold padded
  rw [List.length_append, List.length_replicate]
  omega
/-- the bytes of whole groups of eight -/
def bytesN (b : Bits) : List Nat := (List.range (b.length / 8)).map fun q => val ((b.drop (8 * q)).take 8)
theorem range_fold (b : Bits) : ∀ (n : Nat), n ≤ b.length → (List.range n).foldl (fun m i => 2 * m + (b.getD i false).toNat) 0 = val (b.take n)
  | 0, _ => rfl
  | n + 1, h => by
    rw [List.range_succ, List.foldl_append, range_fold b n (by omega), List.foldl_cons, List.foldl_nil, List.take_succ_eq_append_getElem (by omega), val_snoc, List.getD_eq_getElem?_getD, List.getElem?_eq_getElem (by omega)]
    rfl
theorem range8_pad (b : Bits) : (List.range 8).foldl (fun m i => 2 * m + (b.getD i false).toNat) 0 = val ((b ++ List.replicate 8 false).take 8) := by
  rw [← range_fold _ 8 (by simp)]
  have : ∀ i, (b ++ List.replicate 8 false).getD i false = b.getD i false := by
    intro i
    rw [List.getD_eq_getElem?_getD, List.getD_eq_getElem?_getD, List.getElem?_append]
    split
    · rfl
    · rename_i h
      rw [List.getElem?_eq_none (by omega : b.length ≤ i), List.getElem?_replicate]
      split <;> rfl
  simp only [this]
theorem padded_drop (b : Bits) (h : 8 ≤ b.length) : (padded b).drop 8 = padded (b.drop 8) := by
  unfold padded
  rw [List.drop_append_of_le_length h, List.length_drop]
  congr 2
  omega
theorem bytesN_cons (b : Bits) (h : 0 < b.length) : bytesN (padded b) = val ((padded b).take 8) :: bytesN (padded (b.drop 8)) := by
  have hl := padded_len b
  have hl2 := padded_len (b.drop 8)
  rw [List.length_drop] at hl2
  unfold bytesN
  rw [hl, hl2]
  have e : 8 * ((b.length + 7) / 8) / 8 = 8 * ((b.length - 8 + 7) / 8) / 8 + 1 := by omega
  rw [e, List.range_succ_eq_map, List.map_cons, List.map_map]
  congr 1
  by_cases h8 : 8 ≤ b.length
  · refine List.map_congr_left fun q _ => ?_
    show val (((padded b).drop (8 * (q + 1))).take 8) = val (((padded (b.drop 8)).drop (8 * q)).take 8)
    rw [← padded_drop b h8, List.drop_drop]
    congr 3
    omega
  · have : 8 * ((b.length - 8 + 7) / 8) / 8 = 0 := by omega
    rw [this]
    rfl
theorem bytesOf_is : ∀ (k : Nat) (b : Bits), b.length / 8 < k → (bytesOf k b).map UInt8.toNat = bytesN (padded b)
  | 0, b, h => by omega
  | k + 1, [], _ => rfl
  | k + 1, x :: b, h => by
    rw [bytesN_cons _ (by simp)]
    show (UInt8.ofNat ((List.range 8).foldl (fun n i => 2 * n + ((x :: b).getD i false).toNat) 0)).toNat :: (bytesOf k ((x :: b).drop 8)).map UInt8.toNat = _
    have hp : ((x :: b) ++ List.replicate 8 false).take 8 = (padded (x :: b)).take 8 := by
      unfold padded
      by_cases h8 : 8 ≤ (x :: b).length
      · rw [List.take_append_of_le_length h8, List.take_append_of_le_length h8]
      · have h1 : 1 ≤ (x :: b).length := by simp
        rw [List.take_append, List.take_append, List.take_replicate, List.take_replicate]
        generalize (x :: b).length = n at h8 h1 ⊢
        congr 2
        omega
    rw [range8_pad, hp]
    have hv : val ((padded (x :: b)).take 8) < 256 := by
      have h1 := val_lt ((padded (x :: b)).take 8)
      have h2 : 2 ^ ((padded (x :: b)).take 8).length ≤ 2 ^ 8 := Nat.pow_le_pow_right (by decide) (by rw [List.length_take]; omega)
      omega
    congr 1
    · rw [UInt8.toNat_ofNat']
      exact Nat.mod_eq_of_lt hv
    · cases k with
      | zero =>
        simp only [List.length_cons] at h
        have : (x :: b).drop 8 = [] := List.drop_eq_nil_of_le (by simp; omega)
        rw [this]
        rfl
      | succ k =>
        by_cases h8 : 8 ≤ (x :: b).length
        · exact bytesOf_is (k + 1) _ (by rw [List.length_drop]; omega)
        · have : (x :: b).drop 8 = [] := List.drop_eq_nil_of_le (by omega)
          rw [this]
          rfl
theorem byteInts_is (k : Nat) (b : Bits) (h : b.length / 8 < k) : Ql31Neutral.byteInts (bytesOf k b) = (bytesN (padded b)).map (fun (n : Nat) => (n : Int)) := by
  rw [← bytesOf_is k b h, List.map_map]
  rfl
/-- what stands after so many signs of a text of whole bytes -/
def packed (b : Bits) (i : Nat) : List Nat × Nat := ((List.range (i / 8)).map fun q => val ((b.drop (8 * q)).take 8), val ((b.drop (8 * (i / 8))).take (i % 8)))
theorem packed_step (b : Bits) (i : Nat) (x : Bool) (h : b[i]? = some x) :
    packed b (i + 1) = if i % 8 = 7 then ((packed b i).1 ++ [2 * (packed b i).2 + x.toNat], 0) else ((packed b i).1, 2 * (packed b i).2 + x.toNat) := by
  have hi : i < b.length := (List.getElem?_eq_some_iff.mp h).1
  have hs : val ((b.drop (8 * (i / 8))).take (i % 8 + 1)) = 2 * val ((b.drop (8 * (i / 8))).take (i % 8)) + x.toNat := by
    rw [List.take_succ_eq_append_getElem (by rw [List.length_drop]; omega), val_snoc, List.getElem_drop]
    congr 2
    have e : 8 * (i / 8) + i % 8 = i := by omega
    have := (List.getElem?_eq_some_iff.mp h).2
    simp only [e]
    exact this
  unfold packed
  split
  · rename_i h7
    have e1 : (i + 1) / 8 = i / 8 + 1 := by omega
    have e2 : (i + 1) % 8 = 0 := by omega
    rw [e1, e2, List.range_succ, List.map_append, List.take_zero]
    rw [h7] at hs
    rw [h7, ← hs]
    rfl
  · rename_i h7
    have e1 : (i + 1) / 8 = i / 8 := by omega
    have e2 : (i + 1) % 8 = i % 8 + 1 := by omega
    rw [e1, e2, hs]
theorem packed_all (b : Bits) (h : b.length % 8 = 0) : (packed b b.length).1 = bytesN b := rfl

/-! ### Rows out of a picture -/
theorem rowFrom_len (w : Nat) (l : List UInt8) (h : l.length = stride w) : (rowFrom w l).length = w := by
  unfold rowFrom
  rw [List.length_take, bitsFrom_is, bitsNs_len, List.length_map, h]
  unfold stride
  omega
theorem rowsFrom_len (w n : Nat) (l : List UInt8) : (rowsFrom w n l).length = n := by simp [rowsFrom]
theorem rowsFrom_get (w n : Nat) (l : List UInt8) (i : Nat) (h : i < n) : (rowsFrom w n l)[i]? = some (rowFrom w ((l.drop (i * stride w)).take (stride w))) := by
  unfold rowsFrom
  rw [List.getElem?_map, List.getElem?_range h]
  rfl
theorem rowsFrom_w (w n : Nat) (l : List UInt8) (h : l.length = n * stride w) : ∀ r ∈ rowsFrom w n l, r.length = w := by
  intro r hr
  unfold rowsFrom at hr
  obtain ⟨i, hi, rfl⟩ := List.mem_map.mp hr
  have := List.mem_range.mp hi
  refine rowFrom_len w _ ?_
  rw [List.length_take, List.length_drop, h]
  have : i * stride w + stride w ≤ n * stride w := by
    rw [← Nat.succ_mul]
    exact Nat.mul_le_mul_right _ this
  omega
theorem octets_slice (p : List Int) (a b : Nat) : ((Ql31Neutral.octets p).drop a).take b = Ql31Neutral.octets ((p.drop a).take b) := by
  unfold Ql31Neutral.octets
  rw [← List.map_drop, ← List.map_take]
end Fax
set_option Elab.async false
set_option maxRecDepth 100000
set_option maxHeartbeats 8000000
namespace Fax
open PySem PySem.W
/-! ### The texts of the tables, as lists of signs -/
def signs (b : Ql31.Bits) : List Nat := b.map fun x => if x = true then 49 else 48
def T (b : Ql31.Bits) : Str := ⟨(signs b).toArray⟩
def joined : List (List Nat) → List Nat
  | [] => []
  | [x] => x
  | x :: y :: r => x ++ 32 :: joined (y :: r)
def codesS (d : Bool) : List Ql31.Bits := (List.range 64).map (Ql31.codeOf d)
def codesL (d : Bool) : List Ql31.Bits := (List.range 27).map fun i => Ql31.codeOf d (64 * (i + 1))
def codesB : List Ql31.Bits := (List.range 13).map fun i => Ql31.codeOf false (64 * (i + 28))
def textOf (l : List Ql31.Bits) : List Nat := joined (l.map signs)
theorem str_of {s : String} {l : List Nat} (h : s = String.ofList (l.map Char.ofNat)) (h2 : (l.all fun c => Nat.beq (Char.ofNat c).toNat c) = true) : Str.ofString s = ⟨l.toArray⟩ := by
  rw [h, Fast.ofString_ofList, List.map_map]
  congr 2
  conv => rhs; rw [← List.map_id l]
  refine List.map_congr_left fun c hc => ?_
  exact Nat.eq_of_beq_eq_true (List.all_eq_true.mp h2 c hc)
/-- the constant text at the i-th place of a top -/
def strAt (b : List Stmt) (i : Nat) : Str := match b.getD i (.Pass ⟨0, 0, 0, 0⟩) with
  | .Assign _ (.Constant (.str x) _ _) _ => x
  | _ => Str.empty
theorem str_at {b : List Stmt} {i : Nat} {s : String} {l : List Nat} (e : strAt b i = Str.ofString s) (h : s = String.ofList (l.map Char.ofNat)) (h2 : (l.all fun c => Nat.beq (Char.ofNat c).toNat c) = true) : strAt b i = ⟨l.toArray⟩ := e.trans (str_of h h2)
/-! ### The look at the program -/
theorem looks_of {p : Program} (a1 : sreFenced p.main = true) (a2 : ((moduleNames p.main.body).isEmpty || lookedIntoSs (moduleNames p.main.body) p.main.body) = true) (a3 : namesResolve p = true) (a4 : p.boundNames.all (fun n => !worldNames.contains n) = true)
    {b : Bool} {ws : List Str} (e1 : (!(importedModules p.main.body).all cThrough.contains) = b) (e2 : (["vars", "dir", "locals"] : List Str).filter (readsOut p p.main.body) = ws)
    (a5 : noRoadLSs { strict := b, foot := none, bare := ws } p.main.body = true) (a6 : (namesMeet p p.main.body fun _ n => attrL n) = true) : looksOpen p = true := by
  unfold looksOpen
  rw [e1, e2, a1, a2, a3, a4, a5, a6]
  rfl
theorem said_of {r : OpenSpec} (h : looksOpen r.prog = true) (h2 : (r.prog.boundNames.contains r.name && !startupNames.contains r.name && specDef r.prog r.name r.args.length && r.args.all Codec.fits && r.ret.ok) = true) : r.wellSaid = true := by
  unfold OpenSpec.wellSaid
  rw [h, Bool.true_and]
  exact h2
theorem any_false {l : List Nat} {p : Nat → Bool} (h : ∀ c ∈ l, p c = false) : l.any p = false := by
  rw [Bool.eq_false_iff]
  intro q
  obtain ⟨c, h1, h2⟩ := List.any_eq_true.mp q
  rw [h c h1] at h2
  cases h2
theorem frame_short : frameAttrs.all (fun y => Nat.ble y.cps.toList.length 60) = true := by decide +kernel
/-- a long text of blanks, noughts and ones passes the look -/
theorem str_ok {x : Str} {l : List Nat} (e : x = ⟨l.toArray⟩) (h1 : Nat.ble 61 l.length = true) (h2 : l.all (fun c => Nat.beq c 32 || (Nat.beq c 48 || Nat.beq c 49)) = true) : Look.str { strict := false, foot := none } x = true := by
  have ex : x.cps.toList = l := by rw [e]
  have hs : ∀ c ∈ x.cps.toList, c = 32 ∨ c = 48 ∨ c = 49 := fun c hc => by
    rw [ex] at hc
    have := List.all_eq_true.mp h2 c hc
    rw [Bool.or_eq_true, Bool.or_eq_true] at this
    exact this.imp Nat.eq_of_beq_eq_true (Or.imp Nat.eq_of_beq_eq_true Nat.eq_of_beq_eq_true)
  have r1 : x.cps.any (fun c => c == 123 || c == 125) = false := by
    rw [← Array.any_toList]
    refine any_false fun c hc => ?_
    rcases hs c hc with rfl | rfl | rfl <;> rfl
  have r2 : x.cps.any (· == 46) = false := by
    rw [← Array.any_toList]
    refine any_false fun c hc => ?_
    rcases hs c hc with rfl | rfl | rfl <;> rfl
  have hroad : roadStr x = false := by
    unfold roadStr
    rw [r1, r2]
    rfl
  have hf : frameAttrs.contains x = false := by
    rw [Bool.eq_false_iff]
    intro q
    have hm := List.contains_iff_mem.mp q
    have := List.all_eq_true.mp frame_short x hm
    have a := Nat.le_of_ble_eq_true this
    have b := Nat.le_of_ble_eq_true h1
    rw [ex] at a
    omega
  have h3 : x.opensWith "__" = false := by
    unfold Str.opensWith
    rw [Bool.eq_false_iff]
    intro q
    have q1 := beq_iff_eq.mp q
    have q2 := congrArg Array.toList q1
    rw [Array.toList_extract] at q2
    have q3 : 95 ∈ x.cps.toList := by
      have : 95 ∈ (Str.ofString "__").cps.toList := by decide +kernel
      rw [← q2] at this
      exact List.mem_of_mem_drop (List.mem_of_mem_take this)
    rcases hs _ q3 with h | h | h <;> cases h
  have hw : Look.word { strict := false, foot := none } x = true := by
    unfold Look.word attrL
    rw [hf, h3]
    rfl
  unfold Look.str
  rw [hw, hroad]
  cases underscores x <;> rfl
theorem assign_str {n x : Str} {p q r : Pos} {k : Nat} (h : Look.name { strict := false, foot := none } n = true) (hs : Look.str { strict := false, foot := none } x = true) :
    noRoadLS { strict := false, foot := none } (.Assign [.Name n p] (.Constant (.str x) k q) r) = true := by
  show (Look.stores { strict := false, foot := none } [.Name n p] && (Look.name { strict := false, foot := none } n && true) && Look.str { strict := false, foot := none } x) = true
  rw [h, hs]
  rfl
theorem road_cons {lk : Look} {s : Stmt} {r : List Stmt} (h : noRoadLS lk s = true) (t : noRoadLSs lk r = true) : noRoadLSs lk (s :: r) = true := by
  show (noRoadLS lk s && noRoadLSs lk r) = true
  rw [h, t]
  rfl
end Fax
set_option Elab.async false
set_option maxRecDepth 100000
set_option maxHeartbeats 8000000
namespace Fax
open PySem PySem.W
abbrev top2 : List Stmt := PySem.Challenge.pw_faxpages_s02_fax_read.main.body
theorem s2_ws : strAt top2 1 = ⟨(textOf (codesS false)).toArray⟩ := str_at rfl (by kernel_rfl) (by decide +kernel)
theorem s2_wl : strAt top2 2 = ⟨(textOf (codesL false)).toArray⟩ := str_at rfl (by kernel_rfl) (by decide +kernel)
theorem s2_bs : strAt top2 3 = ⟨(textOf (codesS true)).toArray⟩ := str_at rfl (by kernel_rfl) (by decide +kernel)
theorem s2_bl : strAt top2 4 = ⟨(textOf (codesL true)).toArray⟩ := str_at rfl (by kernel_rfl) (by decide +kernel)
theorem s2_bo : strAt top2 5 = ⟨(textOf codesB).toArray⟩ := str_at rfl (by kernel_rfl) (by decide +kernel)

theorem road2 : noRoadLSs { strict := false, foot := none } top2 = true :=
  road_cons (by decide +kernel)
    (road_cons (assign_str (by decide +kernel) (str_ok s2_ws (by decide +kernel) (by decide +kernel)))
    (road_cons (assign_str (by decide +kernel) (str_ok s2_wl (by decide +kernel) (by decide +kernel)))
    (road_cons (assign_str (by decide +kernel) (str_ok s2_bs (by decide +kernel) (by decide +kernel)))
    (road_cons (assign_str (by decide +kernel) (str_ok s2_bl (by decide +kernel) (by decide +kernel)))
    (road_cons (assign_str (by decide +kernel) (str_ok s2_bo (by decide +kernel) (by decide +kernel)))
      (by decide +kernel))))))
theorem looks2 : looksOpen PySem.Challenge.rw_faxpages_s02_fax_read.prog = true :=
  looks_of (b := false) (ws := []) (by decide +kernel) (by decide +kernel) (by decide +kernel) (by decide +kernel) (by decide +kernel) (by decide +kernel) road2 (by decide +kernel)
theorem said2 : PySem.Challenge.rw_faxpages_s02_fax_read.wellSaid = true := said_of looks2 (by decide +kernel)
end Fax
set_option Elab.async false
set_option linter.all false
set_option maxRecDepth 100000
set_option maxHeartbeats 4000000
/-! Rules that the layer lacks: enumerate of a text, a text repeated. -/
namespace L2
open PySem PySem.Spec PyProof.Rows

/-! ### enumerate(text) -/
def Itse (x : Str) : It :=
  ⟨fun i _ => i < x.cps.size, fun i H v H' => ∃ T c, v = .ref T ∧ H T = none ∧ H' = upd H T (.tup [.int (i : Nat), .str ⟨#[c]⟩]) ∧ x.cps[i]? = some c, fun i _ => x.cps.size ≤ i⟩
theorem turn_enumS {P : Program} {w : World} {K : PySem.W.Frag} {elts : List Expr} {kk : Nat} {tpos : Pos} (e it : Addr) (x : Str) (t : Tok) :
    Turn P w K (.Tuple elts kk tpos) (Itse x) [e, it] e (fun i h => (∃ old, IsEnum h e it ((i : Nat) : Int) old) ∧ h.IsStrIter it (strIterType x) x t i ∧ e ≠ it ∧ i ≤ x.cps.size) where
  mem := by simp
  obj := fun i h st b hb => by
    obtain ⟨⟨old, he⟩, ⟨o, ho, hc, hd⟩, _⟩ := st
    have e' : b = e ∨ b = it := by simpa using hb
    rcases e' with z | z
    · rw [z]; exact ⟨_, he, fun v q => nomatch q⟩
    · rw [z]; exact ⟨o, ho, fun v q => by rw [hd] at q; cases q⟩
  keep := fun i h h' st k => let ⟨⟨old, he⟩, ⟨o, ho, r⟩, hne⟩ := st; ⟨⟨old, k e (by simp) _ he⟩, ⟨o, k it (by simp) o ho, r⟩, hne⟩
  item := by
    intro X hP hw hK hc i pins s σ H E I hf st hg
    subst hP hw hK
    obtain ⟨⟨old, he⟩, hit, hne, hle⟩ := st
    have hel : e < s.heap.objs.size := Heap.lt_size he
    have hil : it < s.heap.objs.size := by obtain ⟨_, q, _⟩ := hit; exact Heap.lt_size q
    have D := Draws.text (prog := X.prog) (w := X.w) (A := X.A.in1) (show X.A.in1.handled = none from I.ok.hd hc) it x t
    refine wpAny_pyNext_enum_itemD D he hit hg hne (by simpa using hne) fun v h' tk hP ho hit' hT hsz hk => ?_
    obtain ⟨c, u, hcx, rfl⟩ := hP
    refine ⟨_, rfl, wpAny_letOwnedTupleGo_enum (s := { s with heap := h', toks := tk + 1 }) ho fun h'' he' sb => ?_⟩
    have hT2 : h''.get? s.heap.objs.size = some { cls := .type "tuple", data := .seq #[.int i tk, .str ⟨#[c]⟩ u] } := (sb.2 _ (Nat.ne_of_gt hel)).trans hT
    have new : ObjOk X.prog X.w (upd H s.heap.objs.size (.tup [.int (i : Nat), .str ⟨#[c]⟩])) h'' s.heap.objs.size (.tup [.int (i : Nat), .str ⟨#[c]⟩]) :=
      ⟨by show 2 ≤ sizeLine; decide, [.int i tk, .str ⟨#[c]⟩ u], .cons ⟨_, rfl⟩ (.cons ⟨u, rfl⟩ .nil), ⟨_, hT2, rfl, _, rfl⟩⟩
    have I1 : Inv X pins σ (upd H s.heap.objs.size (.tup [.int (i : Nat), .str ⟨#[c]⟩])) { s with heap := h'', toks := tk + 1 } :=
      I.turnedNew (ch := [e, it]) (fun b ob hb q => (sb.2 b (fun z => hb (by simp [z]))).trans (hk b ob (fun z => hb (by simp [z])) (fun z => hb (by simp [z])) q)) hf (Nat.le_refl _) new
    have hit2 : h''.IsStrIter it (strIterType x) x t (i + 1) := by
      obtain ⟨o, q, r⟩ := hit'
      exact ⟨o, (sb.2 it (Ne.symm hne)).trans q, r⟩
    refine ⟨.ref s.heap.objs.size, _, I1, rfl, ⟨_, c, rfl, I.hok.fresh (Nat.le_refl _), rfl, hcx⟩, ⟨⟨.str ⟨#[c]⟩ u, ?_⟩, hit2, hne, hg⟩, fun b hb => ?_⟩
    · have e1 : ((i + 1 : Nat) : Int) = (i : Int) + 1 := by omega
      rw [e1]; exact he'
    · have hb' : b < s.heap.objs.size := by
        have e' : b = e ∨ b = it := by simpa using hb
        rcases e' with z | z
        · rw [z]; exact hel
        · rw [z]; exact hil
      rw [upd_ne (Nat.ne_of_lt hb')]
      exact (hf b hb).1
  done := by
    intro X hP hw hK hc i pins s σ H E I hf st hg
    subst hP hw hK
    obtain ⟨⟨old, he⟩, hit, hne, hle⟩ := st
    obtain ⟨f0, f1, f2, f3, f4, f5⟩ := hf it (by simp)
    have hi : i = x.cps.size := Nat.le_antisymm hle hg
    have D := Draws.text (prog := X.prog) (w := X.w) (A := X.A.in1) (show X.A.in1.handled = none from I.ok.hd hc) it x t
    exact wpAny_pyNext_enum_endD D he (hi ▸ hit) fun h' eb => ⟨rfl, I.turned (t' := s.toks) (fun b o hb q => eb b o hb q) f0 f1 f3 f4 f5⟩
  self := fun A i s Q E st h => let ⟨⟨_, he⟩, _⟩ := st; wpAny_pyIter_enum he h
def iEnumS (ta : TA) : TI := fun σ H R => ta σ H fun vs H1 => ∃ x : Str, vs = [.str x] ∧ R (Itse x) H1
theorem pi_enumS {X : Cx} {e : Expr} {ta : TA} {p pos tpos : Pos} {elts : List Expr} {kk : Nat} (hg : Gl X "enumerate") (hm : X.mg "enumerate" = none) (ha : PA X [e] ta) (hs : starEach [e] X.env = [(false, eval e X.env)] := by rfl) :
    PI X (.Tuple elts kk tpos) (.Call (.Name "enumerate" p) [e] [] pos) (iEnumS ta) := by
  refine ⟨fun pins s σ H R I h => ?_⟩
  refine Call_ (ld_blt I hg hm boot_enumerate (PyProof.Rows.callWith_type1 (thn (ha.run pos pins s σ H _ I h) fun us s1 ⟨vs, H1, I1, r1, q1⟩ => ?_) hs rfl))
  obtain ⟨x, ex, q⟩ := q1
  subst ex
  cases r1 with
  | cons r rr =>
    cases rr
    obtain ⟨t, rfl⟩ := r
    refine call_enumerate_str fun h' he hit hsz hk => wpAny_pyIter_enum he ?_
    have I2 : Inv X pins σ H1 { s1 with heap := h' } := I1.kept (t' := s1.toks) hk
    refine ⟨s1.heap.objs.size + 1, [s1.heap.objs.size + 1, s1.heap.objs.size], _, _, H1, rfl, I2, turn_enumS (s1.heap.objs.size + 1) s1.heap.objs.size x t, ⟨⟨.none, he⟩, hit, Nat.succ_ne_self _, Nat.zero_le _⟩, fun b hb => ?_, q⟩
    have e' : b = s1.heap.objs.size + 1 ∨ b = s1.heap.objs.size := by simpa using hb
    have hle : s1.heap.objs.size ≤ b := by
      rcases e' with z | z
      · rw [z]; exact Nat.le_add_right _ _
      · rw [z]; exact Nat.le_refl _
    exact I1.fpOk hle (I1.hok.fresh hle)
/-- the loop over it, by a word -/
theorem for_enumS {x : Str} {g : TG} {tb : TS} {D : Ends} {σ : St} {H : Hp} (Pv : Nat → St → Hp → Prop) (h0 : Pv 0 σ H)
    (hs : ∀ i c T σ H, x.cps[i]? = some c → H T = none → Pv i σ H → g (.ref T) σ (upd H T (.tup [.int (i : Nat), .str ⟨#[c]⟩])) fun σ2 H2 => tb { D with nx := Pv (i + 1), ct := Pv (i + 1), bk := D.nx } σ2 H2) (hd : ∀ σ H, Pv x.cps.size σ H → D.nx σ H) :
    ∃ W : Nat → Nat → St → Hp → Prop, (∃ m, W 0 m σ H) ∧ ∀ i m σ H, W i m σ H →
      ((Itse x).stop i H ∧ D.nx σ H) ∨ ((Itse x).go i H ∧ ∃ N : St → Hp → Prop, (∀ σ' H', N σ' H' → ∃ m', m' < m ∧ W (i + 1) m' σ' H') ∧ ∀ x' H', (Itse x).yld i H x' H' → g x' σ H' fun σ2 H2 => tb { D with nx := N, ct := N, bk := D.nx } σ2 H2) := by
  refine ⟨fun i m σ H => m = x.cps.size - i ∧ i ≤ x.cps.size ∧ Pv i σ H, ⟨x.cps.size, by simp, Nat.zero_le _, h0⟩, ?_⟩
  rintro i m σ H ⟨rfl, hi, p⟩
  by_cases hlt : i < x.cps.size
  · refine .inr ⟨hlt, Pv (i + 1), fun σ' H' p' => ⟨x.cps.size - (i + 1), by omega, rfl, hlt, p'⟩, fun x' H' y => ?_⟩
    obtain ⟨T, c, rfl, nT, rfl, hc⟩ := y
    exact hs i c T σ H hc nT p
  · have e : i = x.cps.size := by omega
    subst e
    exact .inl ⟨Nat.le_refl _, hd σ H p⟩
/-- over enumerate of a list that the body leaves as it is -/
theorem for_enumL {K : PySem.W.Frag} {a : Addr} {xs : List V} {g : TG} {tb : TS} {D : Ends} {σ : St} {H : Hp} (Pv : Nat → St → Hp → Prop) (h0 : Pv 0 σ H) (hl : ∀ i σ H, i ≤ xs.length → Pv i σ H → SqL K H a xs)
    (hs : ∀ i x T σ H, xs[i]? = some x → H T = none → Pv i σ H → g (.ref T) σ (upd H T (.tup [.int (i : Nat), x])) fun σ2 H2 => tb { D with nx := Pv (i + 1), ct := Pv (i + 1), bk := D.nx } σ2 H2) (hd : ∀ σ H, Pv xs.length σ H → D.nx σ H) :
    ∃ W : Nat → Nat → St → Hp → Prop, (∃ m, W 0 m σ H) ∧ ∀ i m σ H, W i m σ H →
      ((Ite K a).stop i H ∧ D.nx σ H) ∨ ((Ite K a).go i H ∧ ∃ N : St → Hp → Prop, (∀ σ' H', N σ' H' → ∃ m', m' < m ∧ W (i + 1) m' σ' H') ∧ ∀ x' H', (Ite K a).yld i H x' H' → g x' σ H' fun σ2 H2 => tb { D with nx := N, ct := N, bk := D.nx } σ2 H2) := by
  refine ⟨fun i m σ H => m = xs.length - i ∧ i ≤ xs.length ∧ Pv i σ H, ⟨xs.length, by simp, Nat.zero_le _, h0⟩, ?_⟩
  rintro i m σ H ⟨rfl, hi, p⟩
  have q := hl i σ H hi p
  by_cases hlt : i < xs.length
  · refine .inr ⟨⟨xs, xs[i], q, by simp [hlt]⟩, Pv (i + 1), fun σ' H' p' => ⟨xs.length - (i + 1), by omega, rfl, hlt, p'⟩, fun x' H' y => ?_⟩
    obtain ⟨T, x, rfl, nT, rfl, hx⟩ := y
    exact hs i x T σ H (hx xs q) nT p
  · have e : i = xs.length := by omega
    subst e
    exact .inl ⟨⟨xs, q, Nat.le_refl _⟩, hd σ H p⟩
/-! ### a text repeated -/
theorem op_mul_str {X : Cx} : OpR X (binaryOp .Mult) (fun x y H Q => ∃ z k, x = .str z ∧ y = .int k ∧ 0 ≤ k ∧ k ≤ 1000 ∧ z.length ≤ 1000 ∧ Q (.str (Txt.mul z k)) H) := by
  intro pins s σ H x y v u Q I rx ry h
  obtain ⟨z, k, rfl, rfl, h0, h1, hz, q⟩ := h
  obtain ⟨t, rfl⟩ := rx
  obtain ⟨t', rfl⟩ := ry
  refine PySem.SB.mul ⟨?_, fun h _ => ?_, fun _ _ => ?_⟩ (fun t' tk => ⟨.str (Txt.mul z k), H, I.tok _, ⟨_, rfl⟩, q⟩)
  · rw [decide_eq_false (by omega), decide_eq_false (by omega)]
    rfl
  · have : (1000 : Int) ≤ (2 ^ 63 - 1) / k := by
      rw [Int.le_ediv_iff_mul_le (by omega)]
      omega
    omega
  · have h2 : z.length * k.toNat ≤ 1000 * 1000 := Nat.mul_le_mul hz (by omega)
    have h3 : ¬ z.length * k.toNat > sizeLine := Nat.not_lt.mpr (Nat.le_trans h2 (by decide))
    show decide (z.length * k.toNat > sizeLine) = false
    exact decide_eq_false h3
theorem rel_str (x : Str) (t : Tok) : RelV (.str x) (.str x t) := ⟨t, rfl⟩
theorem rel_int (i : Int) (t : Tok) : RelV (.int i) (.int i t) := ⟨t, rfl⟩
/-! ### an if whose test is known -/
theorem if_true_of {c : Bool} {A B : Prop} (hc : c = true) (h : A) : if c = true then A else B := by
  rw [if_pos hc]
  exact h
theorem if_false_of {c : Bool} {A B : Prop} (hc : c = false) (h : B) : if c = true then A else B := by
  rw [hc, if_neg Bool.false_ne_true]
  exact h
theorem if_dec {p : Prop} [Decidable p] {A B : Prop} (h1 : p → A) (h2 : ¬ p → B) : if decide p = true then A else B := by
  by_cases h : p
  · exact if_true_of (decide_eq_true h) (h1 h)
  · exact if_false_of (decide_eq_false h) (h2 h)
theorem if_yes {p : Prop} [Decidable p] {A B : Prop} (h : p) (h1 : A) : if decide p = true then A else B := if_true_of (decide_eq_true h) h1
theorem if_no {p : Prop} [Decidable p] {A B : Prop} (h : ¬ p) (h1 : B) : if decide p = true then A else B := if_false_of (decide_eq_false h) h1
/-! ### heaps -/
theorem same_upd {H : Hp} {p : Addr} {o : HO} (h : H p = none) : Same H (upd H p o) := fun b x e => by
  rw [upd_ne (ne_of_none e h)]
  exact e
theorem Same.tup {K : PySem.W.Frag} {H H' : Hp} {a : Addr} {xs : List V} (e : Same H H') (h : SqT K H a xs) : SqT K H' a xs := by
  rcases h with (h | ⟨o, h⟩) | h
  · exact .inl (.inl (e _ _ h))
  · exact .inl (.inr ⟨o, e _ _ h⟩)
  · exact .inr h
/-- all but what stands at l is as it was -/
def But (l : Addr) (H H' : Hp) : Prop := ∀ b o, b ≠ l → H b = some o → H' b = some o
theorem But.refl (l : Addr) (H : Hp) : But l H H := fun _ _ _ e => e
theorem But.trans {l : Addr} {H H1 H2 : Hp} (a : But l H H1) (b : But l H1 H2) : But l H H2 := fun c o n e => b c o n (a c o n e)
theorem Same.but {l : Addr} {H H' : Hp} (a : Same H H') : But l H H' := fun b o _ e => a b o e
theorem but_upd {H : Hp} {l : Addr} {o : HO} : But l H (upd H l o) := fun b x n e => by
  rw [upd_ne n]
  exact e
end L2
set_option Elab.async false
set_option linter.all false
set_option maxRecDepth 100000
set_option maxHeartbeats 4000000
/-! The tables as texts and dicts. -/
namespace Fax
open PySem PySem.Spec PyProof.Rows L2

/-! ### texts of bits -/
theorem str_ext {a b : Str} (h : a.cps.toList = b.cps.toList) : a = b := by
  cases a; cases b
  simp only [Str.mk.injEq]
  exact Array.toList_inj.mp h
theorem T_list (b : Ql31.Bits) : (T b).cps.toList = signs b := rfl
theorem signs_len (b : Ql31.Bits) : (signs b).length = b.length := by simp [signs]
theorem T_len (b : Ql31.Bits) : (T b).length = b.length := by
  show (signs b).toArray.size = _
  rw [List.size_toArray, signs_len]
theorem signs_append (a b : Ql31.Bits) : signs (a ++ b) = signs a ++ signs b := by simp [signs]
theorem T_append (a b : Ql31.Bits) : T a ++ T b = T (a ++ b) := by
  apply str_ext
  show ((signs a).toArray ++ (signs b).toArray).toList = signs (a ++ b)
  rw [signs_append]
  simp
theorem signs_inj : ∀ {a b : Ql31.Bits}, signs a = signs b → a = b
  | [], [], _ => rfl
  | [], _ :: _, h => by simp [signs] at h
  | _ :: _, [], h => by simp [signs] at h
  | x :: a, y :: b, h => by
    have h' : (if x = true then 49 else 48) :: signs a = (if y = true then 49 else 48) :: signs b := h
    obtain ⟨h1, h2⟩ := List.cons.inj h'
    rw [signs_inj h2]
    congr 1
    revert h1
    cases x <;> cases y <;> decide
theorem T_inj {a b : Ql31.Bits} (h : T a = T b) : a = b := signs_inj (congrArg (fun s : Str => s.cps.toList) h)
theorem T_nil : T [] = Str.empty := rfl
theorem join_T : ∀ l : List Ql31.Bits, Str.join Str.empty (l.map T) = T l.flatten
  | [] => rfl
  | [x] => by
    show T x = T ([x].flatten)
    simp
  | x :: y :: r => by
    show T x ++ Str.empty ++ Str.join Str.empty ((y :: r).map T) = _
    rw [join_T (y :: r), ← T_nil, T_append, T_append, List.append_nil]
    rfl
/-! ### a text of codes, split -/
def tx (l : List Nat) : Str := ⟨l.toArray⟩
theorem joined_cps (l : List Str) : (Str.join ⟨#[32]⟩ l).cps.toList = joined (l.map fun x => x.cps.toList) := by
  match l with
  | [] => rfl
  | [x] => rfl
  | x :: y :: r =>
    show ((x.cps ++ #[32]) ++ (Str.join ⟨#[32]⟩ (y :: r)).cps).toList = x.cps.toList ++ 32 :: joined ((y :: r).map fun x => x.cps.toList)
    rw [Array.toList_append, Array.toList_append, joined_cps (y :: r), List.append_assoc]
    rfl
theorem cut_first : ∀ {a b p q : List Nat}, 32 ∉ a → 32 ∉ b → a ++ 32 :: p = b ++ 32 :: q → a = b ∧ p = q
  | [], [], _, _, _, _, h => ⟨rfl, (List.cons.inj h).2⟩
  | [], y :: b, _, _, _, hb, h => absurd (List.mem_cons.mpr (.inl (List.cons.inj h).1)) hb
  | x :: a, [], _, _, ha, _, h => absurd (List.mem_cons.mpr (.inl (List.cons.inj h).1.symm)) ha
  | x :: a, y :: b, p, q, ha, hb, h => by
    obtain ⟨h1, h2⟩ := List.cons.inj h
    obtain ⟨e1, e2⟩ := cut_first (fun z => ha (List.mem_cons_of_mem _ z)) (fun z => hb (List.mem_cons_of_mem _ z)) h2
    exact ⟨by rw [h1, e1], e2⟩
theorem joined_mem : ∀ {x y : List Nat} {r : List (List Nat)}, 32 ∈ joined (x :: y :: r) := by
  intro x y r
  show 32 ∈ x ++ 32 :: joined (y :: r)
  simp
theorem joined_inj : ∀ {a b : List (List Nat)}, a ≠ [] → b ≠ [] → (∀ p ∈ a, 32 ∉ p) → (∀ p ∈ b, 32 ∉ p) → joined a = joined b → a = b
  | [], _, h, _, _, _, _ => absurd rfl h
  | _, [], _, h, _, _, _ => absurd rfl h
  | [x], [y], _, _, _, _, h => by rw [show x = y from h]
  | [x], y :: z :: r, _, _, ha, _, h => by
    have h' : x = joined (y :: z :: r) := h
    exact absurd (h' ▸ joined_mem) (ha x (List.mem_singleton.mpr rfl))
  | x :: z :: r, [y], _, _, _, hb, h => by
    have h' : joined (x :: z :: r) = y := h
    exact absurd (h' ▸ joined_mem) (hb y (List.mem_singleton.mpr rfl))
  | x :: x2 :: r, y :: y2 :: s, _, _, ha, hb, h => by
    have h' : x ++ 32 :: joined (x2 :: r) = y ++ 32 :: joined (y2 :: s) := h
    obtain ⟨e1, e2⟩ := cut_first (ha x List.mem_cons_self) (hb y List.mem_cons_self) h'
    rw [e1, joined_inj (List.cons_ne_nil _ _) (List.cons_ne_nil _ _) (fun p hp => ha p (List.mem_cons_of_mem _ hp)) (fun p hp => hb p (List.mem_cons_of_mem _ hp)) e2]
theorem signs_free (b : Ql31.Bits) : 32 ∉ signs b := by
  intro h
  obtain ⟨x, _, e⟩ := List.mem_map.mp h
  revert e
  cases x <;> decide
theorem split_text (l : List Ql31.Bits) (hl : l ≠ []) : Txt.split (tx (textOf l)) ⟨#[32]⟩ = l.map T := by
  have h1 : joined ((Txt.split (tx (textOf l)) ⟨#[32]⟩).map fun x => x.cps.toList) = joined (l.map signs) := by
    rw [← joined_cps, PySem.StrLaws.join_split]
    rfl
  have hne : Txt.split (tx (textOf l)) ⟨#[32]⟩ ≠ [] := fun h => by
    have := split_pos (tx (textOf l)) ⟨#[32]⟩
    rw [h] at this
    exact absurd this (by decide)
  have h2 := joined_inj (fun h => hne (List.map_eq_nil_iff.mp h)) (fun h => hl (List.map_eq_nil_iff.mp h)) (fun p hp => by
    obtain ⟨x, hx, e⟩ := List.mem_map.mp hp
    rw [← e]
    exact PySem.StrLaws.split_free _ 32 x hx) (fun p hp => by
    obtain ⟨x, hx, e⟩ := List.mem_map.mp hp
    rw [← e]
    exact signs_free x) h1
  have h3 : ((Txt.split (tx (textOf l)) ⟨#[32]⟩).map fun x => x.cps.toList) = (l.map T).map fun x => x.cps.toList := by
    rw [h2, List.map_map]
    rfl
  exact List.map_inj_right (fun a b h => str_ext h) |>.mp h3
theorem blank_is : (" " : Str) = ⟨#[32]⟩ := by decide +kernel
theorem textOf_append : ∀ (a b : List Ql31.Bits), a ≠ [] → b ≠ [] → textOf (a ++ b) = textOf a ++ 32 :: textOf b
  | [], _, h, _ => absurd rfl h
  | [x], [], _, h => absurd rfl h
  | [x], y :: b, _, _ => rfl
  | x :: x2 :: a, b, _, hb => by
    show signs x ++ 32 :: textOf ((x2 :: a) ++ b) = (signs x ++ 32 :: textOf (x2 :: a)) ++ 32 :: textOf b
    rw [textOf_append (x2 :: a) b (List.cons_ne_nil _ _) hb]
    simp
theorem tx_cat (a b : List Ql31.Bits) (ha : a ≠ []) (hb : b ≠ []) : tx (textOf a) ++ ⟨#[32]⟩ ++ tx (textOf b) = tx (textOf (a ++ b)) := by
  apply str_ext
  rw [textOf_append a b ha hb]
  show (((textOf a).toArray ++ #[32]) ++ (textOf b).toArray).toList = _
  simp [tx]
/-! ### the dicts -/
def longs (d : Bool) : List Ql31.Bits := (List.range 40).map fun i => Ql31.codeOf d (64 * (i + 1))
theorem longs_is (d : Bool) : codesL d ++ codesB = longs d := by cases d <;> decide +kernel
/-- the codes by lengths -/
def lenTab (d : Bool) : List (Key × V) := ((List.range 64).map fun (n : Nat) => ((.inl (n : Int) : Key), V.str (T (Ql31.codeOf d n)))) ++ (List.range 40).map fun (i : Nat) => ((.inl (64 * ((i : Int) + 1)) : Key), V.str (T (Ql31.codeOf d (64 * (i + 1)))))
/-- the lengths by codes -/
def codTab (d : Bool) : List (Key × V) := (codeNs.map fun (n : Nat) => ((.inr (T (Ql31.codeOf d n)) : Key), V.int (n : Int)))
theorem lenTab_len (d : Bool) : (lenTab d).length = 104 := by simp [lenTab]
theorem codTab_len (d : Bool) : (codTab d).length = 104 := by simp [codTab, codeNs]
def keyInt : Key → Int
  | .inl i => i
  | .inr _ => 0
/-- the keys of the first table: numbers that differ -/
def lenKeys : List Int := ((List.range 64).map fun (n : Nat) => (n : Int)) ++ (List.range 40).map fun (i : Nat) => 64 * ((i : Int) + 1)
theorem lenKeys_nodup : lenKeys.Nodup := by decide +kernel
theorem lenTab_keys (d : Bool) : (lenTab d).map (·.1) = lenKeys.map Sum.inl := by
  unfold lenTab lenKeys
  rw [List.map_append, List.map_map, List.map_map, List.map_append, List.map_map, List.map_map]
  rfl
theorem nodup_map_inj {α β : Type} {f : α → β} (hf : ∀ a b, f a = f b → a = b) : ∀ {l : List α}, l.Nodup → (l.map f).Nodup
  | [], _ => List.nodup_nil
  | a :: l, h => by
    obtain ⟨h1, h2⟩ := List.nodup_cons.mp h
    rw [List.map_cons]
    refine List.nodup_cons.mpr ⟨fun m => ?_, nodup_map_inj hf h2⟩
    obtain ⟨b, hb, e⟩ := List.mem_map.mp m
    exact h1 (hf _ _ e ▸ hb)
theorem lenTab_nodup (d : Bool) : ((lenTab d).map (·.1)).Nodup := by
  rw [lenTab_keys]
  exact nodup_map_inj (fun a b h => Sum.inl.inj h) lenKeys_nodup
def codeKeys (d : Bool) : List Ql31.Bits := codeNs.map (Ql31.codeOf d)
theorem codeKeys_nodup (d : Bool) : (codeKeys d).Nodup := by cases d <;> decide +kernel
theorem codTab_keys (d : Bool) : (codTab d).map (·.1) = (codeKeys d).map fun b => Sum.inr (T b) := by
  unfold codTab codeKeys
  rw [List.map_map, List.map_map]
  rfl
theorem codTab_nodup (d : Bool) : ((codTab d).map (·.1)).Nodup := by
  rw [codTab_keys]
  exact nodup_map_inj (fun a b h => T_inj (Sum.inr.inj h)) (codeKeys_nodup d)
section
variable {κ : Type} [DecidableEq κ]
theorem valV_none_of : ∀ {kvs : List (κ × V)} {k : κ}, k ∉ kvs.map (·.1) → valV kvs k = none
  | [], _, _ => rfl
  | p :: r, k, h => by
    rw [valV_neg (fun e => h (by rw [List.map_cons, e]; exact List.mem_cons_self))]
    exact valV_none_of fun m => h (by rw [List.map_cons]; exact List.mem_cons_of_mem _ m)
theorem valV_at : ∀ {kvs : List (κ × V)} {i : Nat} {k : κ} {v : V}, (kvs.map (·.1)).Nodup → kvs[i]? = some (k, v) → valV kvs k = some v
  | [], _, _, _, _, h => by simp at h
  | p :: r, 0, k, v, _, h => by
    have e : p = (k, v) := Option.some.inj h
    subst e
    exact valV_pos rfl
  | p :: r, i + 1, k, v, hn, h => by
    obtain ⟨h1, h2⟩ := List.nodup_cons.mp (show (p.1 :: r.map (·.1)).Nodup from hn)
    have hr : r[i]? = some (k, v) := h
    have hm : k ∈ r.map (·.1) := List.mem_map.mpr ⟨(k, v), List.mem_of_getElem? hr, rfl⟩
    rw [valV_neg (fun e => h1 (e ▸ hm))]
    exact valV_at h2 hr
/-- a dict that is filled in its order -/
theorem put_take {kvs : List (κ × V)} {i : Nat} {k : κ} {v : V} (hn : (kvs.map (·.1)).Nodup) (h : kvs[i]? = some (k, v)) : putK (kvs.take i) k v = kvs.take (i + 1) := by
  obtain ⟨hi, e⟩ := List.getElem?_eq_some_iff.mp h
  have hnone : valV (kvs.take i) k = none := by
    refine valV_none_of fun m => ?_
    obtain ⟨p, hp, ep⟩ := List.mem_map.mp m
    obtain ⟨j, hj, ej⟩ := List.getElem_of_mem hp
    rw [List.length_take] at hj
    rw [List.getElem_take] at ej
    have h1 : (kvs.map (·.1))[j]? = some k := by rw [List.getElem?_map, List.getElem?_eq_getElem (by omega), ej, Option.map_some, ep]
    have h2 : (kvs.map (·.1))[i]? = some k := by rw [List.getElem?_map, h, Option.map_some]
    have := nodup_ixA hn h1 h2
    omega
  rw [putK_new v hnone, List.take_succ_eq_append_getElem hi, e]
where nodup_ixA {α : Type} {l : List α} (hN : l.Nodup) {i j : Nat} {x : α} (a : l[i]? = some x) (b : l[j]? = some x) : i = j := nd_ix hN a b
end
theorem lenTab_short (d : Bool) (i : Nat) (h : i < 64) : (lenTab d)[i]? = some (.inl (i : Int), V.str (T (Ql31.codeOf d i))) := by
  unfold lenTab
  rw [List.getElem?_append_left (by simpa using h), List.getElem?_map, List.getElem?_range h]
  rfl
theorem lenTab_long (d : Bool) (i : Nat) (h : i < 40) : (lenTab d)[64 + i]? = some (.inl (64 * ((i : Int) + 1)), V.str (T (Ql31.codeOf d (64 * (i + 1))))) := by
  unfold lenTab
  rw [List.getElem?_append_right (by simp), List.getElem?_map]
  simp only [List.length_map, List.length_range, Nat.add_sub_cancel_left]
  rw [List.getElem?_range h]
  rfl
theorem lenTab_val (d : Bool) (n : Nat) (h : n < 64 ∨ n % 64 = 0 ∧ n ≤ 2560) : valV (lenTab d) (.inl (n : Int)) = some (V.str (T (Ql31.codeOf d n))) := by
  rcases Nat.lt_or_ge n 64 with q | q
  · exact valV_at (lenTab_nodup d) (lenTab_short d n q)
  · have h2 : n % 64 = 0 ∧ n ≤ 2560 := h.resolve_left (by omega)
    have h3 := lenTab_long d (n / 64 - 1) (by omega)
    have e1 : 64 * (n / 64 - 1 + 1) = n := by omega
    have e2 : (64 * (((n / 64 - 1 : Nat) : Int) + 1)) = (n : Int) := by omega
    rw [e1, e2] at h3
    exact valV_at (lenTab_nodup d) h3
theorem codeNs_get (i : Nat) (h : i < 104) : codeNs[i]? = some (if i < 64 then i else 64 * (i - 63)) := by
  unfold codeNs
  by_cases q : i < 64
  · rw [List.getElem?_append_left (by simpa using q), List.getElem?_range q, if_pos q]
  · rw [List.getElem?_append_right (by simp; omega), List.getElem?_map, if_neg q]
    simp only [List.length_range]
    rw [List.getElem?_range (by omega)]
    simp only [Option.map_some, Option.some.injEq]
    omega
theorem lenTab_get (d : Bool) (i n : Nat) (h : codeNs[i]? = some n) : (lenTab d)[i]? = some (.inl (n : Int), V.str (T (Ql31.codeOf d n))) := by
  have hi : i < 104 := by
    have := (List.getElem?_eq_some_iff.mp h).1
    simpa [codeNs] using this
  rw [codeNs_get i hi] at h
  have h := Option.some.inj h
  split at h
  · subst h
    exact lenTab_short d i (by assumption)
  · have e := lenTab_long d (i - 64) (by omega)
    rw [show 64 + (i - 64) = i by omega] at e
    rw [e]
    subst h
    have e2 : 64 * (i - 64 + 1) = 64 * (i - 63) := by omega
    have e3 : (64 * (((i - 64 : Nat) : Int) + 1)) = ((64 * (i - 63) : Nat) : Int) := by omega
    rw [e2, e3]
theorem codTab_get (d : Bool) (i n : Nat) (h : codeNs[i]? = some n) : (codTab d)[i]? = some (.inr (T (Ql31.codeOf d n)), V.int (n : Int)) := by
  unfold codTab
  rw [List.getElem?_map, h]
  rfl
end Fax
set_option Elab.async false
set_option linter.all false
set_option maxRecDepth 100000
set_option maxHeartbeats 4000000
/-! Fields and lists of whole numbers. -/
namespace Fax
open PySem PySem.Spec PyProof.Rows L2
theorem lk_here {k : Str} {v : V} {r : List (Str × V)} : List.lookup k ((k, v) :: r) = some v := by
  have e : (k == k) = true := beq_self_eq_true k
  simp only [List.lookup, e]
theorem lk_past {k g : Str} {v : V} {r : List (Str × V)} (h : (k == g) = false) : List.lookup k ((g, v) :: r) = List.lookup k r := by
  simp only [List.lookup, h]
theorem put_here {f : Str} {v x : V} {r : List (Str × V)} : putF f v ((f, x) :: r) = (f, v) :: r := if_pos rfl
theorem put_past {f g : Str} {v x : V} {r : List (Str × V)} (h : ¬ g = f) : putF f v ((g, x) :: r) = (g, x) :: putF f v r := if_neg h
/-- whole numbers as values -/
abbrev natsV (l : List Nat) : List V := l.map fun (n : Nat) => V.int (n : Int)
theorem natsV_snoc (l : List Nat) (n : Nat) : natsV l ++ [V.int (n : Int)] = natsV (l ++ [n]) := by
  show _ = (l ++ [n]).map _
  rw [List.map_append]
  rfl
theorem natsV_get {cs : List Nat} {j : Nat} (h : j < cs.length) : (natsV cs)[j]? = some (V.int (cs[j] : Int)) := by
  rw [List.getElem?_map, List.getElem?_eq_getElem h]
  rfl
theorem bool_int_ne (a b : Bool) : (!decide (V.int (a.toNat : Int) = V.int (b.toNat : Int))) = decide (a ≠ b) := by cases a <;> cases b <;> decide
theorem rel_ref (a : Addr) : RelV (.ref a) (.ref a) := rfl
/-- two comparisons in one, of whole numbers -/
theorem chain2 {p : Prop} [Decidable p] {y z : Int} {v : V} (hv : v = .int y) {σ : L2.St} {H : Hp} {Q : V → Hp → Prop} (h1 : p ∧ y ≤ z → Q (.bl true) H) (h2 : ¬ (p ∧ y ≤ z) → Q (.bl false) H) :
    if decide p = true then tC (.int z) σ H (fun w' H4 => rI0 (fun i j => .bl (decide (i ≤ j))) v w' H4 Q) else Q (.bl false) H := by
  subst hv
  refine if_dec (fun hp => ⟨y, z, rfl, rfl, ?_⟩) (fun hp => h2 fun h => hp h.1)
  by_cases q : y ≤ z
  · show Q (.bl (decide (y ≤ z))) H
    rw [decide_eq_true q]
    exact h1 ⟨hp, q⟩
  · show Q (.bl (decide (y ≤ z))) H
    rw [decide_eq_false q]
    exact h2 fun h => q h.2
end Fax
set_option Elab.async false
set_option linter.all false
set_option maxRecDepth 100000
set_option maxHeartbeats 4000000
namespace Fax
open Ql31
/-! ### codes read -/
abbrev Tab := List (Int × Bits)
def lb (l : List (Int × String)) : Tab := l.map fun x => (x.1, bitsOf x.2)
def codeB (m : Tab) (b : Bits) : R Int := match m.find? fun x => x.2.isPrefixOf b with
  | some x => .ok (x.1, b.drop x.2.length)
  | none => .error (if (m.any fun x => b.isPrefixOf x.2) = true then ENDED else CODE, b.length)
theorem bitsOf_len (s : String) : (bitsOf s).length = s.length := by
  unfold bitsOf
  rw [List.length_map]
  exact String.length_toList
theorem code_lb (l : List (Int × String)) (b : Bits) : code l b = codeB (lb l) b := by
  unfold code codeB lb
  rw [List.find?_map, List.any_map]
  have e : ((fun x : Int × Bits => x.2.isPrefixOf b) ∘ fun x : Int × String => (x.1, bitsOf x.2)) = fun x : Int × String => (bitsOf x.2).isPrefixOf b := rfl
  have e2 : ((fun x : Int × Bits => b.isPrefixOf x.2) ∘ fun x : Int × String => (x.1, bitsOf x.2)) = fun x : Int × String => b.isPrefixOf (bitsOf x.2) := rfl
  rw [e, e2]
  cases h : l.find? fun x => (bitsOf x.2).isPrefixOf b with
  | none => rfl
  | some x =>
    show _ = Except.ok (x.1, b.drop (bitsOf x.2).length)
    rw [bitsOf_len]
def codL (d : Bool) : Tab := codeNs.map fun (n : Nat) => ((n : Int), codeOf d n)
theorem codL_is (d : Bool) : lb ((table d).map fun x => ((x.1 : Int), x.2)) = codL d := by cases d <;> decide +kernel
def wayL : Tab := lb ways
def pfB (m : Tab) : Bool := m.all fun x => m.all fun y => !(x.2.isPrefixOf y.2) || decide (x = y)
/-- the codes as bits, told in full (printed by gen_codes.py) -/
def litW : Tab := [
  ((0 : Int), [false, false, true, true, false, true, false, true]),
  ((1 : Int), [false, false, false, true, true, true]),
  ((2 : Int), [false, true, true, true]),
  ((3 : Int), [true, false, false, false]),
  ((4 : Int), [true, false, true, true]),
  ((5 : Int), [true, true, false, false]),
  ((6 : Int), [true, true, true, false]),
  ((7 : Int), [true, true, true, true]),
  ((8 : Int), [true, false, false, true, true]),
  ((9 : Int), [true, false, true, false, false]),
  ((10 : Int), [false, false, true, true, true]),
  ((11 : Int), [false, true, false, false, false]),
  ((12 : Int), [false, false, true, false, false, false]),
  ((13 : Int), [false, false, false, false, true, true]),
  ((14 : Int), [true, true, false, true, false, false]),
  ((15 : Int), [true, true, false, true, false, true]),
  ((16 : Int), [true, false, true, false, true, false]),
  ((17 : Int), [true, false, true, false, true, true]),
  ((18 : Int), [false, true, false, false, true, true, true]),
  ((19 : Int), [false, false, false, true, true, false, false]),
  ((20 : Int), [false, false, false, true, false, false, false]),
  ((21 : Int), [false, false, true, false, true, true, true]),
  ((22 : Int), [false, false, false, false, false, true, true]),
  ((23 : Int), [false, false, false, false, true, false, false]),
  ((24 : Int), [false, true, false, true, false, false, false]),
  ((25 : Int), [false, true, false, true, false, true, true]),
  ((26 : Int), [false, false, true, false, false, true, true]),
  ((27 : Int), [false, true, false, false, true, false, false]),
  ((28 : Int), [false, false, true, true, false, false, false]),
  ((29 : Int), [false, false, false, false, false, false, true, false]),
  ((30 : Int), [false, false, false, false, false, false, true, true]),
  ((31 : Int), [false, false, false, true, true, false, true, false]),
  ((32 : Int), [false, false, false, true, true, false, true, true]),
  ((33 : Int), [false, false, false, true, false, false, true, false]),
  ((34 : Int), [false, false, false, true, false, false, true, true]),
  ((35 : Int), [false, false, false, true, false, true, false, false]),
  ((36 : Int), [false, false, false, true, false, true, false, true]),
  ((37 : Int), [false, false, false, true, false, true, true, false]),
  ((38 : Int), [false, false, false, true, false, true, true, true]),
  ((39 : Int), [false, false, true, false, true, false, false, false]),
  ((40 : Int), [false, false, true, false, true, false, false, true]),
  ((41 : Int), [false, false, true, false, true, false, true, false]),
  ((42 : Int), [false, false, true, false, true, false, true, true]),
  ((43 : Int), [false, false, true, false, true, true, false, false]),
  ((44 : Int), [false, false, true, false, true, true, false, true]),
  ((45 : Int), [false, false, false, false, false, true, false, false]),
  ((46 : Int), [false, false, false, false, false, true, false, true]),
  ((47 : Int), [false, false, false, false, true, false, true, false]),
  ((48 : Int), [false, false, false, false, true, false, true, true]),
  ((49 : Int), [false, true, false, true, false, false, true, false]),
  ((50 : Int), [false, true, false, true, false, false, true, true]),
  ((51 : Int), [false, true, false, true, false, true, false, false]),
  ((52 : Int), [false, true, false, true, false, true, false, true]),
  ((53 : Int), [false, false, true, false, false, true, false, false]),
  ((54 : Int), [false, false, true, false, false, true, false, true]),
  ((55 : Int), [false, true, false, true, true, false, false, false]),
  ((56 : Int), [false, true, false, true, true, false, false, true]),
  ((57 : Int), [false, true, false, true, true, false, true, false]),
  ((58 : Int), [false, true, false, true, true, false, true, true]),
  ((59 : Int), [false, true, false, false, true, false, true, false]),
  ((60 : Int), [false, true, false, false, true, false, true, true]),
  ((61 : Int), [false, false, true, true, false, false, true, false]),
  ((62 : Int), [false, false, true, true, false, false, true, true]),
  ((63 : Int), [false, false, true, true, false, true, false, false]),
  ((64 : Int), [true, true, false, true, true]),
  ((128 : Int), [true, false, false, true, false]),
  ((192 : Int), [false, true, false, true, true, true]),
  ((256 : Int), [false, true, true, false, true, true, true]),
  ((320 : Int), [false, false, true, true, false, true, true, false]),
  ((384 : Int), [false, false, true, true, false, true, true, true]),
  ((448 : Int), [false, true, true, false, false, true, false, false]),
  ((512 : Int), [false, true, true, false, false, true, false, true]),
  ((576 : Int), [false, true, true, false, true, false, false, false]),
  ((640 : Int), [false, true, true, false, false, true, true, true]),
  ((704 : Int), [false, true, true, false, false, true, true, false, false]),
  ((768 : Int), [false, true, true, false, false, true, true, false, true]),
  ((832 : Int), [false, true, true, false, true, false, false, true, false]),
  ((896 : Int), [false, true, true, false, true, false, false, true, true]),
  ((960 : Int), [false, true, true, false, true, false, true, false, false]),
  ((1024 : Int), [false, true, true, false, true, false, true, false, true]),
  ((1088 : Int), [false, true, true, false, true, false, true, true, false]),
  ((1152 : Int), [false, true, true, false, true, false, true, true, true]),
  ((1216 : Int), [false, true, true, false, true, true, false, false, false]),
  ((1280 : Int), [false, true, true, false, true, true, false, false, true]),
  ((1344 : Int), [false, true, true, false, true, true, false, true, false]),
  ((1408 : Int), [false, true, true, false, true, true, false, true, true]),
  ((1472 : Int), [false, true, false, false, true, true, false, false, false]),
  ((1536 : Int), [false, true, false, false, true, true, false, false, true]),
  ((1600 : Int), [false, true, false, false, true, true, false, true, false]),
  ((1664 : Int), [false, true, true, false, false, false]),
  ((1728 : Int), [false, true, false, false, true, true, false, true, true]),
  ((1792 : Int), [false, false, false, false, false, false, false, true, false, false, false]),
  ((1856 : Int), [false, false, false, false, false, false, false, true, true, false, false]),
  ((1920 : Int), [false, false, false, false, false, false, false, true, true, false, true]),
  ((1984 : Int), [false, false, false, false, false, false, false, true, false, false, true, false]),
  ((2048 : Int), [false, false, false, false, false, false, false, true, false, false, true, true]),
  ((2112 : Int), [false, false, false, false, false, false, false, true, false, true, false, false]),
  ((2176 : Int), [false, false, false, false, false, false, false, true, false, true, false, true]),
  ((2240 : Int), [false, false, false, false, false, false, false, true, false, true, true, false]),
  ((2304 : Int), [false, false, false, false, false, false, false, true, false, true, true, true]),
  ((2368 : Int), [false, false, false, false, false, false, false, true, true, true, false, false]),
  ((2432 : Int), [false, false, false, false, false, false, false, true, true, true, false, true]),
  ((2496 : Int), [false, false, false, false, false, false, false, true, true, true, true, false]),
  ((2560 : Int), [false, false, false, false, false, false, false, true, true, true, true, true])]
def litB : Tab := [
  ((0 : Int), [false, false, false, false, true, true, false, true, true, true]),
  ((1 : Int), [false, true, false]),
  ((2 : Int), [true, true]),
  ((3 : Int), [true, false]),
  ((4 : Int), [false, true, true]),
  ((5 : Int), [false, false, true, true]),
  ((6 : Int), [false, false, true, false]),
  ((7 : Int), [false, false, false, true, true]),
  ((8 : Int), [false, false, false, true, false, true]),
  ((9 : Int), [false, false, false, true, false, false]),
  ((10 : Int), [false, false, false, false, true, false, false]),
  ((11 : Int), [false, false, false, false, true, false, true]),
  ((12 : Int), [false, false, false, false, true, true, true]),
  ((13 : Int), [false, false, false, false, false, true, false, false]),
  ((14 : Int), [false, false, false, false, false, true, true, true]),
  ((15 : Int), [false, false, false, false, true, true, false, false, false]),
  ((16 : Int), [false, false, false, false, false, true, false, true, true, true]),
  ((17 : Int), [false, false, false, false, false, true, true, false, false, false]),
  ((18 : Int), [false, false, false, false, false, false, true, false, false, false]),
  ((19 : Int), [false, false, false, false, true, true, false, false, true, true, true]),
  ((20 : Int), [false, false, false, false, true, true, false, true, false, false, false]),
  ((21 : Int), [false, false, false, false, true, true, false, true, true, false, false]),
  ((22 : Int), [false, false, false, false, false, true, true, false, true, true, true]),
  ((23 : Int), [false, false, false, false, false, true, false, true, false, false, false]),
  ((24 : Int), [false, false, false, false, false, false, true, false, true, true, true]),
  ((25 : Int), [false, false, false, false, false, false, true, true, false, false, false]),
  ((26 : Int), [false, false, false, false, true, true, false, false, true, false, true, false]),
  ((27 : Int), [false, false, false, false, true, true, false, false, true, false, true, true]),
  ((28 : Int), [false, false, false, false, true, true, false, false, true, true, false, false]),
  ((29 : Int), [false, false, false, false, true, true, false, false, true, true, false, true]),
  ((30 : Int), [false, false, false, false, false, true, true, false, true, false, false, false]),
  ((31 : Int), [false, false, false, false, false, true, true, false, true, false, false, true]),
  ((32 : Int), [false, false, false, false, false, true, true, false, true, false, true, false]),
  ((33 : Int), [false, false, false, false, false, true, true, false, true, false, true, true]),
  ((34 : Int), [false, false, false, false, true, true, false, true, false, false, true, false]),
  ((35 : Int), [false, false, false, false, true, true, false, true, false, false, true, true]),
  ((36 : Int), [false, false, false, false, true, true, false, true, false, true, false, false]),
  ((37 : Int), [false, false, false, false, true, true, false, true, false, true, false, true]),
  ((38 : Int), [false, false, false, false, true, true, false, true, false, true, true, false]),
  ((39 : Int), [false, false, false, false, true, true, false, true, false, true, true, true]),
  ((40 : Int), [false, false, false, false, false, true, true, false, true, true, false, false]),
  ((41 : Int), [false, false, false, false, false, true, true, false, true, true, false, true]),
  ((42 : Int), [false, false, false, false, true, true, false, true, true, false, true, false]),
  ((43 : Int), [false, false, false, false, true, true, false, true, true, false, true, true]),
  ((44 : Int), [false, false, false, false, false, true, false, true, false, true, false, false]),
  ((45 : Int), [false, false, false, false, false, true, false, true, false, true, false, true]),
  ((46 : Int), [false, false, false, false, false, true, false, true, false, true, true, false]),
  ((47 : Int), [false, false, false, false, false, true, false, true, false, true, true, true]),
  ((48 : Int), [false, false, false, false, false, true, true, false, false, true, false, false]),
  ((49 : Int), [false, false, false, false, false, true, true, false, false, true, false, true]),
  ((50 : Int), [false, false, false, false, false, true, false, true, false, false, true, false]),
  ((51 : Int), [false, false, false, false, false, true, false, true, false, false, true, true]),
  ((52 : Int), [false, false, false, false, false, false, true, false, false, true, false, false]),
  ((53 : Int), [false, false, false, false, false, false, true, true, false, true, true, true]),
  ((54 : Int), [false, false, false, false, false, false, true, true, true, false, false, false]),
  ((55 : Int), [false, false, false, false, false, false, true, false, false, true, true, true]),
  ((56 : Int), [false, false, false, false, false, false, true, false, true, false, false, false]),
  ((57 : Int), [false, false, false, false, false, true, false, true, true, false, false, false]),
  ((58 : Int), [false, false, false, false, false, true, false, true, true, false, false, true]),
  ((59 : Int), [false, false, false, false, false, false, true, false, true, false, true, true]),
  ((60 : Int), [false, false, false, false, false, false, true, false, true, true, false, false]),
  ((61 : Int), [false, false, false, false, false, true, false, true, true, false, true, false]),
  ((62 : Int), [false, false, false, false, false, true, true, false, false, true, true, false]),
  ((63 : Int), [false, false, false, false, false, true, true, false, false, true, true, true]),
  ((64 : Int), [false, false, false, false, false, false, true, true, true, true]),
  ((128 : Int), [false, false, false, false, true, true, false, false, true, false, false, false]),
  ((192 : Int), [false, false, false, false, true, true, false, false, true, false, false, true]),
  ((256 : Int), [false, false, false, false, false, true, false, true, true, false, true, true]),
  ((320 : Int), [false, false, false, false, false, false, true, true, false, false, true, true]),
  ((384 : Int), [false, false, false, false, false, false, true, true, false, true, false, false]),
  ((448 : Int), [false, false, false, false, false, false, true, true, false, true, false, true]),
  ((512 : Int), [false, false, false, false, false, false, true, true, false, true, true, false, false]),
  ((576 : Int), [false, false, false, false, false, false, true, true, false, true, true, false, true]),
  ((640 : Int), [false, false, false, false, false, false, true, false, false, true, false, true, false]),
  ((704 : Int), [false, false, false, false, false, false, true, false, false, true, false, true, true]),
  ((768 : Int), [false, false, false, false, false, false, true, false, false, true, true, false, false]),
  ((832 : Int), [false, false, false, false, false, false, true, false, false, true, true, false, true]),
  ((896 : Int), [false, false, false, false, false, false, true, true, true, false, false, true, false]),
  ((960 : Int), [false, false, false, false, false, false, true, true, true, false, false, true, true]),
  ((1024 : Int), [false, false, false, false, false, false, true, true, true, false, true, false, false]),
  ((1088 : Int), [false, false, false, false, false, false, true, true, true, false, true, false, true]),
  ((1152 : Int), [false, false, false, false, false, false, true, true, true, false, true, true, false]),
  ((1216 : Int), [false, false, false, false, false, false, true, true, true, false, true, true, true]),
  ((1280 : Int), [false, false, false, false, false, false, true, false, true, false, false, true, false]),
  ((1344 : Int), [false, false, false, false, false, false, true, false, true, false, false, true, true]),
  ((1408 : Int), [false, false, false, false, false, false, true, false, true, false, true, false, false]),
  ((1472 : Int), [false, false, false, false, false, false, true, false, true, false, true, false, true]),
  ((1536 : Int), [false, false, false, false, false, false, true, false, true, true, false, true, false]),
  ((1600 : Int), [false, false, false, false, false, false, true, false, true, true, false, true, true]),
  ((1664 : Int), [false, false, false, false, false, false, true, true, false, false, true, false, false]),
  ((1728 : Int), [false, false, false, false, false, false, true, true, false, false, true, false, true]),
  ((1792 : Int), [false, false, false, false, false, false, false, true, false, false, false]),
  ((1856 : Int), [false, false, false, false, false, false, false, true, true, false, false]),
  ((1920 : Int), [false, false, false, false, false, false, false, true, true, false, true]),
  ((1984 : Int), [false, false, false, false, false, false, false, true, false, false, true, false]),
  ((2048 : Int), [false, false, false, false, false, false, false, true, false, false, true, true]),
  ((2112 : Int), [false, false, false, false, false, false, false, true, false, true, false, false]),
  ((2176 : Int), [false, false, false, false, false, false, false, true, false, true, false, true]),
  ((2240 : Int), [false, false, false, false, false, false, false, true, false, true, true, false]),
  ((2304 : Int), [false, false, false, false, false, false, false, true, false, true, true, true]),
  ((2368 : Int), [false, false, false, false, false, false, false, true, true, true, false, false]),
  ((2432 : Int), [false, false, false, false, false, false, false, true, true, true, false, true]),
  ((2496 : Int), [false, false, false, false, false, false, false, true, true, true, true, false]),
  ((2560 : Int), [false, false, false, false, false, false, false, true, true, true, true, true])]
def litL : Bool → Tab
  | false => litW
  | true => litB
theorem litL_is (d : Bool) : codL d = litL d := by cases d <;> decide +kernel
theorem litL_pf (d : Bool) : pfB (litL d) = true := by cases d <;> decide +kernel
theorem codL_pf (d : Bool) : pfB (codL d) = true := by
  rw [litL_is]
  exact litL_pf d
theorem wayL_pf : pfB wayL = true := by decide +kernel
theorem pf_of {m : Tab} (h : pfB m = true) {x y : Int × Bits} (hx : x ∈ m) (hy : y ∈ m) (hp : x.2 <+: y.2) : x = y := by
  have h1 := List.all_eq_true.mp (List.all_eq_true.mp h x hx) y hy
  rw [List.isPrefixOf_iff_prefix.mpr hp] at h1
  simpa using h1
def Begun (m : Tab) (k : Bits) : Prop := ∃ x ∈ m, k <+: x.2 ∧ k ≠ x.2
theorem begun_len {m : Tab} {k : Bits} {x : Int × Bits} (h : k <+: x.2) (hn : k ≠ x.2) : k.length < x.2.length := by
  rcases Nat.lt_or_eq_of_le h.length_le with z | z
  · exact z
  · exact absurd (h.eq_of_length z) hn
theorem code_cut {m : Tab} (hm : pfB m = true) {b : Bits} (h : Begun m b) : codeB m b = .error (ENDED, b.length) := by
  obtain ⟨y, hy, hp, hn⟩ := h
  have hn2 : m.find? (fun x => x.2.isPrefixOf b) = none := by
    rw [List.find?_eq_none]
    intro x hx hxb
    have hxb' : x.2 <+: b := List.isPrefixOf_iff_prefix.mp hxb
    have e := pf_of hm hx hy (hxb'.trans hp)
    subst e
    have := begun_len (m := m) hp hn
    have := hxb'.length_le
    omega
  have ha : (m.any fun x => b.isPrefixOf x.2) = true := List.any_eq_true.mpr ⟨y, hy, List.isPrefixOf_iff_prefix.mpr hp⟩
  unfold codeB
  rw [hn2, ha]
  rfl
theorem code_hit {m : Tab} (hm : pfB m = true) {b : Bits} {k : Nat} {z : Int} (hk : k ≤ b.length) (h : (z, b.take k) ∈ m) : codeB m b = .ok (z, b.drop k) := by
  cases hf : m.find? fun x => x.2.isPrefixOf b with
  | none =>
    rw [List.find?_eq_none] at hf
    exact absurd (List.isPrefixOf_iff_prefix.mpr (List.take_prefix k b)) (hf _ h)
  | some x =>
    have hx := List.mem_of_find?_eq_some hf
    have hp : x.2 <+: b := List.isPrefixOf_iff_prefix.mp (List.find?_some (p := fun x : Int × Bits => x.2.isPrefixOf b) hf)
    have e : x = (z, b.take k) := by
      rcases List.prefix_or_prefix_of_prefix hp (List.take_prefix k b) with q | q
      · exact pf_of hm hx h q
      · exact (pf_of hm h hx q).symm
    unfold codeB
    rw [hf, e]
    show Except.ok (z, b.drop (b.take k).length) = _
    rw [List.length_take, Nat.min_eq_left hk]
theorem code_miss {m : Tab} {b : Bits} {k : Nat} (hb : ∀ j, j < k → Begun m (b.take j)) (hm : pfB m = true) (h1 : ¬ Begun m (b.take k)) (h2 : ∀ z, (z, b.take k) ∉ m) : codeB m b = .error (CODE, b.length) := by
  have key : ∀ x ∈ m, ¬ b.take k <+: x.2 := fun x hx hp => by
    by_cases e : b.take k = x.2
    · exact h2 x.1 (by rw [e]; exact hx)
    · exact h1 ⟨x, hx, hp, e⟩
  have hn : m.find? (fun x => x.2.isPrefixOf b) = none := by
    rw [List.find?_eq_none]
    intro x hx hxb
    have hp : x.2 <+: b := List.isPrefixOf_iff_prefix.mp hxb
    by_cases hl : x.2.length < k
    · have e : b.take x.2.length = x.2 := (List.prefix_iff_eq_take.mp hp).symm
      obtain ⟨y, hy, q1, q2⟩ := hb _ hl
      rw [e] at q1 q2
      exact q2 (congrArg (·.2) (pf_of hm hx hy q1))
    · have q : b.take k <+: x.2 := by
        rcases List.prefix_or_prefix_of_prefix hp (List.take_prefix k b) with q | q
        · have := q.length_le
          rw [List.length_take] at this
          have e := q.eq_of_length (by rw [List.length_take]; omega)
          rw [← e]
          exact List.prefix_rfl
        · exact q
      exact key x hx q
  have ha : (m.any fun x => b.isPrefixOf x.2) = false := by
    rw [List.any_eq_false]
    intro x hx hxb
    exact key x hx ((List.take_prefix k b).trans (List.isPrefixOf_iff_prefix.mp hxb))
  unfold codeB
  rw [hn, ha]
  rfl
theorem code_mem {m : Tab} {b r : Bits} {z : Int} (h : codeB m b = .ok (z, r)) : ∃ c, (z, c) ∈ m := by
  unfold codeB at h
  cases hf : m.find? fun x => x.2.isPrefixOf b with
  | none => rw [hf] at h; cases h
  | some x =>
    rw [hf] at h
    cases h
    exact ⟨x.2, List.mem_of_find?_eq_some hf⟩
theorem codL_nat {d : Bool} {z : Int} {c : Bits} (h : (z, c) ∈ codL d) : ∃ n : Nat, z = (n : Int) ∧ n ∈ codeNs := by
  obtain ⟨n, hn, e⟩ := List.mem_map.mp h
  exact ⟨n, (congrArg (·.1) e).symm, hn⟩
/-! ### runs read -/
theorem readRun_step (d : Bool) (k most n : Nat) (b : Bits) : readRun d (k + 1) most n b = match codeB (codL d) b with
    | .error e => .error e
    | .ok (z, r) => if most < n + z.toNat then .error (LONG, b.length) else if z < 64 then .ok (n + z.toNat, r) else readRun d k most (n + z.toNat) r := by
  conv => lhs; unfold readRun
  rw [code_lb, codL_is]
  cases codeB (codL d) b <;> rfl
theorem readRun_err {d : Bool} {k most n : Nat} {b : Bits} {e : Nat × Nat} (h : codeB (codL d) b = .error e) : readRun d (k + 1) most n b = .error e := by
  rw [readRun_step, h]
theorem readRun_ok {d : Bool} {k most n m : Nat} {b r : Bits} (h : codeB (codL d) b = .ok ((m : Int), r)) :
    readRun d (k + 1) most n b = if most < n + m then .error (LONG, b.length) else if m < 64 then .ok (n + m, r) else readRun d k most (n + m) r := by
  rw [readRun_step, h]
  show (if most < n + (m : Int).toNat then Except.error (LONG, b.length) else if (m : Int) < 64 then .ok (n + (m : Int).toNat, r) else readRun d k most (n + (m : Int).toNat) r) = _
  have e : ((m : Int) < 64) = (m < 64) := propext (by omega)
  rw [Int.toNat_natCast]
  by_cases h1 : most < n + m
  · rw [if_pos h1, if_pos h1]
  · rw [if_neg h1, if_neg h1]
    by_cases h2 : m < 64
    · rw [if_pos h2, if_pos (by omega)]
    · rw [if_neg h2, if_neg (by omega)]
/-! ### rows by runs -/
def rowOf : List (Bool × Nat) → Row → Row
  | [], r => r
  | (c, e) :: l, r => rowOf l (r ++ List.replicate (e - r.length) c)
theorem rowOf_append : ∀ (l m : List (Bool × Nat)) (r : Row), rowOf (l ++ m) r = rowOf m (rowOf l r)
  | [], _, _ => rfl
  | (c, e) :: l, m, r => rowOf_append l m _
theorem rowOf_snoc (l : List (Bool × Nat)) (c : Bool) (e : Nat) (r : Row) : rowOf (l ++ [(c, e)]) r = rowOf l r ++ List.replicate (e - (rowOf l r).length) c := rowOf_append _ _ _
/-- one run more -/
theorem chg_run (r : Row) (e : Nat) (c : Bool) : chg (r ++ List.replicate (e - r.length) c) = (if r.length < e ∧ c ≠ lastC false r then chg r ++ [r.length] else chg r) ∧
    lastC false (r ++ List.replicate (e - r.length) c) = (if r.length < e ∧ c ≠ lastC false r then c else lastC false r) := by
  by_cases h : r.length < e
  · have hn : 0 < e - r.length := by omega
    unfold chg
    rw [chgF_append, lastC_append, Nat.zero_add, lastC_replicate _ _ _ hn, chgF_replicate _ _ _ _ hn]
    by_cases hc : c = lastC false r
    · rw [if_pos hc, if_neg (fun z => z.2 hc), if_neg (fun z => z.2 hc), List.append_nil]
      exact ⟨rfl, hc⟩
    · rw [if_neg hc, if_pos ⟨h, hc⟩, if_pos ⟨h, hc⟩]
      exact ⟨rfl, rfl⟩
  · have e0 : e - r.length = 0 := by omega
    rw [e0]
    show chg (r ++ []) = _ ∧ lastC false (r ++ []) = _
    rw [List.append_nil, if_neg (fun z => h z.1), if_neg (fun z => h z.1)]
    exact ⟨rfl, rfl⟩
theorem run_len (r : Row) (e : Nat) (c : Bool) : (r ++ List.replicate (e - r.length) c).length = max r.length e := by
  rw [List.length_append, List.length_replicate]
  omega
/-! ### a row alone -/
theorem readAlone_done {w k : Nat} {d : Bool} {r : Row} {b : Bits} (h : r.length = w) (hw : 0 < w) : readAlone w (k + 1) d r b = .ok (r, b) := by
  unfold readAlone
  have : r ≠ [] := fun z => by subst z; simp at h; omega
  rw [if_pos ⟨h, this⟩]
theorem readAlone_step {w k : Nat} {d : Bool} {r : Row} {b : Bits} (h : r.length < w) : readAlone w (k + 1) d r b = match readRun d (w + 2) (w - r.length) 0 b with
    | .error e => .error e
    | .ok (n, t) => readAlone w k (!d) (r ++ List.replicate n d) t := by
  conv => lhs; unfold readAlone
  rw [if_neg (fun z => by omega)]
  cases readRun d (w + 2) (w - r.length) 0 b <;> rfl
/-! ### a row by the one above -/
theorem code_ways (b : Bits) : code ways b = codeB wayL b := code_lb _ _
theorem readBeside_done {w k : Nat} {ab : Row} {a : Int} {d : Bool} {r : Row} {b : Bits} (h : (w : Int) ≤ a) : readBeside w ab (k + 1) a d r b = .ok (r, b) := by
  unfold readBeside
  rw [if_pos h]
theorem readBeside_err {w k : Nat} {ab : Row} {a : Int} {d : Bool} {r : Row} {b : Bits} {e : Nat × Nat} (h : ¬ (w : Int) ≤ a) (hc : codeB wayL b = .error e) : readBeside w ab (k + 1) a d r b = .error e := by
  unfold readBeside
  rw [if_neg h, code_ways, hc]
theorem readBeside_pass {w k : Nat} {ab : Row} {a : Int} {d : Bool} {r : Row} {b t : Bits} {b1 b2 : Nat} (h : ¬ (w : Int) ≤ a) (hc : codeB wayL b = .ok (10, t)) (h1 : change ab a (!d) = b1) (h2 : other ab (b1 : Nat) (!d) = b2) :
    readBeside w ab (k + 1) a d r b = if w ≤ b2 then .error (LONG, b.length) else readBeside w ab k b2 d (r ++ List.replicate (b2 - r.length) d) t := by
  conv => lhs; unfold readBeside
  rw [if_neg h, code_ways, hc]
  subst h1
  subst h2
  rfl
theorem readBeside_across {w k : Nat} {ab : Row} {a : Int} {d : Bool} {r : Row} {b t : Bits} (h : ¬ (w : Int) ≤ a) (hc : codeB wayL b = .ok (11, t)) :
    readBeside w ab (k + 1) a d r b = match readRun d (w + 2) (w - r.length) 0 t with
        | .error e => .error e
        | .ok (n, t) => match readRun (!d) (w + 2) (w - r.length - n) 0 t with
          | .error e => .error e
          | .ok (m, t) => if n + m = 0 then .error (LONG, b.length) else readBeside w ab k (r.length + n + m) d (r ++ (List.replicate n d ++ List.replicate m (!d))) t := by
  conv => lhs; unfold readBeside
  rw [if_neg h, code_ways, hc]
  rfl
theorem readBeside_straight {w k : Nat} {ab : Row} {a : Int} {d : Bool} {r : Row} {b t : Bits} {z : Int} {b1 : Nat} (h : ¬ (w : Int) ≤ a) (hc : codeB wayL b = .ok (z, t)) (hz : z < 10) (h1 : change ab a (!d) = b1) :
    readBeside w ab (k + 1) a d r b = if (b1 : Int) + z < 0 ∨ (0 ≤ a ∧ (b1 : Int) + z ≤ a) ∨ (w : Int) < (b1 : Int) + z then .error (LONG, b.length) else
      readBeside w ab k ((b1 : Int) + z) (!d) (r ++ List.replicate (((b1 : Int) + z).toNat - r.length) d) t := by
  conv => lhs; unfold readBeside
  rw [if_neg h, code_ways, hc]
  subst h1
  show (if z = 10 then _ else if z = 11 then _ else _) = _
  rw [if_neg (by omega), if_neg (by omega)]
theorem way_cases {z : Int} {c : Bits} (h : (z, c) ∈ wayL) : z = 10 ∨ z = 11 ∨ (-3 ≤ z ∧ z ≤ 3) := by
  have : (wayL.all fun x => decide (x.1 = 10 ∨ x.1 = 11 ∨ (-3 ≤ x.1 ∧ x.1 ≤ 3))) = true := by decide +kernel
  simpa using List.all_eq_true.mp this _ h
end Fax
set_option Elab.async false
set_option linter.all false
set_option maxRecDepth 100000
set_option maxHeartbeats 4000000
namespace Fax
open Ql31
/-! ### a row's bytes by its points -/
def img (n : Nat) (P : Nat → Bool) : List Nat := (List.range n).map fun q => val ((List.range 8).map fun j => P (8 * q + j))
theorem img_len (n : Nat) (P : Nat → Bool) : (img n P).length = n := by simp [img]
theorem img_congr {n : Nat} {P P' : Nat → Bool} (h : ∀ x, x < 8 * n → P x = P' x) : img n P = img n P' := by
  unfold img
  refine List.map_congr_left fun q hq => ?_
  rw [List.mem_range] at hq
  congr 1
  refine List.map_congr_left fun j hj => ?_
  rw [List.mem_range] at hj
  exact h _ (by omega)
theorem bytesOf_fuel : ∀ (k : Nat) (b : Bits), b.length ≤ 8 * k → bytesOf (k + 1) b = bytesOf k b
  | 0, b, h => by
    have : b = [] := List.length_eq_zero_iff.mp (by omega)
    subst this
    rfl
  | k + 1, [], _ => rfl
  | k + 1, x :: b, h => by
    show _ :: bytesOf (k + 1) ((x :: b).drop 8) = _ :: bytesOf k ((x :: b).drop 8)
    rw [bytesOf_fuel k ((x :: b).drop 8) (by rw [List.length_drop]; omega)]
theorem padded_getD (r : Row) (x : Nat) : (padded r).getD x false = r.getD x false := by
  unfold padded
  rw [List.getD_eq_getElem?_getD, List.getD_eq_getElem?_getD]
  by_cases h : x < r.length
  · rw [List.getElem?_append_left h]
  · rw [List.getElem?_append_right (by omega), List.getElem?_eq_none (by omega : r.length ≤ x), List.getElem?_replicate]
    split <;> rfl
theorem slice8 (b : Bits) (a : Nat) (h : a + 8 ≤ b.length) : (b.drop a).take 8 = (List.range 8).map fun j => b.getD (a + j) false := by
  apply List.ext_getElem
  · simp
    omega
  · intro i h1 h2
    rw [List.getElem_take, List.getElem_drop, List.getElem_map, List.getElem_range, List.getD_eq_getElem?_getD, List.getElem?_eq_getElem]
    rfl
theorem img_row (r : Row) : bytesN (padded r) = img (stride r.length) fun x => r.getD x false := by
  unfold bytesN img
  rw [padded_len]
  have e : 8 * ((r.length + 7) / 8) / 8 = stride r.length := by
    unfold stride
    omega
  rw [e]
  refine List.map_congr_left fun q hq => ?_
  rw [List.mem_range] at hq
  rw [slice8 _ _ (by rw [padded_len]; unfold stride at hq; omega)]
  congr 1
  refine List.map_congr_left fun j _ => ?_
  exact padded_getD _ _
theorem rowBytes_is (r : Row) : Ql31Neutral.byteInts (rowBytes r) = (img (stride r.length) fun x => r.getD x false).map (fun (n : Nat) => (n : Int)) := by
  unfold rowBytes
  rw [← bytesOf_fuel _ _ (by unfold stride; omega), byteInts_is _ _ (by unfold stride; omega), img_row]
theorem val_or8 : ∀ b0 b1 b2 b3 b4 b5 b6 b7 : Bool, ∀ j : Fin 8, val [b0 || decide (j.val = 0), b1 || decide (j.val = 1), b2 || decide (j.val = 2), b3 || decide (j.val = 3), b4 || decide (j.val = 4), b5 || decide (j.val = 5), b6 || decide (j.val = 6), b7 || decide (j.val = 7)] = val [b0, b1, b2, b3, b4, b5, b6, b7] ||| (128 >>> j.val) := by decide +kernel
theorem img_get {n q : Nat} {P : Nat → Bool} (h : q < n) : (img n P)[q]? = some (val ((List.range 8).map fun j => P (8 * q + j))) := by
  unfold img
  rw [List.getElem?_map, List.getElem?_range h]
  rfl
theorem img_set {n : Nat} {P P' : Nat → Bool} {q : Nat} (hq : q < n) (h : ∀ x, x / 8 ≠ q → P' x = P x) : (img n P).set q (val ((List.range 8).map fun j => P' (8 * q + j))) = img n P' := by
  apply List.ext_getElem?
  intro i
  by_cases hi : i < n
  · rw [img_get hi]
    by_cases e : q = i
    · subst e
      rw [List.getElem?_set_self (by rw [img_len]; exact hi)]
    · rw [List.getElem?_set_ne e, img_get hi]
      congr 2
      refine List.map_congr_left fun j hj => ?_
      rw [List.mem_range] at hj
      exact (h _ (by omega)).symm
  · rw [List.getElem?_eq_none (by rw [List.length_set, img_len]; omega), List.getElem?_eq_none (by rw [img_len]; omega)]
theorem img_point {n : Nat} (P : Nat → Bool) {p : Nat} (hp : p / 8 < n) : (img n P).set (p / 8) (val ((List.range 8).map fun j => P (8 * (p / 8) + j)) ||| (128 >>> (p % 8))) = img n fun x => P x || decide (x = p) := by
  rw [← img_set (P := P) (P' := fun x => P x || decide (x = p)) hp fun x hx => by
    have : ¬ x = p := fun z => hx (by rw [z])
    simp [this]]
  congr 1
  have := val_or8 (P (8 * (p / 8) + 0)) (P (8 * (p / 8) + 1)) (P (8 * (p / 8) + 2)) (P (8 * (p / 8) + 3)) (P (8 * (p / 8) + 4)) (P (8 * (p / 8) + 5)) (P (8 * (p / 8) + 6)) (P (8 * (p / 8) + 7)) ⟨p % 8, by omega⟩
  have e : ∀ j, j < 8 → decide (8 * (p / 8) + j = p) = decide (p % 8 = j) := fun j hj => decide_eq_decide.mpr (by omega)
  show val [P (8 * (p / 8) + 0), P (8 * (p / 8) + 1), P (8 * (p / 8) + 2), P (8 * (p / 8) + 3), P (8 * (p / 8) + 4), P (8 * (p / 8) + 5), P (8 * (p / 8) + 6), P (8 * (p / 8) + 7)] ||| _ =
    val [P (8 * (p / 8) + 0) || decide (8 * (p / 8) + 0 = p), P (8 * (p / 8) + 1) || decide (8 * (p / 8) + 1 = p), P (8 * (p / 8) + 2) || decide (8 * (p / 8) + 2 = p), P (8 * (p / 8) + 3) || decide (8 * (p / 8) + 3 = p), P (8 * (p / 8) + 4) || decide (8 * (p / 8) + 4 = p), P (8 * (p / 8) + 5) || decide (8 * (p / 8) + 5 = p), P (8 * (p / 8) + 6) || decide (8 * (p / 8) + 6 = p), P (8 * (p / 8) + 7) || decide (8 * (p / 8) + 7 = p)]
  rw [e 0 (by omega), e 1 (by omega), e 2 (by omega), e 3 (by omega), e 4 (by omega), e 5 (by omega), e 6 (by omega), e 7 (by omega)]
  exact this.symm
theorem img_byte {n : Nat} (P : Nat → Bool) {p : Nat} (hp : p / 8 < n) (h8 : p % 8 = 0) : (img n P).set (p / 8) 255 = img n fun x => P x || (decide (p ≤ x) && decide (x < p + 8)) := by
  have e : val ((List.range 8).map fun j => P (8 * (p / 8) + j) || (decide (p ≤ 8 * (p / 8) + j) && decide (8 * (p / 8) + j < p + 8))) = 255 := by
    have : (List.range 8).map (fun j => P (8 * (p / 8) + j) || (decide (p ≤ 8 * (p / 8) + j) && decide (8 * (p / 8) + j < p + 8))) = List.replicate 8 true := by
      show [_, _, _, _, _, _, _, _] = [true, true, true, true, true, true, true, true]
      have z : ∀ j, j < 8 → (P (8 * (p / 8) + j) || (decide (p ≤ 8 * (p / 8) + j) && decide (8 * (p / 8) + j < p + 8))) = true := fun j hj => by
        rw [decide_eq_true (by omega : p ≤ 8 * (p / 8) + j), decide_eq_true (by omega : 8 * (p / 8) + j < p + 8)]
        simp
      dsimp only
      rw [z 0 (by omega), z 1 (by omega), z 2 (by omega), z 3 (by omega), z 4 (by omega), z 5 (by omega), z 6 (by omega), z 7 (by omega)]
    rw [this]
    decide
  rw [← img_set (P := P) (P' := fun x => P x || (decide (p ≤ x) && decide (x < p + 8))) hp fun x hx => by
    have : ¬ (p ≤ x ∧ x < p + 8) := fun z => hx (by omega)
    have t : (decide (p ≤ x) && decide (x < p + 8)) = false := by simpa using this
    show (P x || (decide (p ≤ x) && decide (x < p + 8))) = P x
    rw [t, Bool.or_false], e]
/-! ### a row's points by its changes -/
def upTo (r : Row) (k : Nat) (x : Nat) : Bool := r.getD x false && decide (x < (chg r).getD (2 * k) r.length)
theorem getD_spot (r : Row) (x j : Nat) (hx : x < r.length) (h : Spot (chg r) x j) : r.getD x false = decide (j % 2 = 1) := by
  have := at_spot r (x : Int) j (by omega) (by omega) h
  unfold at_ at this
  rw [if_neg (by omega)] at this
  exact this
theorem upTo_start (r : Row) (x : Nat) : upTo r 0 x = false := by
  unfold upTo
  by_cases h : x < (chg r).getD (2 * 0) r.length
  · have hx : x < r.length := Nat.lt_of_lt_of_le h (chg_getD_le r _)
    have : Spot (chg r) x 0 := ⟨Nat.zero_le _, fun i hi h0 => absurd h0 (Nat.not_lt_zero _), fun i hi _ => by
      have e : (chg r).getD (2 * 0) r.length = (chg r)[0]'(by omega) := getD_at (by omega)
      rw [e] at h
      have h2 : (chg r)[0]'(by omega) ≤ (chg r)[i] := by
        rcases Nat.eq_zero_or_pos i with z | z
        · subst z
          exact Nat.le_refl _
        · exact Nat.le_of_lt (sorted_lt (chg_sorted r) hi z)
      omega⟩
    rw [getD_spot r x 0 hx this]
    rfl
  · rw [decide_eq_false h, Bool.and_false]
theorem upTo_end (r : Row) (k : Nat) (h : (chg r).length ≤ 2 * k) (x : Nat) : upTo r k x = r.getD x false := by
  unfold upTo
  rw [getD_out h]
  by_cases hx : x < r.length
  · rw [decide_eq_true hx, Bool.and_true]
  · rw [List.getD_eq_getElem?_getD, List.getElem?_eq_none (by omega : r.length ≤ x)]
    rfl
theorem spot_mid {cs : List Nat} (hs : cs.Pairwise (· < ·)) {n x k : Nat} (hk : k < cs.length) (h1 : cs[k] ≤ x) (h2 : x < cs.getD (k + 1) n) (hn : x < n) : Spot cs x (k + 1) :=
  ⟨hk, fun i hi hik => by
    rcases Nat.lt_or_eq_of_le (Nat.le_of_lt_succ hik) with z | z
    · have := sorted_lt hs hk z
      omega
    · subst z
      omega, fun i hi hik => by
    have hk1 : k + 1 < cs.length := by omega
    rw [getD_at hk1] at h2
    rcases Nat.lt_or_eq_of_le hik with z | z
    · have := sorted_lt hs hi z
      omega
    · subst z
      omega⟩
theorem getD_step {cs : List Nat} (hs : cs.Pairwise (· < ·)) {n : Nat} (hn : ∀ y ∈ cs, y < n) (k : Nat) : cs.getD k n ≤ cs.getD (k + 1) n ∧ (k < cs.length → cs.getD k n < cs.getD (k + 1) n) ∧ cs.getD k n ≤ n := by
  by_cases h : k < cs.length
  · rw [getD_at h]
    have h0 := hn _ (List.getElem_mem h)
    by_cases h1 : k + 1 < cs.length
    · rw [getD_at h1]
      have := sorted_lt hs h1 (Nat.lt_succ_self k)
      exact ⟨by omega, fun _ => this, by omega⟩
    · rw [getD_out (by omega : cs.length ≤ k + 1)]
      exact ⟨by omega, fun _ => h0, by omega⟩
  · rw [getD_out (by omega : cs.length ≤ k), getD_out (by omega : cs.length ≤ k + 1)]
    exact ⟨Nat.le_refl _, fun z => absurd z h, Nat.le_refl _⟩
theorem upTo_step (r : Row) (k : Nat) (hk : 2 * k < (chg r).length) (x : Nat) : upTo r (k + 1) x = (upTo r k x || (decide ((chg r)[2 * k] ≤ x) && decide (x < (chg r).getD (2 * k + 1) r.length))) := by
  have hs := chg_sorted r
  have hn := chg_lt r
  obtain ⟨a1, a2, a3⟩ := getD_step hs hn (2 * k)
  obtain ⟨b1, b2, b3⟩ := getD_step hs hn (2 * k + 1)
  obtain ⟨_, _, c3⟩ := getD_step hs hn (2 * k + 1 + 1)
  have e0 : (chg r).getD (2 * k) r.length = (chg r)[2 * k] := getD_at hk
  have e2 : 2 * (k + 1) = 2 * k + 1 + 1 := by omega
  unfold upTo
  rw [e2]
  by_cases h0 : x < (chg r)[2 * k]
  · rw [decide_eq_true (by omega : x < (chg r).getD (2 * k + 1 + 1) r.length), decide_eq_true (by omega : x < (chg r).getD (2 * k) r.length), decide_eq_false (by omega : ¬ (chg r)[2 * k] ≤ x)]
    simp
  · rw [decide_eq_true (by omega : (chg r)[2 * k] ≤ x), decide_eq_false (by omega : ¬ x < (chg r).getD (2 * k) r.length)]
    by_cases h1 : x < (chg r).getD (2 * k + 1) r.length
    · rw [decide_eq_true (by omega : x < (chg r).getD (2 * k + 1 + 1) r.length), decide_eq_true h1, getD_spot r x (2 * k + 1) (by omega) (spot_mid hs hk (by omega) h1 (by omega))]
      rw [decide_eq_true (by omega : (2 * k + 1) % 2 = 1)]
      simp
    · rw [decide_eq_false h1]
      by_cases h2 : x < (chg r).getD (2 * k + 1 + 1) r.length
      · have hk1 : 2 * k + 1 < (chg r).length := getD_mem (n := r.length) (by omega)
        rw [getD_at hk1] at h1
        rw [getD_spot r x (2 * k + 1 + 1) (by omega) (spot_mid hs hk1 (by omega) h2 (by omega)), decide_eq_false (by omega : ¬ (2 * k + 1 + 1) % 2 = 1)]
        simp
      · rw [decide_eq_false h2]
        simp
/-! ### pages read, without the look behind the end -/
def fiveE (tagged : Bool) : Nat → Bits → R Unit
  | 0, b => .ok ((), b)
  | k + 1, b => if EOL.isPrefixOf b = false then .error (if b.isPrefixOf EOL = true then ENDED else LINE, b.length) else
      let r := b.drop 12
      if tagged = false then fiveE tagged k r else match r with
        | true :: t => fiveE tagged k t
        | false :: _ => .error (LINE, r.length)
        | [] => .error (ENDED, 0)
theorem five_is (tagged : Bool) : ∀ (k : Nat) (b : Bits), five tagged k b = match fiveE tagged k b with
    | .error e => .error e
    | .ok (_, u) => finished u
  | 0, b => rfl
  | k + 1, b => by
    unfold five fiveE
    by_cases h : EOL.isPrefixOf b = false
    · rw [if_pos h, if_pos h]
    · rw [if_neg h, if_neg h]
      by_cases ht : tagged = false
      · show (if tagged = false then _ else _) = (match (if tagged = false then _ else _ : R Unit) with
          | .error e => .error e
          | .ok (_, u) => finished u : R Unit)
        rw [if_pos ht, if_pos ht]
        exact five_is tagged k _
      · show (if tagged = false then _ else _) = (match (if tagged = false then _ else _ : R Unit) with
          | .error e => .error e
          | .ok (_, u) => finished u : R Unit)
        rw [if_neg ht, if_neg ht]
        cases b.drop 12 with
        | nil => rfl
        | cons x t => cases x with
          | true => exact five_is tagged k t
          | false => rfl
/-- the tag behind an end of line -/
def tagE (two : Bool) (t : Bits) : R Bool := if two = false then .ok (true, t) else match t with
        | x :: r => .ok (x, r)
        | [] => .error (ENDED, 0)
def linesE (width most : Nat) (two : Bool) : Nat → List Row → Bits → R (List Row)
  | 0, _, b => .error (MANY, b.length)
  | k + 1, l, b => match wantEnd b with
    | .error e => .error e
    | .ok (_, t) => match tagE two t with
      | .error e => .error e
      | .ok (x, r) =>
        if EOL.isPrefixOf r = true then (if x = false then .error (LINE, r.length + 1) else match fiveE two 5 r with
          | .error e => .error e
          | .ok (_, u) => .ok (l, u))
        else if most ≤ l.length then .error (MANY, r.length)
        else match (if x = true then readAlone width (width + 4) false [] r else if l = [] then .error (LINE, r.length + 1) else readBeside width (l.getLast?.getD (List.replicate width false)) (2 * width + 4) (-1) false [] r) with
          | .error e => .error e
          | .ok (row, u) => linesE width most two k (l ++ [row]) u
/-- the look behind the end -/
def checked (x : R (List Row)) : R (List Row) := match x with
  | .error e => .error e
  | .ok (l, u) => match finished u with
    | .error e => .error e
    | .ok (_, v) => .ok (l, v)
theorem lines_is (width most : Nat) (two : Bool) : ∀ (k : Nat) (l : List Row) (b : Bits), readLines width most two k l b = checked (linesE width most two k l b)
  | 0, l, b => rfl
  | k + 1, l, b => by
    unfold readLines linesE
    cases wantEnd b with
    | error e => rfl
    | ok x =>
      obtain ⟨⟨⟩, t⟩ := x
      show (match tagE two t with
        | .error e => .error e
        | .ok (x, r) => _ : R (List Row)) = checked (match tagE two t with
        | .error e => .error e
        | .ok (x, r) => _)
      cases tagE two t with
      | error e => rfl
      | ok y =>
        obtain ⟨x, r⟩ := y
        dsimp only
        by_cases h1 : EOL.isPrefixOf r = true
        · rw [if_pos h1, if_pos h1]
          by_cases h2 : x = false
          · rw [if_pos h2, if_pos h2]
            rfl
          · rw [if_neg h2, if_neg h2, five_is]
            cases fiveE two 5 r with
            | error e => rfl
            | ok z => rfl
        · rw [if_neg h1, if_neg h1]
          by_cases h2 : most ≤ l.length
          · rw [if_pos h2, if_pos h2]
            rfl
          · rw [if_neg h2, if_neg h2]
            cases (if x = true then readAlone width (width + 4) false [] r else if l = [] then .error (LINE, r.length + 1) else readBeside width (l.getLast?.getD (List.replicate width false)) (2 * width + 4) (-1) false [] r) with
            | error e => rfl
            | ok z => exact lines_is width most two k _ _
def plainE (width most : Nat) : Nat → List Row → Bits → R (List Row)
  | 0, _, b => .error (MANY, b.length)
  | k + 1, l, b =>
    if (EOL ++ EOL).isPrefixOf b = true then .ok (l, b.drop 24)
    else if most ≤ l.length then .error (MANY, b.length)
    else match readBeside width (l.getLast?.getD (List.replicate width false)) (2 * width + 4) (-1) false [] b with
      | .error e => .error e
      | .ok (row, u) => plainE width most k (l ++ [row]) u
theorem plain_is (width most : Nat) : ∀ (k : Nat) (l : List Row) (b : Bits), readPlain width most k l b = checked (plainE width most k l b)
  | 0, l, b => rfl
  | k + 1, l, b => by
    unfold readPlain plainE
    by_cases h1 : (EOL ++ EOL).isPrefixOf b = true
    · rw [if_pos h1, if_pos h1]
      rfl
    · rw [if_neg h1, if_neg h1]
      by_cases h2 : most ≤ l.length
      · rw [if_pos h2, if_pos h2]
        rfl
      · rw [if_neg h2, if_neg h2]
        cases readBeside width (l.getLast?.getD (List.replicate width false)) (2 * width + 4) (-1) false [] b with
        | error e => rfl
        | ok z => exact plain_is width most k _ _
def rowsE (kind width most : Nat) (b : Bits) : R (List Row) := if kind = 2 then plainE width most (most + 2) [] b else linesE width most (kind == 1) (most + 2) [] b
theorem read_is (kind width most : Nat) (l : List UInt8) : Ql31.read kind width most l = match checked (rowsE kind width most (bitsFrom l)) with
  | .ok (x, _) => .ok x
  | .error e => .error (e.1, (bitsFrom l).length - e.2) := by
  unfold Ql31.read rowsE
  have e : (if kind = 2 then readPlain width most (most + 2) [] (bitsFrom l) else readLines width most (kind == 1) (most + 2) [] (bitsFrom l)) = checked (if kind = 2 then plainE width most (most + 2) [] (bitsFrom l) else linesE width most (kind == 1) (most + 2) [] (bitsFrom l)) := by
    by_cases h : kind = 2
    · rw [if_pos h, if_pos h, plain_is]
    · rw [if_neg h, if_neg h, lines_is]
  dsimp only
  rw [e]
  cases checked (if kind = 2 then plainE width most (most + 2) [] (bitsFrom l) else linesE width most (kind == 1) (most + 2) [] (bitsFrom l)) <;> rfl
end Fax
set_option Elab.async false
set_option linter.all false
set_option maxRecDepth 100000
set_option maxHeartbeats 4000000
namespace Fax
open Ql31
theorem tw_lt : ∀ (b : Bits) (v : Nat), v < (b.takeWhile fun x => x == false).length → b.getD v true = false
  | [], v, h => absurd h (Nat.not_lt_zero _)
  | true :: b, v, h => absurd h (Nat.not_lt_zero _)
  | false :: b, 0, h => rfl
  | false :: b, v + 1, h => tw_lt b v (Nat.lt_of_succ_lt_succ h)
theorem tw_at : ∀ (b : Bits), (b.takeWhile fun x => x == false).length < b.length → b.getD (b.takeWhile fun x => x == false).length false = true
  | [], h => absurd h (Nat.not_lt_zero _)
  | true :: b, h => rfl
  | false :: b, h => tw_at b (Nat.lt_of_succ_lt_succ h)
theorem tw_le : ∀ (b : Bits), (b.takeWhile fun x => x == false).length ≤ b.length
  | [] => Nat.le_refl _
  | true :: b => Nat.zero_le _
  | false :: b => Nat.succ_le_succ (tw_le b)
theorem tw_all : ∀ (b : Bits), ((b.all fun x => x == false) = true) ↔ (b.takeWhile fun x => x == false).length = b.length
  | [] => ⟨fun _ => rfl, fun _ => rfl⟩
  | true :: b => ⟨fun h => by simp at h, fun h => by cases h⟩
  | false :: b => by
    have := tw_all b
    show ((b.all fun x => x == false) = true) ↔ (b.takeWhile fun x => x == false).length + 1 = b.length + 1
    rw [this]
    omega
theorem want_all {b : Bits} (h : (b.takeWhile fun x => x == false).length = b.length) : wantEnd b = .error (ENDED, b.length) := by
  have e : endOfLine b = none := by
    unfold endOfLine
    dsimp only
    rw [if_neg (by omega)]
  unfold wantEnd
  rw [e]
  dsimp only
  rw [if_pos ((tw_all b).mpr h)]
theorem want_few {b : Bits} (h : (b.takeWhile fun x => x == false).length < b.length) (h2 : (b.takeWhile fun x => x == false).length < 11) : wantEnd b = .error (LINE, b.length) := by
  have e : endOfLine b = none := by
    unfold endOfLine
    dsimp only
    rw [if_neg (by omega)]
  unfold wantEnd
  rw [e]
  dsimp only
  rw [if_neg (fun z => by have := (tw_all b).mp z; omega)]
theorem want_ok {b : Bits} (h : (b.takeWhile fun x => x == false).length < b.length) (h2 : 11 ≤ (b.takeWhile fun x => x == false).length) : wantEnd b = .ok ((), b.drop ((b.takeWhile fun x => x == false).length + 1)) := by
  have e : endOfLine b = some (b.drop ((b.takeWhile fun x => x == false).length + 1)) := by
    unfold endOfLine
    dsimp only
    rw [if_pos ⟨h2, h⟩]
  unfold wantEnd
  rw [e]
/-- a whole end of line right here -/
def wholeE (b : Bits) : R Unit := if EOL.isPrefixOf b = false then .error (if b.isPrefixOf EOL = true then ENDED else LINE, b.length) else .ok ((), b.drop 12)
def oneE : Bits → R Bool
  | [] => .error (ENDED, 0)
  | x :: r => .ok (x, r)
def dueE : Bits → R Unit
  | true :: t => .ok ((), t)
  | false :: t => .error (LINE, t.length + 1)
  | [] => .error (ENDED, 0)
theorem five_step (tagged : Bool) (k : Nat) (b : Bits) : fiveE tagged (k + 1) b = match wholeE b with
    | .error e => .error e
    | .ok (_, r) => if tagged = false then fiveE tagged k r else match dueE r with
      | .error e => .error e
      | .ok (_, t) => fiveE tagged k t := by
  conv => lhs; unfold fiveE
  unfold wholeE
  by_cases h : EOL.isPrefixOf b = false
  · rw [if_pos h, if_pos h]
  · rw [if_neg h, if_neg h]
    dsimp only
    by_cases ht : tagged = false
    · rw [if_pos ht, if_pos ht]
    · rw [if_neg ht, if_neg ht]
      cases b.drop 12 with
      | nil => rfl
      | cons x t => cases x <;> rfl
theorem isPre (a b : Bits) : a.isPrefixOf b = true ↔ b.take a.length = a := by
  rw [List.isPrefixOf_iff_prefix, List.prefix_iff_eq_take]
  exact ⟨fun h => h.symm, fun h => h.symm⟩
/-- the end is cut short -/
theorem cut_short (b : Bits) (h : EOL.isPrefixOf b = false) : (b.isPrefixOf EOL = true) ↔ ((b.take 12).length < 12 ∧ EOL.take (b.take 12).length = b.take 12) := by
  have h12 : EOL.length = 12 := EOL_len
  rw [isPre]
  have hne : ¬ b.take 12 = EOL := fun z => by
    have := (isPre EOL b).mpr (by rw [h12]; exact z)
    rw [h] at this
    cases this
  constructor
  · intro z
    have hl : b.length ≤ 12 := by
      have := congrArg List.length z
      rw [List.length_take] at this
      omega
    have e : b.take 12 = b := List.take_of_length_le hl
    rw [e]
    refine ⟨?_, z⟩
    rcases Nat.lt_or_eq_of_le hl with q | q
    · exact q
    · rw [q, ← h12, List.take_length] at z
      rw [e] at hne
      exact absurd z.symm hne
  · intro ⟨z1, z2⟩
    have hl : b.length < 12 := by
      rw [List.length_take] at z1
      omega
    rw [List.take_of_length_le (by omega : b.length ≤ 12)] at z2
    exact z2
end Fax
set_option Elab.async false
set_option linter.all false
set_option maxRecDepth 100000
set_option maxHeartbeats 4000000
/-! Rules that the layer lacks, of the second claim: enumerate of a tuple, sorted of a dict of any size, a method's call within a try. -/
namespace PySem
open Sem (wp)
open AutoSeq1 (wpAny_loadPart')
set_option maxHeartbeats 4000000 in
theorem meets_enumT (l : Addr) (items : Array Value) (n : Nat) (dct : Option Addr) (sl : Array (Option Value)) :
    Meets (Builtin.«enumerate.__new__» ⟨[.type "enumerate", .ref l], []⟩) (fun _ R s => s.heap.get? l = some { cls := .type "tuple", dict := dct, data := .seq items n, slots := sl } ∧
      R (.ok (.ret (.ref (s.heap.push { cls := .type "tuple_iterator", data := .fields #[.ref l, .int 0 0] }).objs.size)))
        { s with heap := (s.heap.push { cls := .type "tuple_iterator", data := .fields #[.ref l, .int 0 0] }).push { cls := .type "enumerate", data := .fields #[.none, .bool false, .ref s.heap.objs.size, rawInt 0, .none, .none] } }) :=
  .of_wp fun prog w A R s h => by
    obtain ⟨hp, g, d, tk, os⟩ := s; obtain ⟨hl, h⟩ := h
    have hsub := sub_enumerate
    have hL : Heap.IsTuple (Shared.heap ⟨hp, g, d, tk, os⟩) l items := ⟨_, hl, rfl, n, rfl⟩
    wp_walk using wpAny_loadPart' hl
    refine wpAny_stack_any fun st => wpAny_pure ?_
    split
    · rename_i c _ _ _ _ _
      cases (c == Value.type "enumerate")
      · wp_walk using wpAny_loadPart' hl, wpAny_pyIter_tuple hL
        exact ⟨_, rfl, h⟩
      · wp_walk using wpAny_loadPart' hl, wpAny_pyIter_tuple hL
        exact ⟨_, rfl, h⟩
    · wp_walk using wpAny_loadPart' hl, wpAny_pyIter_tuple hL
      exact ⟨_, rfl, h⟩


section
variable {prog : Program} {w : World} {A : Around} {E : Value → Shared → Prop} {s : Shared}
theorem call_enumT {l : Addr} {items : Array Value} {Q : Value → Shared → Prop} (hL : s.heap.IsTuple l items)
    (h : ∀ h', IsEnum h' (s.heap.objs.size + 1) s.heap.objs.size 0 .none → h'.IsTupleIter s.heap.objs.size l 0 → h'.objs.size = s.heap.objs.size + 2 →
      (∀ b o, s.heap.get? b = some o → h'.get? b = some o) → Q (.ref (s.heap.objs.size + 1)) { s with heap := h' }) :
    wpAny (model prog w) A (call (.type "enumerate") [.ref l]) Q E s := by
  obtain ⟨⟨c, dct, dt, sl⟩, hl, hc, n, hd⟩ := hL
  replace hc : c = .type "tuple" := hc
  replace hd : dt = .seq items n := hd
  subst hc hd
  refine callType_new F.called_enumerate (by decide) (F.typeCall_enumerate_1 _) (F.newCall_enumerate_1 _) (fun obj => F.args_object_init_2 obj _) F.entry_enumerate_new
    (meets_enumT l items n dct sl) ⟨hl, ?_⟩
  have hz : (s.heap.push { cls := .type "tuple_iterator", data := .fields #[.ref l, .int 0 0] }).objs.size = s.heap.objs.size + 1 := Heap.size_push ..
  show _ ∧ _
  rw [hz]
  have he : IsEnum ((s.heap.push { cls := .type "tuple_iterator", data := .fields #[.ref l, .int 0 0] }).push
      { cls := .type "enumerate", data := .fields #[.none, .bool false, .ref s.heap.objs.size, rawInt 0, .none, .none] }) (s.heap.objs.size + 1) s.heap.objs.size 0 .none := by
    have := Heap.get?_push_size (s.heap.push { cls := .type "tuple_iterator", data := .fields #[.ref l, .int 0 0] })
      (o := { cls := .type "enumerate", data := .fields #[.none, .bool false, .ref s.heap.objs.size, rawInt 0, .none, .none] }) rfl
    rw [hz] at this; exact this
  refine ⟨⟨_, he, rfl⟩, h _ he ⟨_, Heap.get?_push_of_some _ (Heap.get?_push_size _ rfl), rfl, rfl⟩ (by rw [Heap.size_push, hz]) fun b o x => Heap.get?_push_of_some _ (Heap.get?_push_of_some _ x)⟩

end
end PySem
namespace L2
open PySem PySem.Spec PyProof.Rows
section
variable {X : Cx}
/-- sorted(d) of a dict with at most 1000 keys, all texts -/
theorem call_sortedA (hcalm : X.calm = true) : CallR X (.builtin "sorted") (fun xs H Q => ∃ (a : Addr) (kvs : List (Key × V)) (ks : List Str), xs = [.ref a] ∧ Rd H a (.dK kvs) ∧ kvs.map (·.1) = ks.map Sum.inr ∧ ks.length ≤ 1000 ∧
    ∀ ys p, ys.Perm ks → sortedS ys = true → H p = none → Q (.ref p) (upd H p (.lst (ys.map V.str)))) := by
  intro pins s σ H xs us Q I r q
  obtain ⟨a, kvs, ks, ex, hd, hks, h64, q⟩ := q
  subst ex
  obtain ⟨u, eu, rx⟩ := vals1 r
  subst eu
  cases rx
  obtain ⟨z, lo, vs, rel, dd⟩ := dk_rd I.hok hd
  obtain ⟨ep, hat⟩ := dd.dictAt
  have hkeys : vs.map (·.1) = ks.map Sum.inr := rel.keys.symm.trans hks
  have hl : vs.length = ks.length := by
    have e := congrArg List.length hkeys
    rw [List.length_map, List.length_map] at e
    exact e
  have h16 : vs.length ≤ sizeLine := by rw [hl, sizeLine_eq]; omega
  refine Calls.call_function_entry PyProof.Rows.kind_sorted PyProof.Rows.plain_sorted PyProof.Rows.entry_sorted (PyProof.Rows.args_sorted1 _) ?_
  unfold Builtin.«sorted»
  refine wpAny_bind (m := checkCount "sorted" 1 1 _) (wpAny_pure ?_)
  refine wpAny_bind (PySem.W.kdu_collect (A := X.A.in1) (PySem.W.kdl_dict (knd := mixKind X.prog X.w) (kvs := vs) (ep := ep) lo) (I.ok.hd hcalm) hat h16 fun h' tk acc hk hacc => ?_)
  have hal : acc.toList.length = ks.length := by rw [Array.length_toList, hacc.1, hl]
  have hS : StrsAre acc.toList ks := strs_at hal fun j v e => by
    obtain ⟨k, x, e1, e2⟩ := hacc.2 j v (by rw [← Array.getElem?_toList]; exact e)
    have e3 : (vs.map (·.1))[j]? = some k := by rw [List.getElem?_map, e1]; all_goals rfl
    rw [hkeys, List.getElem?_map] at e3
    cases e4 : ks[j]? with
    | none => rw [e4] at e3; cases e3
    | some y =>
      rw [e4] at e3
      have e5 : Sum.inr y = k := Option.some.inj e3
      subst e5
      obtain ⟨t, ev⟩ := Value.isStrOf_shape (x := y) (v := v) e2
      exact ⟨y, t, rfl, ev⟩
  have I1 : Inv X pins σ H { s with heap := h', toks := tk } := I.kept hk
  refine wpAny_bind (wpAny_newList ?_ (by rw [hal, sizeLine_eq]; omega))
  have hoL : (h'.push (seqObj "list" acc.toList.toArray 0)).get? h'.objs.size = some (seqObj "list" acc.toList.toArray 0) := Heap.get?_push_size _ rfl
  show wpAny _ _ _ _ _ { s with heap := h'.push (seqObj "list" acc.toList.toArray 0), toks := tk }
  refine wpAny_bind (wpAny_holding (wpAny_call_entry PyProof.Rows.slot_list_sort ⟨_, hoL, rfl⟩ PyProof.Rows.entry_list_sort
    (list_sort_treeKAny strKind_oneLt (s := { s with heap := h'.push (seqObj "list" acc.toList.toArray 0), toks := tk }) hoL hS.keysOf (fun v₁ v₂ rest e => keyKind_strs (by rw [← e]; exact hS)) (by rw [hal, sizeLine_eq]; omega) fun st' hp hs => ⟨_, rfl, ?_⟩)
    (PyProof.Rows.args_list_sort _)))
  obtain ⟨ys, g1, g2, g3⟩ := sorted_out_str hS hp hs
  obtain ⟨e', he'⟩ := PyProof.Rows.sortedHeap_at (vs := acc.toList) (out := (arrOf st').map (·.2)) hoL
  have hlen : (ys.map V.str).length ≤ sizeLine := by
    rw [List.length_map, g2.length_eq]
    rw [sizeLine_eq]
    omega
  refine wpAny_pure ⟨_, rfl, .ref h'.objs.size, upd H h'.objs.size (.lst (ys.map V.str)), I1.laid (t' := tk) (fun b u e => ?_) (Nat.le_refl _)
    (show ObjOk X.prog X.w _ _ _ (.lst (ys.map V.str)) from ⟨hlen, ((arrOf st').map (·.2)).toList, e', vals_of_strs g1, by rw [Array.toArray_toList]; exact he'⟩), rfl, q ys _ g2 g3 (I1.hok.fresh (Nat.le_refl _))⟩
  have hb : b < h'.objs.size := Heap.lt_size e
  rw [PyProof.Rows.sortedHeap_old (Nat.ne_of_lt hb) (by rw [size_push']; exact Nat.lt_succ_of_lt hb)]
  exact Heap.get?_push_of_some _ e
end
/-! ### enumerate(tuple) -/
def Itte (K : PySem.W.Frag) (a : Addr) : It :=
  ⟨fun i H => ∃ (xs : List V) (x : V), SqT K H a xs ∧ xs[i]? = some x, fun i H v H' => ∃ T x, v = .ref T ∧ H T = none ∧ H' = upd H T (.tup [.int (i : Nat), x]) ∧ ∀ xs, SqT K H a xs → xs[i]? = some x, fun i H => ∃ xs : List V, SqT K H a xs ∧ xs.length ≤ i⟩
theorem turn_enumT {P : Program} {w : World} {K : PySem.W.Frag} {elts : List Expr} {kk : Nat} {tpos : Pos} (a e it : Addr) :
    Turn P w K (.Tuple elts kk tpos) (Itte K a) [e, it] e (fun i h => (∃ old, IsEnum h e it ((i : Nat) : Int) old) ∧ h.IsTupleIter it a i ∧ e ≠ it) where
  mem := by simp
  obj := fun i h st b hb => by
    obtain ⟨⟨old, he⟩, ⟨o, ho, hc, hd⟩, _⟩ := st
    have e' : b = e ∨ b = it := by simpa using hb
    rcases e' with z | z
    · rw [z]; exact ⟨_, he, fun v q => nomatch q⟩
    · rw [z]; exact ⟨o, ho, fun v q => by rw [hd] at q; cases q⟩
  keep := fun i h h' st k => let ⟨⟨old, he⟩, ⟨o, ho, r⟩, hne⟩ := st; ⟨⟨old, k e (by simp) _ he⟩, ⟨o, k it (by simp) o ho, r⟩, hne⟩
  item := by
    intro X hP hw hK hc i pins s σ H E I hf st hg
    subst hP hw hK
    obtain ⟨⟨old, he⟩, hit, hne⟩ := st
    obtain ⟨xs, x, hq, hx⟩ := hg
    obtain ⟨its, rv, ht, hz⟩ := I.tuple hq
    obtain ⟨u, hu, ru⟩ := rv.get hx
    have hel : e < s.heap.objs.size := Heap.lt_size he
    have hil : it < s.heap.objs.size := by obtain ⟨_, q, _⟩ := hit; exact Heap.lt_size q
    have nea : e ≠ a := fun z => by
      obtain ⟨o, ho, hcl, _⟩ := id ht
      rw [← z, he] at ho
      rw [← Option.some.inj ho] at hcl
      exact absurd (show Value.type "enumerate" = Value.type "tuple" from hcl) (by decide)
    have nia : a ≠ it := fun z => by
      obtain ⟨o, ho, hcl, _⟩ := id ht
      obtain ⟨o2, ho2, hc2, _⟩ := id hit
      rw [z, ho2] at ho
      rw [← Option.some.inj ho, hc2] at hcl
      exact absurd hcl (by decide)
    have D := Draws.tuple (prog := X.prog) (w := X.w) (A := X.A.in1) (show X.A.in1.handled = none from I.ok.hd hc) it a nia its.toArray
    have hlt : i < its.toArray.size := by
      obtain ⟨h, _⟩ := List.getElem?_eq_some_iff.mp hu
      simpa using h
    refine wpAny_pyNext_enum_itemD D he (show s.heap.IsTupleIter it a i ∧ s.heap.IsTuple a its.toArray from ⟨hit, ht⟩) hlt hne (by simp [hne, nea]) fun v h' tk hP ho hst' hT hsz hk => ?_
    have hv : v = u := by
      have hP' : its.toArray[i]? = some v := hP
      have hu' : its.toArray[i]? = some u := by simpa using hu
      rw [hP'] at hu'
      exact Option.some.inj hu'
    subst hv
    refine ⟨_, rfl, wpAny_letOwnedTupleGo_enum (s := { s with heap := h', toks := tk + 1 }) ho fun h'' he' sb => ?_⟩
    have hT2 : h''.get? s.heap.objs.size = some { cls := .type "tuple", data := .seq #[.int i tk, v] } := (sb.2 _ (Nat.ne_of_gt hel)).trans hT
    have new : ObjOk X.prog X.w (upd H s.heap.objs.size (.tup [.int (i : Nat), x])) h'' s.heap.objs.size (.tup [.int (i : Nat), x]) :=
      ⟨by show 2 ≤ sizeLine; decide, [.int i tk, v], .cons ⟨_, rfl⟩ (.cons ru .nil), ⟨_, hT2, rfl, _, rfl⟩⟩
    have I1 : Inv X pins σ (upd H s.heap.objs.size (.tup [.int (i : Nat), x])) { s with heap := h'', toks := tk + 1 } :=
      I.turnedNew (ch := [e, it]) (fun b ob hb q => (sb.2 b (fun z => hb (by simp [z]))).trans (hk b ob (fun z => hb (by simp [z])) (fun z => hb (by simp [z])) q)) hf (Nat.le_refl _) new
    have hit2 : h''.IsTupleIter it a (i + 1) := by
      obtain ⟨o, q, r⟩ := hst'.1
      exact ⟨o, (sb.2 it (Ne.symm hne)).trans q, r⟩
    refine ⟨.ref s.heap.objs.size, _, I1, rfl, ⟨_, x, rfl, I.hok.fresh (Nat.le_refl _), rfl, fun ys hy => by rw [I.tuple_inj hy hq]; exact hx⟩, ⟨⟨v, ?_⟩, hit2, hne⟩, fun b hb => ?_⟩
    · have e1 : ((i + 1 : Nat) : Int) = (i : Int) + 1 := by omega
      rw [e1]; exact he'
    · have hb' : b < s.heap.objs.size := by
        have e' : b = e ∨ b = it := by simpa using hb
        rcases e' with z | z
        · rw [z]; exact hel
        · rw [z]; exact hil
      rw [upd_ne (Nat.ne_of_lt hb')]
      exact (hf b hb).1
  done := by
    intro X hP hw hK hc i pins s σ H E I hf st hg
    subst hP hw hK
    obtain ⟨⟨old, he⟩, hit, hne⟩ := st
    obtain ⟨xs, hq, hx⟩ := hg
    obtain ⟨its, rv, ht, hz⟩ := I.tuple hq
    obtain ⟨f0, f1, f2, f3, f4, f5⟩ := hf it (by simp)
    have nia : a ≠ it := fun z => by
      obtain ⟨o, ho, hcl, _⟩ := id ht
      obtain ⟨o2, ho2, hc2, _⟩ := id hit
      rw [z, ho2] at ho
      rw [← Option.some.inj ho, hc2] at hcl
      exact absurd hcl (by decide)
    have hl := rv.length
    have hT : s.TypeIs (.ref e) "enumerate" := ⟨_, he, rfl⟩
    unfold pyNext
    refine wpAny_bind (wpAny_attempt (wpAny_callSpecial?_slot (name := Str.ofString "__next__") hT F.slot_enumerate_next
      (wpAny_call_entry F.slot_enumerate_next hT F.entry_enumerate_next ?_ (F.args_enumerate_next_1 _))))
    show wpAny _ _ (field (.ref e) 2 >>= _) _ _ _
    refine wpAny_bind (wpAny_field he rfl (x := .ref it) rfl ?_)
    refine wpAny_bind (wpAny_nextOf_tuple_end (show X.A.in1.in1.handled = none from I.ok.hd hc) hit ht (by simp; omega) fun h' x he' hx' => ?_)
    obtain ⟨o, ho, hcl⟩ := hx'
    refine wpAny_bind (wpAny_isInstance (T := "StopIteration") (b := true) ⟨o, ho, hcl⟩ isSubtype_stop ?_)
    exact wpAny_pure ⟨rfl, I.turned (t' := s.toks) (fun b o hb q => he' b o hb q) f0 f1 f3 f4 f5⟩
  self := fun A i s Q E st h => let ⟨⟨_, he⟩, _⟩ := st; wpAny_pyIter_enum he h
def iEnumT (K : PySem.W.Frag) (ta : TA) : TI := fun σ H R => ta σ H fun vs H1 => ∃ a xs, vs = [.ref a] ∧ SqT K H1 a xs ∧ R (Itte K a) H1
theorem pi_enumT {X : Cx} {e : Expr} {ta : TA} {p pos tpos : Pos} {elts : List Expr} {kk : Nat} (hg : Gl X "enumerate") (hm : X.mg "enumerate" = none) (ha : PA X [e] ta) (hs : starEach [e] X.env = [(false, eval e X.env)] := by rfl) :
    PI X (.Tuple elts kk tpos) (.Call (.Name "enumerate" p) [e] [] pos) (iEnumT X.K ta) := by
  refine ⟨fun pins s σ H R I h => ?_⟩
  refine Call_ (ld_blt I hg hm boot_enumerate (PyProof.Rows.callWith_type1 (thn (ha.run pos pins s σ H _ I h) fun us s1 ⟨vs, H1, I1, r1, q1⟩ => ?_) hs rfl))
  obtain ⟨a, xs, ex, hq, q⟩ := q1
  subst ex
  cases r1 with
  | cons r rr =>
    cases rr
    cases r
    obtain ⟨its, rv, p', hz⟩ := I1.tuple hq
    refine call_enumT p' fun h' he hit hsz hk => wpAny_pyIter_enum he ?_
    have I2 : Inv X pins σ H1 { s1 with heap := h' } := I1.kept (t' := s1.toks) hk
    refine ⟨s1.heap.objs.size + 1, [s1.heap.objs.size + 1, s1.heap.objs.size], _, _, H1, rfl, I2, turn_enumT a (s1.heap.objs.size + 1) s1.heap.objs.size, ⟨⟨.none, he⟩, hit, Nat.succ_ne_self _⟩, fun b hb => ?_, q⟩
    have e' : b = s1.heap.objs.size + 1 ∨ b = s1.heap.objs.size := by simpa using hb
    have hle : s1.heap.objs.size ≤ b := by
      rcases e' with z | z
      · rw [z]; exact Nat.le_add_right _ _
      · rw [z]; exact Nat.le_refl _
    exact I1.fpOk hle (I1.hok.fresh hle)
/-- over enumerate of a tuple -/
theorem for_enumT {K : PySem.W.Frag} {a : Addr} {xs : List V} {g : TG} {tb : TS} {D : Ends} {σ : St} {H : Hp} (Pv : Nat → St → Hp → Prop) (h0 : Pv 0 σ H) (hl : ∀ H, SqT K H a xs)
    (hs : ∀ i x T σ H, xs[i]? = some x → H T = none → Pv i σ H → g (.ref T) σ (upd H T (.tup [.int (i : Nat), x])) fun σ2 H2 => tb { D with nx := Pv (i + 1), ct := Pv (i + 1), bk := D.nx } σ2 H2) (hd : ∀ σ H, Pv xs.length σ H → D.nx σ H) :
    ∃ W : Nat → Nat → St → Hp → Prop, (∃ m, W 0 m σ H) ∧ ∀ i m σ H, W i m σ H →
      ((Itte K a).stop i H ∧ D.nx σ H) ∨ ((Itte K a).go i H ∧ ∃ N : St → Hp → Prop, (∀ σ' H', N σ' H' → ∃ m', m' < m ∧ W (i + 1) m' σ' H') ∧ ∀ x' H', (Itte K a).yld i H x' H' → g x' σ H' fun σ2 H2 => tb { D with nx := N, ct := N, bk := D.nx } σ2 H2) := by
  refine ⟨fun i m σ H => m = xs.length - i ∧ i ≤ xs.length ∧ Pv i σ H, ⟨xs.length, by simp, Nat.zero_le _, h0⟩, ?_⟩
  rintro i m σ H ⟨rfl, hi, p⟩
  by_cases hlt : i < xs.length
  · refine .inr ⟨⟨xs, xs[i], hl H, by simp [hlt]⟩, Pv (i + 1), fun σ' H' p' => ⟨xs.length - (i + 1), by omega, rfl, hlt, p'⟩, fun x' H' y => ?_⟩
    obtain ⟨T, x, rfl, nT, rfl, hx⟩ := y
    exact hs i x T σ H (hx xs (hl H)) nT p
  · have e : i = xs.length := by omega
    subst e
    exact .inl ⟨⟨xs, hl H, Nat.le_refl _⟩, hd σ H p⟩
end L2
set_option Elab.async false
set_option linter.all false
set_option maxRecDepth 100000
set_option maxHeartbeats 4000000
namespace Fax2
open PySem PySem.Spec PyProof.Rows L2 Fax
def top (i : Nat) : Stmt := PySem.Challenge.pw_faxpages_s02_fax_read.main.body.getD i (.Pass ⟨0, 0, 0, 0⟩)
abbrev sTab : Stmt := top 11
abbrev sWays : Stmt := top 12
abbrev sBeg : Stmt := top 13
abbrev sBlk : Stmt := top 15
abbrev sByt : Stmt := top 16
abbrev sChd : Stmt := top 17
abbrev sAbI : Stmt := inClass (top 18) 0
abbrev sAt : Stmt := inClass (top 18) 1
abbrev sBoth : Stmt := inClass (top 18) 2
abbrev sFlI : Stmt := inClass (top 28) 0
abbrev sBits : Stmt := top 29
abbrev sRdI : Stmt := inClass (top 30) 0
abbrev sCode : Stmt := inClass (top 30) 1
abbrev sRun : Stmt := inClass (top 30) 2
abbrev sAlone : Stmt := inClass (top 30) 3
abbrev sBy : Stmt := inClass (top 30) 4
abbrev sNext : Stmt := inClass (top 30) 5
abbrev sLend : Stmt := inClass (top 30) 6
abbrev sWhole : Stmt := inClass (top 30) 7
abbrev sOne : Stmt := inClass (top 30) 8
abbrev sDue : Stmt := inClass (top 30) 9
abbrev sPend : Stmt := inClass (top 30) 10
abbrev sLines : Stmt := inClass (top 30) 11
abbrev sPlain : Stmt := inClass (top 30) 12
abbrev sRest : Stmt := inClass (top 30) 13
abbrev sPage : Stmt := inClass (top 30) 14
abbrev sRead : Stmt := top 31
abbrev sFax : Stmt := top 35
/-- what the top has written: the constants, and that the built-in names are the built-in ones -/
structure Txt (K : PySem.W.Frag) (mg : Str → Option Value) : Prop where
  enum : mg "enumerate" = none
  len : mg "len" = none
  range : mg "range" = none
  max : mg "max" = none
  sorted : mg "sorted" = none
  bo : ∃ t, mg "BOTH_LONG" = some (.str (strAt top2 5) t)
  ws : ∃ t, mg "WHITE_SHORT" = some (.str (strAt top2 1) t)
  wl : ∃ t, mg "WHITE_LONG" = some (.str (strAt top2 2) t)
  bs : ∃ t, mg "BLACK_SHORT" = some (.str (strAt top2 3) t)
  bl : ∃ t, mg "BLACK_LONG" = some (.str (strAt top2 4) t)
  le : ∃ t, mg "LINE_END" = some (.str "000000000001" t)
  pass : ∃ t, mg "PASS" = some (.str "0001" t)
  across : ∃ t, mg "ACROSS" = some (.str "001" t)
  step : ∃ t, mg "STEP" = some (.int 64 t)
  noCode : ∃ t, mg "NO_CODE" = some (.int (-11) t)
  notLet : ∃ t, mg "NOT_LET" = some (.int (-12) t)
  noEnd : ∃ t, mg "NO_END" = some (.int (-13) t)
  cut : ∃ t, mg "CUT" = some (.int (-14) t)
  more : ∃ t, mg "MORE" = some (.int (-15) t)
  tooMany : ∃ t, mg "TOO_MANY" = some (.int (-16) t)
  moreRuns : ∃ t, mg "MORE_RUNS" = some (.int 3 t)
  ends : ∃ t, mg "ENDS" = some (.int 6 t)
  mostSide : ∃ t, mg "MOST_SIDE" = some (.int 16384 t)
  beyond : ∃ t, mg "BEYOND" = some (.int (-1) t)
/-- the tuple of the straight ways -/
def straights : List V := ([("0000010" : Str), ("000010" : Str), ("010" : Str), ("1" : Str), ("011" : Str), ("000011" : Str), ("0000011" : Str)] : List Str).map V.str
structure Straight (K : PySem.W.Frag) (mg : Str → Option Value) : Prop where
  is : ∃ aS, mg "STRAIGHT" = some (.ref aS) ∧ ∀ H : Hp, SqT K H aS straights
end Fax2
set_option Elab.async false
set_option linter.all false
set_option maxRecDepth 100000
set_option maxHeartbeats 4000000
namespace Fax2
open PySem PySem.Spec PyProof.Rows L2 Fax
/-- tables_of, of one of the two colours -/
def spTab : Sp := fun vs H Q _ => ∃ d : Bool, vs = [.str (tx (textOf (codesS d))), .str (tx (textOf (codesL d)))] ∧
  ∀ (H' : Hp) (p d1 d2 : Addr), Same H H' → H' p = some (.tup [.ref d1, .ref d2]) → H' d1 = some (.dK (lenTab d)) → H' d2 = some (.dK (codTab d)) → Q (.ref p) H'
theorem scTab : FnScope ["short", "long", "by_length", "by_code", "number", "code", "length"] ["short", "long"] (defScope sTab) := ⟨rfl, rfl, rfl, by decide +kernel, rfl, by decide +kernel, by decide +kernel⟩
section
variable {P : Program} {w : World} {K : PySem.W.Frag} {mg : Str → Option Value} {base : Heap}
theorem ok_tab {f : Addr} {fd : FuncData} (F : Fun K "tables_of" "tables_of" sTab f fd) (TX : Txt K mg) : FnOk P w K mg base CX0 1 f fd ["short", "long"] spTab := by
  refine F.ok scTab (fun vs H Q E h => ?_) (fun cdv A outer s H vs Q E hr h => ?_)
  · obtain ⟨d, rfl, _⟩ := h
    rfl
  · obtain ⟨d, rfl, q⟩ := h
    have hu := hu_of hr
    obtain ⟨tbo, mbo⟩ := TX.bo
    obtain ⟨tst, mst⟩ := TX.step
    refine ⟨_, pss_cons (ps_par (i := 2) (j := 3) rfl scTab.nd rfl rfl (by decide) rfl rfl (pa_cons pe_dnewK (pa_cons pe_dnewK pa_nil)) (by rfl))
      (pss_cons (ps_for PassesOwn.never rfl (pi_enum (by rfl) TX.enum (pa_cons (pe_split (pv 0) pe_str) pa_nil))
          (pg_tup rfl (pgs_cons (pg_name (i := 4) scTab.nd rfl (.inl rfl)) (pgs_cons (pg_name (i := 5) scTab.nd rfl (.inl rfl)) pgs_nil)))
          (pss_one (ps_dput hu (pv 2) (pv 4) (pv 5) rfl)))
      (pss_cons (ps_for PassesOwn.never rfl (pi_enum (by rfl) TX.enum (pa_cons (pe_split (pe_op op_add_str (pe_op op_add_str (pv 1) pe_str) (pe_glob rfl mbo (rel_str _ _))) pe_str) pa_nil))
          (pg_tup rfl (pgs_cons (pg_name (i := 4) scTab.nd rfl (.inl rfl)) (pgs_cons (pg_name (i := 5) scTab.nd rfl (.inl rfl)) pgs_nil)))
          (pss_one (ps_dput hu (pv 2) (pe_op op_mul (pe_glob rfl mst (rel_int _ _)) (pe_op op_add (pv 4) pe_int)) (pv 5) rfl)))
      (pss_cons (ps_lock (ps_for PassesOwn.never rfl (pi_keys (pv 2)) (pg_name (i := 6) scTab.nd rfl (.inl rfl))
          (pss_one (ps_dput hu (pv 3) (pe_dget hu (pv 2) (pv 6) (fun _ _ => rfl)) (pv 6) rfl))))
      (pss_one (ps_ret (pe_tup (pa_cons (pv 2) (pa_cons (pv 3) pa_nil)))))))), ?_⟩
    -- by_length, by_code = {}, {}
    refine fun b1 nb1 b2 nb2 => ⟨_, _, rfl, ?_⟩
    have n21 : b2 ≠ b1 := fun e => by rw [e, upd_same] at nb2; cases nb2
    -- short.split(" ")
    have e1 : Txt.split (tx (textOf (codesS d))) (Str.ofString " ") = (codesS d).map T := by rw [blank_is]; exact split_text _ (by cases d <;> decide)
    refine ⟨_, rfl, ⟨_, rfl⟩, _, _, rfl, rfl, (by decide +kernel), (by cases d <;> decide +kernel), fun c nc => ?_⟩
    rw [e1]
    have nc1 : b1 ≠ c := ne_of_none (by rw [upd_ne n21.symm]; exact upd_same) nc
    have nc2 : b2 ≠ c := ne_of_none upd_same nc
    refine ⟨c, ((codesS d).map T).map V.str, rfl, SqL.of upd_same, for_enumL (K := K) (a := c) (xs := ((codesS d).map T).map V.str) (fun i σ H' => ∃ v4 v5, σ = [some (.str (tx (textOf (codesS d)))), some (.str (tx (textOf (codesL d)))), some (.ref b1), some (.ref b2), v4, v5, none] ∧
      Same H H' ∧ H' b1 = some (.dK ((lenTab d).take i)) ∧ H' b2 = some (.dK []) ∧ H' c = some (.lst (((codesS d).map T).map V.str)) ∧ i ≤ 64) ⟨none, none, rfl, ?_, ?_, ?_, upd_same, Nat.zero_le _⟩
      (fun i σ H' _ ⟨_, _, _, _, _, _, h3, _⟩ => SqL.of h3) ?_ ?_⟩
    · exact (same_upd nb1).trans ((same_upd nb2).trans (same_upd nc))
    · rw [upd_ne nc1, upd_ne n21.symm]
      exact upd_same
    · rw [upd_ne nc2]
      exact upd_same
    · rintro i x TT σ H' hx nT ⟨v4, v5, rfl, sm, h1, h2, h3, _⟩
      have hi : i < 64 := by
        have := (List.getElem?_eq_some_iff.mp hx).1
        simpa [codesS] using this
      have ex : x = V.str (T (Ql31.codeOf d i)) := by
        rw [List.getElem?_map, List.getElem?_map, codesS, List.getElem?_map, List.getElem?_range hi] at hx
        exact (Option.some.inj hx).symm
      subst ex
      have m1 : b1 ≠ TT := ne_of_none h1 nT
      have m2 : b2 ≠ TT := ne_of_none h2 nT
      have m3 : c ≠ TT := ne_of_none h3 nT
      refine ⟨TT, _, rfl, .inl (.inl upd_same), rfl, _, _, rfl, _, _, rfl, rfl, ?_⟩
      refine ⟨_, rfl, _, rfl, _, rfl, b1, _, rfl, DPut.k (k := .inl (i : Int)) (by rw [upd_ne m1]; exact h1) (by rw [List.length_take]; exact small1000 (by omega)), ?_⟩
      rw [put_take (lenTab_nodup d) (lenTab_short d i hi)]
      refine ⟨_, _, rfl, ?_, upd_same, ?_, ?_, hi⟩
      · intro b o e
        rw [upd_ne (ne_of_none e nb1), upd_ne (ne_of_none (sm b o e) nT)]
        exact sm b o e
      · rw [upd_ne n21, upd_ne m2]
        exact h2
      · rw [upd_ne nc1.symm, upd_ne m3]
        exact h3
    · rintro σ H' ⟨v4, v5, rfl, sm, h1, h2, h3, _⟩
      have hl64 : (((codesS d).map T).map V.str).length = 64 := by simp [codesS]
      rw [hl64] at h1
      -- (long + " " + BOTH_LONG).split(" ")
      have e2 : tx (textOf (codesL d)) ++ Str.ofString " " ++ strAt top2 5 = tx (textOf (longs d)) := by
        rw [s2_bo, blank_is, ← longs_is]
        exact tx_cat _ _ (by cases d <;> decide) (by decide)
      have e3 : Txt.split (tx (textOf (longs d))) (Str.ofString " ") = (longs d).map T := by rw [blank_is]; exact split_text _ (by cases d <;> decide)
      have l1 : (tx (textOf (codesL d))).length + (Str.ofString " ").length ≤ sizeLine := by cases d <;> decide +kernel
      have l2 : (tx (textOf (codesL d)) ++ Str.ofString " ").length + (strAt top2 5).length ≤ sizeLine := by
        rw [s2_bo]
        cases d <;> decide +kernel
      refine ⟨_, rfl, _, _, rfl, rfl, l1, _, _, rfl, rfl, l2, ⟨_, rfl⟩, _, _, rfl, rfl, (by decide +kernel), ?_, fun c2 nd => ?_⟩
      · rw [e2]
        cases d <;> decide +kernel
      rw [e2, e3]
      have nd1 : b1 ≠ c2 := ne_of_none h1 nd
      have nd2 : b2 ≠ c2 := ne_of_none h2 nd
      refine ⟨c2, ((longs d).map T).map V.str, rfl, SqL.of upd_same, for_enumL (K := K) (a := c2) (xs := ((longs d).map T).map V.str) (fun i σ H' => ∃ v4 v5, σ = [some (.str (tx (textOf (codesS d)))), some (.str (tx (textOf (codesL d)))), some (.ref b1), some (.ref b2), v4, v5, none] ∧
        Same H H' ∧ H' b1 = some (.dK ((lenTab d).take (64 + i))) ∧ H' b2 = some (.dK []) ∧ H' c2 = some (.lst (((longs d).map T).map V.str)) ∧ i ≤ 40) ⟨v4, v5, rfl, sm.trans (same_upd nd), ?_, ?_, upd_same, Nat.zero_le _⟩
        (fun i σ H' _ ⟨_, _, _, _, _, _, h3, _⟩ => SqL.of h3) ?_ ?_⟩
      · rw [upd_ne nd1]
        exact h1
      · rw [upd_ne nd2]
        exact h2
      · rintro i x TT σ H' hx nT ⟨v4, v5, rfl, sm, h1, h2, h3, _⟩
        have hi : i < 40 := by
          have := (List.getElem?_eq_some_iff.mp hx).1
          simpa [longs] using this
        have ex : x = V.str (T (Ql31.codeOf d (64 * (i + 1)))) := by
          rw [List.getElem?_map, List.getElem?_map, longs, List.getElem?_map, List.getElem?_range hi] at hx
          exact (Option.some.inj hx).symm
        subst ex
        have m1 : b1 ≠ TT := ne_of_none h1 nT
        have m2 : b2 ≠ TT := ne_of_none h2 nT
        have m3 : c2 ≠ TT := ne_of_none h3 nT
        refine ⟨TT, _, rfl, .inl (.inl upd_same), rfl, _, _, rfl, _, _, rfl, rfl, ?_⟩
        refine ⟨_, rfl, _, rfl, _, rfl, _, _, rfl, rfl, _, _, rfl, rfl, by unfold CMul; omega, b1, _, rfl, DPut.k (k := .inl (64 * ((i : Int) + 1))) (by rw [upd_ne m1]; exact h1) (by rw [List.length_take]; exact small1000 (by omega)), ?_⟩
        rw [put_take (lenTab_nodup d) (lenTab_long d i hi)]
        refine ⟨_, _, rfl, ?_, upd_same, ?_, ?_, hi⟩
        · intro b o e
          rw [upd_ne (ne_of_none e nb1), upd_ne (ne_of_none (sm b o e) nT)]
          exact sm b o e
        · rw [upd_ne n21, upd_ne m2]
          exact h2
        · rw [upd_ne nd1.symm, upd_ne m3]
          exact h3
      · rintro σ H' ⟨v4, v5, rfl, sm, h1, h2, h3, _⟩
        have hl40 : (((longs d).map T).map V.str).length = 40 := by simp [longs]
        rw [hl40, show (lenTab d).take (64 + 40) = lenTab d from List.take_of_length_le (by rw [lenTab_len]; exact Nat.le_refl _)] at h1
        -- for length in by_length
        refine ⟨b1, .dK (lenTab d), h1, trivial, fun od => ?_⟩
        refine ⟨_, rfl, b1, od, rfl, .inl ⟨lenTab d, upd_same, ?_⟩⟩
        refine for_it walk_keys (fun i σ H' => ∃ v4 v5 v6, σ = [some (.str (tx (textOf (codesS d)))), some (.str (tx (textOf (codesL d)))), some (.ref b1), some (.ref b2), v4, v5, v6] ∧
          Same H H' ∧ H' b1 = some (.frz od (.dK (lenTab d))) ∧ H' b2 = some (.dK ((codTab d).take i))) ⟨v4, v5, none, rfl, ?_, upd_same, ?_⟩ (fun i σ H' _ ⟨_, _, _, _, _, h, _⟩ => h) ?_ ?_
        · intro b o e
          rw [upd_ne (ne_of_none e nb1)]
          exact sm b o e
        · rw [upd_ne n21]
          exact h2
        · rintro i x σ H' H'' hi ⟨v4, v5, v6, rfl, sm, h1, h2⟩ ⟨rfl, k, v, hk, rfl⟩
          rw [lenTab_len] at hi
          obtain ⟨n, hn⟩ : ∃ n, codeNs[i]? = some n := ⟨_, codeNs_get i hi⟩
          have hk2 := lenTab_get d i n hn
          rw [hk] at hk2
          have e4 := Option.some.inj hk2
          have ek : k = Sum.inl (n : Int) := congrArg Prod.fst e4
          have ev : v = V.str (T (Ql31.codeOf d n)) := congrArg Prod.snd e4
          subst ek ev
          refine ⟨_, rfl, _, rfl, _, rfl, _, rfl, b1, V.str (T (Ql31.codeOf d n)), rfl, .inl ⟨lenTab d, _, .inr ⟨od, h1⟩, rfl, (valV_at (lenTab_nodup d) hk).symm⟩, b2, _, rfl,
            DPut.k (k := .inr (T (Ql31.codeOf d n))) h2 (by rw [List.length_take]; exact small1000 (by omega)), ?_⟩
          rw [show kV (.inl (n : Int)) = V.int (n : Int) from rfl, put_take (codTab_nodup d) (codTab_get d i n hn)]
          refine ⟨_, _, _, rfl, ?_, ?_, upd_same⟩
          · intro b o e
            rw [upd_ne (ne_of_none e (by rw [upd_ne n21] at nb2; exact nb2))]
            exact sm b o e
          · rw [upd_ne n21.symm]
            exact h1
        · rintro σ H' ⟨v4, v5, v6, rfl, sm, h1, h2⟩
          rw [lenTab_len, show (codTab d).take 104 = codTab d from List.take_of_length_le (by rw [codTab_len]; exact Nat.le_refl _)] at h2
          refine ⟨h1, ?_⟩
          refine ⟨_, rfl, _, rfl, (by show 2 ≤ sizeLine; decide), fun p np => ?_⟩
          have nb1p : b1 ≠ p := ne_of_none upd_same np
          have nb2p : b2 ≠ p := ne_of_none (by rw [upd_ne n21]; exact h2) np
          refine q _ p b1 b2 ?_ upd_same ?_ ?_
          · intro b o e
            rw [upd_ne ?_, upd_ne (ne_of_none e nb1)]
            · exact sm b o e
            · exact ne_of_none (by rw [upd_ne (ne_of_none e nb1)]; exact sm b o e) np
          · rw [upd_ne nb1p]
            exact upd_same
          · rw [upd_ne nb2p, upd_ne n21]
            exact h2
end
end Fax2
set_option Elab.async false
set_option linter.all false
set_option maxRecDepth 100000
set_option maxHeartbeats 4000000
namespace Fax2
open PySem PySem.Spec PyProof.Rows L2 Fax
/-- the fields of an Above -/
def abF (c : Addr) (w s : Nat) : List (Str × V) := [("changes", .ref c), ("width", .int (w : Int)), ("spot", .int (s : Int))]
theorem abF_c (c : Addr) (w s : Nat) : (abF c w s).lookup ("changes" : Str) = some (.ref c) := lk_here
theorem abF_w (c : Addr) (w s : Nat) : (abF c w s).lookup ("width" : Str) = some (.int (w : Int)) := (lk_past (by decide +kernel)).trans lk_here
theorem abF_s (c : Addr) (w s : Nat) : (abF c w s).lookup ("spot" : Str) = some (.int (s : Int)) := (lk_past (by decide +kernel)).trans ((lk_past (by decide +kernel)).trans lk_here)
theorem abF_at (c : Addr) (w s : Nat) : (abF c w s).lookup ("at" : Str) = none := (lk_past (by decide +kernel)).trans ((lk_past (by decide +kernel)).trans ((lk_past (by decide +kernel)).trans rfl))
theorem abF_both (c : Addr) (w s : Nat) : (abF c w s).lookup ("both" : Str) = none := (lk_past (by decide +kernel)).trans ((lk_past (by decide +kernel)).trans ((lk_past (by decide +kernel)).trans rfl))
theorem abF_put (c : Addr) (w s y : Nat) : putF "spot" (.int (y : Int)) (abF c w s) = abF c w y := (put_past (by decide +kernel)).trans (congrArg _ ((put_past (by decide +kernel)).trans (congrArg _ put_here)))
theorem abF_putS {C dx c : Addr} {w s y : Nat} {z : Int} (h : z = (y : Int)) : some (HO.ins C dx (putF "spot" (.int z) (abF c w s))) = some (HO.ins C dx (abF c w y)) := by
  rw [h, abF_put]
theorem abF_new (c : Addr) (w : Nat) : putF "spot" (.int 0) (putF "width" (.int (w : Int)) (putF "changes" (.ref c) [])) = abF c w 0 := by
  show putF "spot" (.int 0) (putF "width" (.int (w : Int)) [(("changes" : Str), .ref c)]) = _
  rw [put_past (by decide +kernel)]
  show putF "spot" (.int 0) [(("changes" : Str), V.ref c), (("width" : Str), V.int (w : Int))] = _
  rw [put_past (by decide +kernel), put_past (by decide +kernel)]
  rfl
/-- the class Above -/
structure AbT (K : PySem.W.Frag) (mg : Str → Option Value) (C fI fA fB : Addr) : Prop where
  cl : Cls K C
  nC : NoAttr K C "changes"
  nW : NoAttr K C "width"
  nS : NoAttr K C "spot"
  g : mg "Above" = some (.ref C)
  mkr : Mk K C fI
  mAt : Meth K C "at" fA
  mBoth : Meth K C "both" fB
def spAbI (C : Addr) : Sp := fun vs H Q _ => ∃ (p dx c : Addr) (w : Nat), vs = [.ref p, .ref c, .int (w : Int)] ∧ H p = some (.ins C dx []) ∧
  ∀ H' : Hp, H' p = some (.ins C dx (abF c w 0)) → But p H H' → Q .non H'
def spAt (C : Addr) : Sp := fun vs H Q _ => ∃ (a dx c : Addr) (w s j : Nat) (cs : List Nat), vs = [.ref a, .int (j : Int)] ∧ H a = some (.ins C dx (abF c w s)) ∧ H c = some (.lst (natsV cs)) ∧ Q (.int (cs.getD j w : Nat)) H
def spBoth (C : Addr) : Sp := fun vs H Q _ => ∃ (a dx c : Addr) (w s : Nat) (cs : List Nat) (p : Int) (col : Bool), vs = [.ref a, .int p, .int (col.toNat : Int)] ∧ H a = some (.ins C dx (abF c w s)) ∧ H c = some (.lst (natsV cs)) ∧
  cs.Pairwise (· < ·) ∧ s ≤ cs.length ∧
  ∀ (H' : Hp) (t : Addr) (j : Nat), Spot cs p j → But a H H' → H' a = some (.ins C dx (abF c w j)) → H' t = some (.tup [.int (cs.getD (pick j col) w : Nat), .int (cs.getD (pick j col + 1) w : Nat)]) → Q (.ref t) H'
theorem scAbI : FnScope ["self", "changes", "width"] ["self", "changes", "width"] (defScope sAbI) := ⟨rfl, rfl, rfl, by decide +kernel, rfl, by decide +kernel, by decide +kernel⟩
theorem scAt : FnScope ["self", "spot"] ["self", "spot"] (defScope sAt) := ⟨rfl, rfl, rfl, by decide +kernel, rfl, by decide +kernel, by decide +kernel⟩
theorem scBoth : FnScope ["self", "place", "colour", "spot"] ["self", "place", "colour"] (defScope sBoth) := ⟨rfl, rfl, rfl, by decide +kernel, rfl, by decide +kernel, by decide +kernel⟩
section
variable {P : Program} {w : World} {K : PySem.W.Frag} {mg : Str → Option Value} {base : Heap} {C fI fA fB : Addr}
theorem ok_abI {f : Addr} {fd : FuncData} (F : Fun K "__init__" "Above.__init__" sAbI f fd) (TA : AbT K mg C fI fA fB) : FnOk P w K mg base CX0 1 f fd ["self", "changes", "width"] (spAbI C) := by
  refine F.ok scAbI (fun vs H Q E h => ?_) (fun cdv A outer s H vs Q E hr h => ?_)
  · obtain ⟨p, dx, c, w, rfl, _⟩ := h
    rfl
  · obtain ⟨p, dx, c, wd, rfl, hp, q⟩ := h
    refine ⟨_, pss_cons (ps_fld (pv 0) (pv 1) rfl) (pss_cons (ps_fld (pv 0) (pv 2) rfl) (pss_one (ps_fld (pv 0) pe_int rfl))), ?_⟩
    refine ⟨_, rfl, _, rfl, p, C, dx, [], rfl, hp, TA.cl, TA.nC, (by show 0 < 1000; decide), ?_⟩
    refine ⟨_, rfl, _, rfl, p, C, dx, _, rfl, upd_same, TA.cl, TA.nW, (by show 1 < 1000; decide), ?_⟩
    refine ⟨_, rfl, p, C, dx, _, rfl, upd_same, TA.cl, TA.nS, (by show 2 < 1000; decide), ?_⟩
    refine q _ (Eq.trans upd_same (congrArg (fun q => some (HO.ins C dx q)) (abF_new c wd))) fun b o hb e => ?_
    rw [upd_ne hb, upd_ne hb, upd_ne hb]
    exact e
theorem ok_at {f : Addr} {fd : FuncData} (F : Fun K "at" "Above.at" sAt f fd) (TX : Txt K mg) (TA : AbT K mg C fI fA fB) : FnOk P w K mg base CX0 1 f fd ["self", "spot"] (spAt C) := by
  refine F.ok scAt (fun vs H Q E h => ?_) (fun cdv A outer s H vs Q E hr h => ?_)
  · obtain ⟨a, dx, c, w, s, j, cs, rfl, _⟩ := h
    rfl
  · obtain ⟨a, dx, c, wd, sp, j, cs, rfl, ha, hc, q⟩ := h
    refine ⟨_, pss_one (ps_ret (pe_ifExp (pt_cmpR op_lt (pv 1) (pe_callB call_len_seq (by rfl) TX.len PySem.boot_len (pa_cons (pe_fld (pv 0) rfl) pa_nil)) (nomark _))
      (pe_ix ix_list (pe_fld (pv 0) rfl) (pv 1) (fun _ _ => rfl)) (pe_fld (pv 0) rfl))), ?_⟩
    refine ⟨_, rfl, _, rfl, a, C, dx, _, _, rfl, ha, TA.cl, TA.nC, abF_c _ _ _, c, natsV cs, rfl, .inl (SqL.of hc), _, _, rfl, rfl, _, rfl, ?_⟩
    rw [List.length_map]
    by_cases hj : j < cs.length
    · refine if_yes (by omega) ?_
      refine ⟨_, rfl, a, C, dx, _, _, rfl, ha, TA.cl, TA.nC, abF_c _ _ _, _, rfl, c, _, _, _, rfl, rfl, SqL.of hc, at_of rfl (natsV_get hj), ?_⟩
      rw [getD_at hj] at q
      exact q
    · refine if_no (by omega) ?_
      refine ⟨_, rfl, a, C, dx, _, _, rfl, ha, TA.cl, TA.nW, abF_w _ _ _, ?_⟩
      rw [getD_out (by omega)] at q
      exact q
theorem ok_both {f : Addr} {fd fdA : FuncData} (F : Fun K "both" "Above.both" sBoth f fd) (TX : Txt K mg) (TA : AbT K mg C fI fA fB) (GA : FnOk P w K mg base CX0 1 fA fdA ["self", "spot"] (spAt C)) (bA : Binds K fdA ["self", "spot"] []) :
    FnOk P w K mg base CX0 2 f fd ["self", "place", "colour"] (spBoth C) := by
  refine F.ok scBoth (fun vs H Q E h => ?_) (fun cdv A outer s H vs Q E hr h => ?_)
  · obtain ⟨a, dx, c, w, s, cs, p, col, rfl, _⟩ := h
    rfl
  · obtain ⟨a, dx, c, wd, sp, cs, p, col, rfl, ha, hc, hsrt, hsp, q⟩ := h
    refine ⟨_, Evl.pss_cut (ps_while PassesOwn.never (PW.pt (pw_and (pt_cmpR op_gt (pe_fld (pv 0) rfl) pe_int (nomark _))
          (pw_and1 (pt_cmpR op_gt (pe_meth (pv 0) TA.cl TA.mAt GA hr bA .nil pass0 (pa_cons (pe_op op_sub (pe_fld (pv 0) rfl) pe_int) pa_nil)) (pv 1) (nomark _)))))
        (pss_one (ps_fld (pv 0) (pe_op op_sub (pe_fld (pv 0) rfl) pe_int) rfl)))
      (Evl.pss_cut (ps_while PassesOwn.never (PW.pt (pw_and (pt_cmpR op_lt (pe_fld (pv 0) rfl) (pe_callB call_len_seq (by rfl) TX.len PySem.boot_len (pa_cons (pe_fld (pv 0) rfl) pa_nil)) (nomark _))
          (pw_and1 (pt_cmpR op_le (pe_ix ix_list (pe_fld (pv 0) rfl) (pe_fld (pv 0) rfl) (fun _ _ => rfl)) (pv 1) (nomark _)))))
        (pss_one (ps_fld (pv 0) (pe_op op_add (pe_fld (pv 0) rfl) pe_int) rfl)))
      (pss_cons (ps_set (i := 3) scBoth.nd rfl (.inl rfl) (pe_fld (pv 0) rfl))
      (Evl.pss_cut (ps_if (pt_cmpR op_ne (pe_op op_mod (pv 3) pe_int) (pv 2) (nomark _)) (pss_one (ps_set (i := 3) scBoth.nd rfl (.inl rfl) (pe_op op_add (pv 3) pe_int))) pss_nil)
      (pss_one (ps_ret (pe_tup (pa_cons (pe_meth (pv 0) TA.cl TA.mAt GA hr bA .nil pass0 (pa_cons (pv 3) pa_nil))
        (pa_cons (pe_meth (pv 0) TA.cl TA.mAt GA hr bA .nil pass0 (pa_cons (pe_op op_add (pv 3) pe_int) pa_nil)) pa_nil)))))))), ?_⟩
    have nca : c ≠ a := ne_of hc ha (by intro z; cases z)
    -- the first loop
    refine ⟨fun σ H' => σ = [some (.ref a), some (.int p), some (.int (col.toNat : Int)), none] ∧ ∃ m, But a H H' ∧ m ≤ cs.length ∧ H' a = some (.ins C dx (abF c wd m)) ∧ ∀ i (h : i < cs.length), i < m → (cs[i] : Int) ≤ p, ?_, ?_⟩
    · refine ⟨fun m σ H' => σ = [some (.ref a), some (.int p), some (.int (col.toNat : Int)), none] ∧ But a H H' ∧ m ≤ cs.length ∧ H' a = some (.ins C dx (abF c wd m)), ⟨sp, rfl, But.refl _ _, hsp, ha⟩, ?_⟩
      rintro m σ H' ⟨rfl, bt, hm, ha'⟩
      have hc' := bt c _ nca hc
      refine ⟨_, rfl, a, C, dx, _, _, rfl, ha', TA.cl, TA.nS, abF_s _ _ _, _, _, rfl, rfl, _, rfl, ?_⟩
      by_cases h0 : 0 < m
      · refine if_yes (by omega) ?_
        have hm1 : m - 1 < cs.length := by omega
        refine ⟨_, rfl, a, dx, _, rfl, ha', abF_at _ _ _, _, rfl, a, C, dx, _, _, rfl, ha', TA.cl, TA.nS, abF_s _ _ _, _, _, rfl, rfl, a, dx, c, wd, m, m - 1, cs, ?_, ha', hc', ?_⟩
        · have : (m : Int) - 1 = ((m - 1 : Nat) : Int) := by omega
          show [V.ref a, V.int ((m : Int) - 1)] = _
          rw [this]
        rw [getD_at hm1]
        refine ⟨_, rfl, _, _, rfl, rfl, _, rfl, ?_⟩
        by_cases hp : p < (cs[m - 1] : Int)
        · refine if_yes hp ?_
          refine ⟨_, fun _ _ h => h, ?_⟩
          refine ⟨_, rfl, a, C, dx, _, _, rfl, ha', TA.cl, TA.nS, abF_s _ _ _, _, _, rfl, rfl, _, rfl, a, C, dx, _, rfl, ha', TA.cl, TA.nS, (by show 3 < 1000; decide), ?_⟩
          refine ⟨m - 1, by omega, rfl, bt.trans but_upd, by omega, ?_⟩
          exact Eq.trans upd_same (abF_putS (by omega))
        · refine if_no hp ?_
          refine ⟨rfl, m, bt, hm, ha', fun i hi him => ?_⟩
          rcases Nat.lt_or_eq_of_le (show i ≤ m - 1 by omega) with z | z
          · have := sorted_lt hsrt hm1 z
            omega
          · subst z
            omega
      · refine if_no (by omega) ?_
        exact ⟨rfl, m, bt, hm, ha', fun i hi him => by omega⟩
    · rintro σ H' ⟨rfl, m, bt, hm, ha', hle⟩
      -- the second loop
      refine ⟨fun σ H' => σ = [some (.ref a), some (.int p), some (.int (col.toNat : Int)), none] ∧ ∃ m, But a H H' ∧ H' a = some (.ins C dx (abF c wd m)) ∧ Spot cs p m, ?_, ?_⟩
      · refine ⟨fun k σ H' => σ = [some (.ref a), some (.int p), some (.int (col.toNat : Int)), none] ∧ ∃ m, k + m = cs.length ∧ But a H H' ∧ H' a = some (.ins C dx (abF c wd m)) ∧ ∀ i (h : i < cs.length), i < m → (cs[i] : Int) ≤ p, ⟨cs.length - m, rfl, m, by omega, bt, ha', hle⟩, ?_⟩
        rintro k σ H' ⟨rfl, m, hk, bt, ha', hle⟩
        have hc' := bt c _ nca hc
        refine ⟨_, rfl, a, C, dx, _, _, rfl, ha', TA.cl, TA.nS, abF_s _ _ _, _, rfl, a, C, dx, _, _, rfl, ha', TA.cl, TA.nC, abF_c _ _ _, c, natsV cs, rfl, .inl (SqL.of hc'), _, _, rfl, rfl, _, rfl, ?_⟩
        rw [List.length_map]
        by_cases hm : m < cs.length
        · refine if_yes (by omega) ?_
          refine ⟨_, rfl, a, C, dx, _, _, rfl, ha', TA.cl, TA.nC, abF_c _ _ _, _, rfl, a, C, dx, _, _, rfl, ha', TA.cl, TA.nS, abF_s _ _ _, c, _, _, _, rfl, rfl, SqL.of hc', at_of rfl (natsV_get hm), _, rfl, _, _, rfl, rfl, _, rfl, ?_⟩
          by_cases hp : (cs[m] : Int) ≤ p
          · refine if_yes hp ?_
            refine ⟨_, fun _ _ h => h, ?_⟩
            refine ⟨_, rfl, a, C, dx, _, _, rfl, ha', TA.cl, TA.nS, abF_s _ _ _, _, _, rfl, rfl, _, rfl, a, C, dx, _, rfl, ha', TA.cl, TA.nS, (by show 3 < 1000; decide), ?_⟩
            refine ⟨k - 1, by omega, rfl, m + 1, by omega, bt.trans but_upd, ?_, fun i hi him => ?_⟩
            · exact Eq.trans upd_same (abF_putS (by omega))
            · rcases Nat.lt_or_eq_of_le (Nat.le_of_lt_succ him) with z | z
              · exact hle i hi z
              · subst z
                exact hp
          · refine if_no hp ?_
            refine ⟨rfl, m, bt, ha', Nat.le_of_lt hm, hle, fun i hi him => ?_⟩
            rcases Nat.lt_or_eq_of_le him with z | z
            · have := sorted_lt hsrt hi z
              omega
            · subst z
              omega
        · refine if_no (by omega) ?_
          exact ⟨rfl, m, bt, ha', by omega, hle, fun i hi him => by omega⟩
      · rintro σ H' ⟨rfl, m, bt, ha', hS⟩
        have hc' := bt c _ nca hc
        refine ⟨_, rfl, a, C, dx, _, _, rfl, ha', TA.cl, TA.nS, abF_s _ _ _, ?_⟩
        refine ⟨fun σ H'' => H'' = H' ∧ σ = [some (.ref a), some (.int p), some (.int (col.toNat : Int)), some (.int (pick m col : Nat))], ?_, ?_⟩
        · refine ⟨_, rfl, _, _, rfl, rfl, (by show (0 : Int) < 2; decide), _, rfl, rfl, _, rfl, ?_⟩
          have hpk : (!decide (V.int ((m : Int) % 2) = V.int (col.toNat : Int))) = decide (¬ m % 2 = col.toNat) := by
            by_cases h : m % 2 = col.toNat
            · have : (m : Int) % 2 = (col.toNat : Int) := by omega
              rw [this, decide_eq_true rfl, decide_eq_false (by omega)]
              rfl
            · rw [decide_eq_false (fun e => h (by have := V.int.inj e; omega)), decide_eq_true h]
              rfl
          rw [hpk]
          by_cases h : m % 2 = col.toNat
          · refine if_no (by omega) ?_
            refine ⟨rfl, ?_⟩
            unfold pick
            rw [if_pos h]
            rfl
          · refine if_yes h ?_
            refine ⟨_, rfl, _, _, rfl, rfl, rfl, ?_⟩
            unfold pick
            rw [if_neg h]
            rfl
        · rintro σ H'' ⟨rfl, rfl⟩
          refine ⟨_, rfl, a, dx, _, rfl, ha', abF_at _ _ _, _, rfl, a, dx, c, wd, m, pick m col, cs, rfl, ha', hc', ?_⟩
          refine ⟨_, rfl, a, dx, _, rfl, ha', abF_at _ _ _, _, rfl, _, _, rfl, rfl, a, dx, c, wd, m, pick m col + 1, cs, rfl, ha', hc', ?_⟩
          refine ⟨by show 2 ≤ sizeLine; decide, fun t nt => ?_⟩
          exact q _ t m hS (bt.trans (same_upd nt).but) (by rw [upd_ne (ne_of_none ha' nt)]; exact ha') upd_same
end
end Fax2
set_option Elab.async false
set_option linter.all false
set_option maxRecDepth 100000
set_option maxHeartbeats 4000000
namespace Fax2
open PySem PySem.Spec PyProof.Rows L2 Fax
/-! ### blacken, bytes_of, changed -/
def black (P : Nat → Bool) (b e : Nat) (x : Nat) : Bool := P x || (decide (b ≤ x) && decide (x < e))
def spBlk : Sp := fun vs H Q _ => ∃ (l : Addr) (n b e : Nat) (P : Nat → Bool), vs = [.ref l, .int (b : Int), .int (e : Int)] ∧ H l = some (.lst (natsV (img n P))) ∧ e ≤ 8 * n ∧
  ∀ H' : Hp, But l H H' → H' l = some (.lst (natsV (img n (black P b e)))) → Q .non H'
theorem scBlk : FnScope ["row", "begin", "end", "place"] ["row", "begin", "end"] (defScope sBlk) := ⟨rfl, rfl, rfl, by decide +kernel, rfl, by decide +kernel, by decide +kernel⟩
theorem natsV_set (l : List Nat) (j n : Nat) : (natsV l).set j (V.int (n : Int)) = natsV (l.set j n) := by
  show (l.map _).set j _ = (l.set j n).map _
  rw [List.map_set]
theorem ixN_at {n j : Nat} {i : Int} (h : i = (j : Int)) (hj : j < n) : ixN n i = some j := by
  subst h
  unfold ixN
  rw [if_pos (by omega), if_pos (by omega)]
  rfl
theorem black_none (P : Nat → Bool) (b : Nat) : black P b b = P := by
  funext x
  unfold black
  by_cases h : b ≤ x
  · rw [decide_eq_false (by omega : ¬ x < b), Bool.and_false, Bool.or_false]
  · rw [decide_eq_false h, Bool.false_and, Bool.or_false]
theorem black_point (P : Nat → Bool) (b p : Nat) (h : b ≤ p) : (fun x => black P b p x || decide (x = p)) = black P b (p + 1) := by
  funext x
  unfold black
  rw [Bool.or_assoc]
  congr 1
  rw [← Bool.decide_and, ← Bool.decide_and, ← Bool.decide_or]
  exact decide_eq_decide.mpr (by omega)
theorem black_byte (P : Nat → Bool) (b p : Nat) (h : b ≤ p) : (fun x => black P b p x || (decide (p ≤ x) && decide (x < p + 8))) = black P b (p + 8) := by
  funext x
  unfold black
  rw [Bool.or_assoc]
  congr 1
  rw [← Bool.decide_and, ← Bool.decide_and, ← Bool.decide_and, ← Bool.decide_or]
  exact decide_eq_decide.mpr (by omega)
theorem shr_is (j : Nat) : (128 : Int) / (2 : Int) ^ ((j : Int)).toNat = ((128 >>> j : Nat) : Int) := by
  rw [Int.toNat_natCast, Nat.shiftRight_eq_div_pow, Int.natCast_ediv, Int.natCast_pow]
  rfl
section
variable {P : Program} {w : World} {K : PySem.W.Frag} {mg : Str → Option Value} {base : Heap}
theorem ok_blk {f : Addr} {fd : FuncData} (F : Fun K "blacken" "blacken" sBlk f fd) : FnOk P w K mg base CX0 1 f fd ["row", "begin", "end"] spBlk := by
  refine F.ok scBlk (fun vs H Q E h => ?_) (fun cdv A outer s H vs Q E hr h => ?_)
  · obtain ⟨l, n, b, e, P, rfl, _⟩ := h
    rfl
  · obtain ⟨l, n, b, e, P, rfl, hl, he, q⟩ := h
    refine ⟨_, pss_cons (ps_set (i := 3) scBlk.nd rfl (.inl rfl) (pv 1))
      (pss_one (ps_while PassesOwn.never (pt_cmpR op_lt (pv 3) (pv 2) (nomark _))
        (pss_one (ps_if (PW.pt (pw_and (pt_cmpR op_eq (pe_op op_mod (pv 3) pe_int) pe_int (nomark _)) (pw_and1 (pt_cmpR op_ge (pe_op op_sub (pv 2) (pv 3)) pe_int (nomark _)))))
          (pss_cons (ps_asg pe_int (pg_sub (pv 0) (pe_op op_fdiv (pv 3) pe_int) set_list)) (pss_one (ps_set (i := 3) scBlk.nd rfl (.inl rfl) (pe_op op_add (pv 3) pe_int))))
          (pss_cons (ps_asg (pe_op op_or (pe_ix ix_list (pv 0) (pe_op op_fdiv (pv 3) pe_int) (fun _ _ => rfl)) (pe_op op_shr pe_int (pe_op op_mod (pv 3) pe_int))) (pg_sub (pv 0) (pe_op op_fdiv (pv 3) pe_int) set_list))
            (pss_one (ps_set (i := 3) scBlk.nd rfl (.inl rfl) (pe_op op_add (pv 3) pe_int)))))))), ?_⟩
    refine ⟨_, rfl, ?_⟩
    refine ⟨fun m σ H' => ∃ p : Nat, m = e - p ∧ b ≤ p ∧ (p ≤ e ∨ e ≤ b ∧ p = b) ∧ σ = [some (.ref l), some (.int (b : Int)), some (.int (e : Int)), some (.int (p : Int))] ∧ But l H H' ∧ H' l = some (.lst (natsV (img n (black P b p)))),
      ⟨e - b, b, rfl, Nat.le_refl _, (by omega), rfl, But.refl _ _, by rw [black_none]; exact hl⟩, ?_⟩
    rintro m σ H' ⟨p, rfl, hbp, hpe, rfl, bt, hl'⟩
    refine ⟨_, rfl, _, rfl, _, _, rfl, rfl, _, rfl, ?_⟩
    by_cases hlt : p < e
    · refine if_yes (by omega) ?_
      have hq : p / 8 < n := by omega
      refine ⟨_, fun _ _ h => h, ?_⟩
      refine ⟨_, rfl, _, _, rfl, rfl, (by show (0 : Int) < 8; decide), rfl, _, rfl, ?_⟩
      have hlen : (natsV (img n (black P b p))).length = n := by rw [List.length_map, img_len]
      have hix : ixN (natsV (img n (black P b p))).length ((p : Int) / 8) = some (p / 8) := by
        rw [hlen]
        exact ixN_at (by omega) hq
      by_cases hb : p % 8 = 0 ∧ 8 ≤ e - p
      · refine if_yes (congrArg V.int (by omega : (p : Int) % 8 = 0)) ?_
        refine ⟨_, rfl, _, rfl, _, _, rfl, rfl, _, _, rfl, rfl, _, rfl, ?_⟩
        refine if_yes (by omega) ?_
        refine ⟨_, rfl, _, rfl, _, _, rfl, rfl, (by unfold CDiv; omega), l, _, _, _, rfl, rfl, hl', hix, ?_⟩
        refine ⟨_, rfl, _, _, rfl, rfl, ?_⟩
        refine ⟨e - (p + 8), by omega, p + 8, rfl, by omega, by omega, ?_, bt.trans but_upd, ?_⟩
        · exact congrArg (fun z => [some (V.ref l), some (V.int (b : Int)), some (V.int (e : Int)), some (V.int z)]) (by omega : (p : Int) + 8 = ((p + 8 : Nat) : Int))
        · refine upd_same.trans ?_
          have e255 : (V.int 255) = V.int ((255 : Nat) : Int) := rfl
          rw [e255, natsV_set, img_byte _ hq hb.1, black_byte _ _ _ hbp]
      · by_cases h8 : p % 8 = 0
        all_goals
          first
            | (refine if_yes (congrArg V.int (by omega : (p : Int) % 8 = 0)) ?_
               refine ⟨_, rfl, _, rfl, _, _, rfl, rfl, _, _, rfl, rfl, _, rfl, ?_⟩
               refine if_no (by omega) ?_)
            | refine if_no (fun z => h8 (by have := V.int.inj z; omega)) ?_
          refine ⟨_, rfl, _, rfl, _, _, rfl, rfl, (by unfold CDiv; omega), l, _, _, _, rfl, rfl, SqL.of hl', at_of (by omega : (p : Int) / 8 = ((p / 8 : Nat) : Int)) (by rw [List.getElem?_map, img_get hq]; rfl), ?_⟩
          refine ⟨_, rfl, _, _, rfl, rfl, (by show (0 : Int) < 8; decide), _, _, rfl, rfl, (by show (0 : Int) ≤ (p : Int) % 8; omega), _, _, rfl, rfl, ?_⟩
          refine ⟨_, rfl, _, rfl, _, _, rfl, rfl, (by unfold CDiv; omega), l, _, _, _, rfl, rfl, hl', hix, ?_⟩
          refine ⟨_, rfl, _, _, rfl, rfl, ?_⟩
          refine ⟨e - (p + 1), by omega, p + 1, rfl, by omega, by omega, ?_, bt.trans but_upd, ?_⟩
          · exact congrArg (fun z => [some (V.ref l), some (V.int (b : Int)), some (V.int (e : Int)), some (V.int z)]) (by omega : (p : Int) + 1 = ((p + 1 : Nat) : Int))
          · refine upd_same.trans ?_
            have e1 : (p : Int) % 8 = ((p % 8 : Nat) : Int) := by omega
            dsimp only
            rw [e1, shr_is, bitOr_nn (Int.natCast_nonneg _) (Int.natCast_nonneg _), Int.toNat_natCast, Int.toNat_natCast, natsV_set, img_point _ hq, black_point _ _ _ hbp]
    · refine if_no (by omega) ?_
      refine q H' bt ?_
      rw [hl']
      rcases hpe with h | ⟨h1, h2⟩
      · have : p = e := by omega
        rw [this]
      · subst h2
        rw [black_none]
        have : black P p e = P := by
          funext x
          unfold black
          have : (decide (p ≤ x) && decide (x < e)) = false := by
            rw [← Bool.decide_and]
            exact decide_eq_false (by omega)
          rw [this, Bool.or_false]
        rw [this]
end
end Fax2
set_option Elab.async false
set_option linter.all false
set_option maxRecDepth 100000
set_option maxHeartbeats 4000000
namespace Fax2
open PySem PySem.Spec PyProof.Rows L2 Fax
def spByt : Sp := fun vs H Q _ => ∃ (c : Addr) (r : Ql31.Row), vs = [.ref c, .int (r.length : Int)] ∧ H c = some (.lst (natsV (chg r))) ∧ r.length ≤ 16384 ∧
  ∀ (H' : Hp) (p : Addr), Same H H' → H p = none → H' p = some (.lst (natsV (img (Ql31.stride r.length) fun x => r.getD x false))) → Q (.ref p) H'
theorem scByt : FnScope ["changes", "width", "found", "spot"] ["changes", "width"] (defScope sByt) := ⟨rfl, rfl, rfl, by decide +kernel, rfl, by decide +kernel, by decide +kernel⟩
theorem fits {x : Int} (h1 : -1000000 ≤ x) (h2 : x ≤ 1000000) : Builtin.Range.rangeFitsLong x = true := by
  unfold Builtin.Range.rangeFitsLong
  rw [decide_eq_true (by omega), decide_eq_true (by omega)]
  rfl
theorem flat_one {α : Type} (x : α) : ∀ n : Nat, (List.replicate n [x]).flatten = List.replicate n x
  | 0 => rfl
  | n + 1 => by
    rw [List.replicate_succ, List.flatten_cons, flat_one x n, List.replicate_succ]
    rfl
theorem rgc2 (L : Nat) (h : L ≤ 100000) : RgC 0 (L : Int) 2 ((L + 1) / 2) := by
  have e : Builtin.Range.rangeSize 0 (L : Int) 2 = (((L + 1) / 2 : Nat) : Int) := by
    rw [PyProof.Rows.rangeSize_pos (by omega) (by omega)]
    omega
  refine ⟨by decide, by decide, ?_, e⟩
  unfold Builtin.Range.small
  rw [e, fits (by omega) (by omega), fits (by omega) (by omega), fits (by omega) (by omega), fits (by omega) (by omega), if_pos (by decide), fits (by omega) (by omega), Bool.or_true]
  rfl
theorem black_congr {n : Nat} {P P' : Nat → Bool} (h : ∀ x, P x = P' x) : img n P = img n P' := img_congr fun x _ => h x
theorem zeros_img (n : Nat) (r : Ql31.Row) : (List.replicate n [V.int 0]).flatten = natsV (img n (upTo r 0)) := by
  have e : img n (upTo r 0) = List.replicate n 0 := by
    rw [black_congr (upTo_start r)]
    refine List.eq_replicate_iff.mpr ⟨img_len _ _, fun b hb => ?_⟩
    unfold img at hb
    obtain ⟨q, _, hq⟩ := List.mem_map.mp hb
    rw [← hq]
    show val [false, false, false, false, false, false, false, false] = 0
    decide
  rw [e, natsV, List.map_replicate, flat_one]
  rfl
section
variable {P : Program} {w : World} {K : PySem.W.Frag} {mg : Str → Option Value} {base : Heap}
theorem ok_byt {f g : Addr} {fd gd : FuncData} (F : Fun K "bytes_of" "bytes_of" sByt f fd) (TX : Txt K mg) (GB : FnOk P w K mg base CX0 1 g gd ["row", "begin", "end"] spBlk) (gB : mg "blacken" = some (.ref g)) (kB : PySem.W.keepIn K (.ref g) = true) (bB : Binds K gd ["row", "begin", "end"] []) :
    FnOk P w K mg base CX0 2 f fd ["changes", "width"] spByt := by
  refine F.ok scByt (fun vs H Q E h => ?_) (fun cdv A outer s H vs Q E hr h => ?_)
  · obtain ⟨c, r, rfl, _⟩ := h
    rfl
  · obtain ⟨c, r, rfl, hc, hw, q⟩ := h
    refine ⟨_, pss_cons (ps_set (i := 2) scByt.nd rfl (.inl rfl) (pe_op op_rep (pe_lst (pa_cons pe_int pa_nil)) (pe_op op_fdiv (pe_op op_add (pv 1) pe_int) pe_int)))
      (pss_cons (ps_for PassesOwn.never rfl (pi_range3 (by rfl) TX.range (pa_cons pe_int (pa_cons (pe_callB call_len_seq (by rfl) TX.len PySem.boot_len (pa_cons (pv 0) pa_nil)) (pa_cons pe_int pa_nil)))) (pg_name (i := 3) scByt.nd rfl (.inl rfl))
        (pss_one (ps_expr (pe_call GB hr rfl gB kB bB .nil pass0 (pa_cons (pv 2) (pa_cons (pe_ix ix_list (pv 0) (pv 3) (fun _ _ => rfl)) (pa_cons (pe_ifExp (pt_cmpR op_lt (pe_op op_add (pv 3) pe_int) (pe_callB call_len_seq (by rfl) TX.len PySem.boot_len (pa_cons (pv 0) pa_nil)) (nomark _))
          (pe_ix ix_list (pv 0) (pe_op op_add (pv 3) pe_int) (fun _ _ => rfl)) (pv 1)) pa_nil)))))))
      (pss_one (ps_ret (pv 2)))), ?_⟩
    have hcl : (chg r).length ≤ 16384 := Nat.le_trans (chg_len r) hw
    refine ⟨(by show 1 ≤ sizeLine; decide), fun o no => ?_⟩
    refine ⟨_, rfl, _, _, rfl, rfl, _, _, rfl, rfl, (by unfold CDiv; omega), o, _, _, rfl, rfl, upd_same, (by omega), (by omega), ?_, fun l nl => ?_⟩
    · show 1 * _ ≤ _
      rw [sizeLine_eq]
      omega
    have est : (((r.length : Int) + 7) / 8).toNat = Ql31.stride r.length := by unfold Ql31.stride; omega
    dsimp only
    rw [est, zeros_img _ r]
    have s1 : Same H (upd (upd H o (.lst [.int 0])) l (.lst (natsV (img (Ql31.stride r.length) (upTo r 0))))) := (same_upd no).trans (same_upd nl)
    have nlH : H l = none := by
      have : l ≠ o := fun z => by rw [z, upd_same] at nl; cases nl
      rw [upd_ne this] at nl
      exact nl
    refine ⟨_, rfl, c, natsV (chg r), rfl, .inl (SqL.of (s1 _ _ hc)), ?_⟩
    refine ⟨_, _, _, (((natsV (chg r)).length + 1) / 2), rfl, rgc2 _ (by rw [List.length_map]; omega), ?_⟩
    rw [List.length_map]
    refine for_rangeC (fun i σ H' => ∃ v3, σ = [some (.ref c), some (.int (r.length : Int)), some (.ref l), v3] ∧ Same H H' ∧ H' l = some (.lst (natsV (img (Ql31.stride r.length) (upTo r i))))) ⟨none, rfl, s1, upd_same⟩ ?_ ?_
    · rintro i σ H' hi ⟨v3, rfl, sm, hl⟩
      have h2 : 2 * i < (chg r).length := by omega
      have ei : (0 : Int) + (i : Nat) * 2 = ((2 * i : Nat) : Int) := by omega
      refine ⟨_, rfl, _, rfl, _, rfl, c, natsV (chg r), _, _, rfl, rfl, SqL.of (sm _ _ hc), at_of ei (natsV_get h2), ?_⟩
      refine ⟨_, rfl, _, _, rfl, rfl, _, rfl, c, natsV (chg r), rfl, .inl (SqL.of (sm _ _ hc)), _, _, rfl, rfl, _, rfl, ?_⟩
      rw [List.length_map]
      have go : ∀ e : Nat, e = (chg r).getD (2 * i + 1) r.length → spBlk [.ref l, .int ((chg r)[2 * i] : Int), .int (e : Int)] H' (fun v H'' => ∃ v3, [some (V.ref c), some (V.int (r.length : Int)), some (V.ref l), some (V.int (0 + (i : Nat) * 2))] = [some (.ref c), some (.int (r.length : Int)), some (.ref l), v3] ∧ Same H H'' ∧ H'' l = some (.lst (natsV (img (Ql31.stride r.length) (upTo r (i + 1)))))) E := fun e he => by
        refine ⟨l, _, _, e, upTo r i, rfl, hl, ?_, fun H2 bt h2' => ⟨_, rfl, ?_, ?_⟩⟩
        · have := chg_getD_le r (2 * i + 1)
          rw [he]
          unfold Ql31.stride
          omega
        · intro b u hb
          exact bt b u (ne_of_none hb nlH) (sm b u hb)
        · rw [h2']
          have : img (Ql31.stride r.length) (black (upTo r i) (chg r)[2 * i] e) = img (Ql31.stride r.length) (upTo r (i + 1)) := by
            refine img_congr fun x _ => ?_
            rw [upTo_step r i h2 x, he]
            rfl
          rw [this]
      by_cases hlt : 2 * i + 1 < (chg r).length
      · refine if_yes (by omega) ?_
        refine ⟨_, rfl, _, rfl, _, _, rfl, rfl, c, natsV (chg r), _, _, rfl, rfl, SqL.of (sm _ _ hc), at_of (by omega : (0 : Int) + (i : Nat) * 2 + 1 = ((2 * i + 1 : Nat) : Int)) (natsV_get hlt), ?_⟩
        exact go _ (getD_at hlt).symm
      · refine if_no (by omega) ?_
        refine ⟨_, rfl, ?_⟩
        exact go _ (getD_out (by omega)).symm
    · rintro σ H' ⟨v3, rfl, sm, hl⟩
      refine ⟨_, rfl, q H' l sm nlH ?_⟩
      rw [hl]
      have : img (Ql31.stride r.length) (upTo r (((chg r).length + 1) / 2)) = img (Ql31.stride r.length) (fun x => r.getD x false) := img_congr fun x _ => upTo_end r _ (by omega) x
      rw [this]
end
/-- pairs: each a colour and where it ends -/
structure Prs (H : Hp) (xs : List V) (rs : List (Bool × Nat)) : Prop where
  len : xs.length = rs.length
  pair : ∀ (i : Nat) (c : Bool) (e : Nat), rs[i]? = some (c, e) → ∃ t, xs[i]? = some (V.ref t) ∧ H t = some (.tup [.int (c.toNat : Int), .int (e : Int)])
theorem Prs.keep {H H' : Hp} {xs : List V} {rs : List (Bool × Nat)} (h : Prs H xs rs) (k : ∀ t ys, H t = some (.tup ys) → H' t = some (.tup ys)) : Prs H' xs rs :=
  ⟨h.len, fun i c e hi => let ⟨t, h1, h2⟩ := h.pair i c e hi; ⟨t, h1, k _ _ h2⟩⟩
theorem Prs.snoc {H : Hp} {xs : List V} {rs : List (Bool × Nat)} (h : Prs H xs rs) {t : Addr} {c : Bool} {e : Nat} (ht : H t = some (.tup [.int (c.toNat : Int), .int (e : Int)])) : Prs H (xs ++ [.ref t]) (rs ++ [(c, e)]) := by
  refine ⟨by rw [List.length_append, List.length_append, h.len]; rfl, fun i c' e' hi => ?_⟩
  by_cases hlt : i < rs.length
  · rw [List.getElem?_append_left hlt] at hi
    obtain ⟨t', h1, h2⟩ := h.pair i c' e' hi
    exact ⟨t', by rw [List.getElem?_append_left (by rw [h.len]; exact hlt)]; exact h1, h2⟩
  · rw [List.getElem?_append_right (by omega)] at hi
    obtain ⟨h0, e0⟩ := List.getElem?_eq_some_iff.mp hi
    have h0' : i - rs.length = 0 := by simpa using h0
    have e1 : (c, e) = (c', e') := by
      rw [← e0]
      simp [h0']
    cases e1
    exact ⟨t, by rw [List.getElem?_append_right (by rw [h.len]; omega), h.len, h0']; rfl, ht⟩
def rowIs (w : Nat) (rs : List (Bool × Nat)) : List Nat := if (rowOf rs []).length = w then chg (rowOf rs []) else []
def spChd (K : PySem.W.Frag) : Sp := fun vs H Q _ => ∃ (l : Addr) (w : Nat) (xs : List V) (rs : List (Bool × Nat)), vs = [.ref l, .int (w : Int)] ∧ H l = some (.lst xs) ∧ Prs H xs rs ∧ (rowOf rs []).length ≤ 100000 ∧
  ∀ (H' : Hp) (p : Addr), Same H H' → H p = none → H' p = some (.lst (natsV (rowIs w rs))) → Q (.ref p) H'
theorem scChd : FnScope ["runs", "width", "found", "colour", "begin", "own", "end"] ["runs", "width"] (defScope sChd) := ⟨rfl, rfl, rfl, by decide +kernel, rfl, by decide +kernel, by decide +kernel⟩
theorem rowOf_take {rs : List (Bool × Nat)} {i : Nat} {c : Bool} {e : Nat} (h : rs[i]? = some (c, e)) : rowOf (rs.take (i + 1)) [] = rowOf (rs.take i) [] ++ List.replicate (e - (rowOf (rs.take i) []).length) c := by
  obtain ⟨hi, eq⟩ := List.getElem?_eq_some_iff.mp h
  rw [List.take_succ_eq_append_getElem hi, eq, rowOf_snoc]
theorem rowOf_ge : ∀ (rs : List (Bool × Nat)) (r : Ql31.Row), r.length ≤ (rowOf rs r).length
  | [], r => Nat.le_refl _
  | (c, e) :: l, r => by
    have := rowOf_ge l (r ++ List.replicate (e - r.length) c)
    rw [List.length_append] at this
    show _ ≤ (rowOf l _).length
    omega
theorem rowOf_take_le (rs : List (Bool × Nat)) (i : Nat) : (rowOf (rs.take i) []).length ≤ (rowOf rs []).length := by
  conv => rhs; rw [← List.take_append_drop i rs, rowOf_append]
  exact rowOf_ge _ _
section
variable {P : Program} {w : World} {K : PySem.W.Frag} {mg : Str → Option Value} {base : Heap}
theorem ok_chd {f : Addr} {fd : FuncData} (F : Fun K "changed" "changed" sChd f fd) (TX : Txt K mg) : FnOk P w K mg base CX0 1 f fd ["runs", "width"] (spChd K) := by
  refine F.ok scChd (fun vs H Q E h => ?_) (fun cdv A outer s H vs Q E hr h => ?_)
  · obtain ⟨c, r, xs, rs, rfl, _⟩ := h
    rfl
  · obtain ⟨l, wd, xs, rs, rfl, hl, hp, hlen, q⟩ := h
    refine ⟨_, pss_cons (ps_par3 (i := 2) (j := 3) (l := 4) rfl scChd.nd rfl rfl rfl (by decide) (by decide) (by decide) rfl rfl rfl (pa_cons (pe_lst pa_nil) (pa_cons pe_int (pa_cons pe_int pa_nil))) (by rfl))
      (pss_cons (ps_for PassesOwn.never rfl (pi_list (pv 0)) (pg_tup rfl (pgs_cons (pg_name (i := 5) scChd.nd rfl (.inl rfl)) (pgs_cons (pg_name (i := 6) scChd.nd rfl (.inl rfl)) pgs_nil)))
        (Evl.pss_cut (ps_if (PW.pt (pw_and (pt_cmpR op_gt (pv 6) (pv 4) (nomark _)) (pw_and1 (pt_cmpR op_ne (pv 5) (pv 3) (nomark _)))))
            (pss_cons (ps_expr (pe_bm PySem.F.plainAttrs_list PySem.F.slot_list_append PySem.F.type_list_append mt_append (pv 2) (pa_cons (pv 4) pa_nil))) (pss_one (ps_set (i := 3) scChd.nd rfl (.inl rfl) (pv 5)))) pss_nil)
          (pss_one (ps_set (i := 4) scChd.nd rfl (.inl rfl) (pe_callB (call_max2 rfl) (by rfl) TX.max (by decide +kernel) (pa_cons (pv 4) (pa_cons (pv 6) pa_nil)))))))
      (pss_one (ps_ret (pe_ifExp (pt_cmpR op_eq (pv 4) (pv 1) (nomark _)) (pv 2) (pe_lst pa_nil))))), ?_⟩
    refine ⟨Nat.zero_le _, fun o no => ⟨_, _, _, rfl, ?_⟩⟩
    have s1 : Same H (upd H o (.lst [])) := same_upd no
    refine ⟨_, rfl, l, rfl, ⟨xs, SqL.of (s1 _ _ hl)⟩, for_list (K := K) (a := l) (xs := xs) (fun i σ H' => ∃ v5 v6, σ = [some (.ref l), some (.int (wd : Int)), some (.ref o), some (.int ((lastC false (rowOf (rs.take i) [])).toNat : Int)), some (.int ((rowOf (rs.take i) []).length : Int)), v5, v6] ∧
      Same H H' ∧ H' o = some (.lst (natsV (chg (rowOf (rs.take i) []))))) ⟨none, none, rfl, s1, upd_same⟩ (fun i σ H' _ ⟨_, _, _, sm, _⟩ => SqL.of (sm _ _ hl)) ?_ ?_⟩
    · rintro i x σ H' hx ⟨v5, v6, rfl, sm, ho⟩
      have hi : i < rs.length := by
        rw [← hp.len]
        exact (List.getElem?_eq_some_iff.mp hx).1
      obtain ⟨⟨c, e⟩, hce⟩ : ∃ p, rs[i]? = some p := ⟨_, List.getElem?_eq_getElem hi⟩
      obtain ⟨t, h1, h2⟩ := hp.pair i c e hce
      rw [hx] at h1
      cases h1
      have hro := rowOf_take hce
      obtain ⟨g1, g2⟩ := chg_run (rowOf (rs.take i) []) e c
      have g3 := run_len (rowOf (rs.take i) []) e c
      rw [← hro] at g1 g2 g3
      refine ⟨t, _, rfl, .inl (.inl (sm _ _ h2)), rfl, _, _, rfl, _, _, rfl, rfl, ?_⟩
      have hle := rowOf_take_le rs i
      generalize rowOf (rs.take i) [] = r at *
      generalize rowOf (rs.take (i + 1)) [] = r2 at *
      refine ⟨fun σ H' => σ = [some (.ref l), some (.int (wd : Int)), some (.ref o), some (.int ((lastC false r2).toNat : Int)), some (.int (r.length : Int)), some (.int (c.toNat : Int)), some (.int (e : Int))] ∧ Same H H' ∧ H' o = some (.lst (natsV (chg r2))), ?_, ?_⟩
      · refine ⟨_, rfl, _, rfl, _, _, rfl, rfl, _, rfl, ?_⟩
        by_cases hg : r.length < e
        · refine if_yes (by omega) ?_
          refine ⟨_, rfl, _, rfl, rfl, _, rfl, ?_⟩
          rw [bool_int_ne]
          by_cases hc : c ≠ lastC false r
          · refine if_yes hc ?_
            refine ⟨_, rfl, .inl ⟨rfl, _, .inl (.inl ho)⟩, _, rfl, o, _, _, rfl, rfl, ho, ?_, ?_⟩
            · rw [List.length_map]
              have := chg_len r
              rw [sizeLine_eq]
              omega
            · refine ⟨_, rfl, ?_⟩
              rw [if_pos ⟨hg, hc⟩] at g1 g2
              refine ⟨?_, ?_, ?_⟩
              · rw [g2]
                rfl
              · intro b u hb
                rw [upd_ne (ne_of_none hb no)]
                exact sm b u hb
              · rw [g1, ← natsV_snoc]
                exact upd_same
          · refine if_no hc ?_
            rw [if_neg (fun z => hc z.2)] at g1 g2
            rw [g1, g2]
            exact ⟨rfl, sm, ho⟩
        · refine if_no (by omega) ?_
          rw [if_neg (fun z => hg z.1)] at g1 g2
          rw [g1, g2]
          exact ⟨rfl, sm, ho⟩
      · rintro σ H2 ⟨rfl, sm2, ho2⟩
        refine ⟨_, rfl, _, rfl, _, _, rfl, some (.int (c.toNat : Int)), some (.int (e : Int)), ?_, sm2, ho2⟩
        show [_, _, _, _, some (V.int (if (e : Int) > (r.length : Int) then (e : Int) else (r.length : Int))), _, _] = _
        have : (if (e : Int) > (r.length : Int) then (e : Int) else (r.length : Int)) = (r2.length : Int) := by
          rw [g3]
          split <;> omega
        rw [this]
    · rintro σ H' ⟨v5, v6, rfl, sm, ho⟩
      rw [hp.len, List.take_length] at ho
      rw [hp.len, List.take_length]
      refine ⟨_, rfl, _, rfl, rfl, _, rfl, ?_⟩
      by_cases hw : (rowOf rs []).length = wd
      · refine if_yes (congrArg V.int (by omega)) ?_
        refine ⟨_, rfl, q H' o sm no ?_⟩
        unfold rowIs
        rw [if_pos hw]
        exact ho
      · refine if_no (fun z => hw (by have := V.int.inj z; omega)) ?_
        refine ⟨Nat.zero_le _, fun p np => q _ p (sm.trans (same_upd np)) (sm.free np) ?_⟩
        unfold rowIs
        rw [if_neg hw]
        exact upd_same
end
end Fax2
set_option Elab.async false
set_option linter.all false
set_option maxRecDepth 100000
set_option maxHeartbeats 4000000
namespace Fax2
open PySem PySem.Spec PyProof.Rows L2 Fax
/-! ### the error -/
def fltF (n m : Int) : List (Str × V) := [("place", .int m), ("number", .int n)]
def spFlI (K : PySem.W.Frag) (C : Addr) : Sp := fun vs H Q _ => ∃ (p : Addr) (n m : Int), vs = [.ref p, .int n, .int m] ∧ H p = some (exo p C none) ∧
  ∀ (H' : Hp) (dx : Addr), H dx = none → H' p = some (exo p C (some dx)) → H' dx = some (exd dx (fltF n m)) → Q .non H'
structure FlT (K : PySem.W.Frag) (mg : Str → Option Value) (C fI : Addr) : Prop where
  ox : OexC K C
  nN : PySem.W.findIn K (.ref C) "number" = some none
  nP : PySem.W.findIn K (.ref C) "place" = some none
  iC : PySem.W.findIn K (.ref C) "__init__" = some (some (.ref fI))
  tI : PySem.W.typeIn K (.ref fI) = some (.type "function")
  g : mg "Fault" = some (.ref C)
theorem scFlI : FnScope ["self", "number", "place"] ["self", "number", "place"] (defScope sFlI) := ⟨rfl, rfl, rfl, by decide +kernel, rfl, by decide +kernel, by decide +kernel⟩
section
variable {P : Program} {w : World} {K : PySem.W.Frag} {mg : Str → Option Value} {base : Heap} {C fI : Addr}
theorem ok_flI {fd : FuncData} (F : Fun K "__init__" "Fault.__init__" sFlI fI fd) (TF : FlT K mg C fI) : FnOk P w K mg base CX0 1 fI fd ["self", "number", "place"] (spFlI K C) := by
  refine F.ok scFlI (fun vs H Q E h => ?_) (fun cdv A outer s H vs Q E hr h => ?_)
  · obtain ⟨p, n, m, rfl, _⟩ := h
    rfl
  · obtain ⟨p, n, m, rfl, hp, q⟩ := h
    refine ⟨_, pss_cons (ps_ost (pv 0) (pv 1)) (pss_one (ps_ost (pv 0) (pv 2))), ?_⟩
    refine ⟨_, rfl, _, rfl, p, C, rfl, TF.ox, TF.nN, .inl ⟨hp, fun dx hdx ne => ?_⟩⟩
    refine ⟨_, rfl, _, rfl, p, C, rfl, TF.ox, TF.nP, .inr ⟨dx, [("number", .int n)], upd_same, ?_, (by show 1 ≤ 900; decide), ?_⟩⟩
    · rw [upd_ne ne]
      exact upd_same
    · refine q _ dx hdx ?_ upd_same
      rw [upd_ne (Ne.symm ne)]
      exact upd_same
/-- raising it: what the promise of the error gives -/
theorem mkF {n m : Int} {H : Hp} {Q : XK} (h : ∀ (H' : Hp) (d : Addr), H' d = some (.xd (fltF n m)) → Q (.ref C) (some d) H') : ([V.int n, V.int m] : List V).length ≤ 1000 ∧ ∀ a, H a = none → spFlI K C (.ref a :: ([V.int n, V.int m] ++ [])) (upd H a (exo a C none))
    (fun v H2 => v = .non ∧ ∃ (d : Addr) (fs : List (Str × V)), H2 a = some (exo a C (some d)) ∧ H2 d = some (exd d fs) ∧ H d = none ∧ Q (.ref C) (some d) (upd (del H2 a) d (.xd fs))) (fun _ _ _ => False) := by
  refine ⟨by show 2 ≤ 1000; decide, fun a na => ⟨a, n, m, rfl, upd_same, fun H' dx hdx h1 h2 => ⟨rfl, dx, fltF n m, h1, h2, ?_, h _ dx upd_same⟩⟩⟩
  by_cases z : dx = a
  · rw [z, upd_same] at hdx
    cases hdx
  · rw [upd_ne z] at hdx
    exact hdx
end
/-- what an error of the specification says of the exception -/
def Err (C : Addr) (len : Nat) (E : XK) (e : Nat × Nat) : Prop := ∀ (H' : Hp) (d : Addr), H' d = some (.xd (fltF (-10 - (e.1 : Int)) ((len - e.2 : Nat) : Int))) → E (.ref C) (some d) H'
/-- how a reading ends -/
def Fin1 {α : Type} (x : Ql31.R α) (ok : α → Ql31.Bits → Prop) (er : Nat × Nat → Prop) : Prop := match x with
  | .ok (v, r) => ok v r
  | .error e => er e
theorem Fin1.ok {α : Type} {x : Ql31.R α} {f : α → Ql31.Bits → Prop} {er : Nat × Nat → Prop} {v : α} {r : Ql31.Bits} (h : Fin1 x f er) (e : x = .ok (v, r)) : f v r := by
  subst e
  exact h
theorem Fin1.err {α : Type} {x : Ql31.R α} {f : α → Ql31.Bits → Prop} {er : Nat × Nat → Prop} {z : Nat × Nat} (h : Fin1 x f er) (e : x = .error z) : er z := by
  subst e
  exact h
theorem Fin1.of {α : Type} {x : Ql31.R α} {f : α → Ql31.Bits → Prop} {er : Nat × Nat → Prop} (h1 : ∀ v r, x = .ok (v, r) → f v r) (h2 : ∀ z, x = .error z → er z) : Fin1 x f er := by
  cases x with
  | ok y => exact h1 y.1 y.2 rfl
  | error z => exact h2 z rfl
/-! ### the reader -/
/-- what of a reader stays: its objects, what it was made with -/
structure RdE where
  dx : Addr
  tl : Addr
  bl : Addr
  t : Nat → Addr
  g : Nat → Addr
  kind : Nat
  w : Nat
  most : Nat
  bits : Ql31.Bits
def rdF (e : RdE) (pl : Nat) : List (Str × V) := [("kind", .int (e.kind : Int)), ("width", .int (e.w : Int)), ("most", .int (e.most : Int)), ("bits", .str (T e.bits)), ("place", .int (pl : Int)), ("tables", .ref e.tl), ("begun", .ref e.bl)]
theorem rdF_kind (e : RdE) (pl : Nat) : (rdF e pl).lookup ("kind" : Str) = some (.int (e.kind : Int)) := lk_here
theorem rdF_w (e : RdE) (pl : Nat) : (rdF e pl).lookup ("width" : Str) = some (.int (e.w : Int)) := (lk_past (by decide +kernel)).trans lk_here
theorem rdF_most (e : RdE) (pl : Nat) : (rdF e pl).lookup ("most" : Str) = some (.int (e.most : Int)) := (lk_past (by decide +kernel)).trans ((lk_past (by decide +kernel)).trans lk_here)
theorem rdF_bits (e : RdE) (pl : Nat) : (rdF e pl).lookup ("bits" : Str) = some (.str (T e.bits)) := (lk_past (by decide +kernel)).trans ((lk_past (by decide +kernel)).trans ((lk_past (by decide +kernel)).trans lk_here))
theorem rdF_place (e : RdE) (pl : Nat) : (rdF e pl).lookup ("place" : Str) = some (.int (pl : Int)) := (lk_past (by decide +kernel)).trans ((lk_past (by decide +kernel)).trans ((lk_past (by decide +kernel)).trans ((lk_past (by decide +kernel)).trans lk_here)))
theorem rdF_tables (e : RdE) (pl : Nat) : (rdF e pl).lookup ("tables" : Str) = some (.ref e.tl) := (lk_past (by decide +kernel)).trans ((lk_past (by decide +kernel)).trans ((lk_past (by decide +kernel)).trans ((lk_past (by decide +kernel)).trans ((lk_past (by decide +kernel)).trans lk_here))))
theorem rdF_begun (e : RdE) (pl : Nat) : (rdF e pl).lookup ("begun" : Str) = some (.ref e.bl) := (lk_past (by decide +kernel)).trans ((lk_past (by decide +kernel)).trans ((lk_past (by decide +kernel)).trans ((lk_past (by decide +kernel)).trans ((lk_past (by decide +kernel)).trans ((lk_past (by decide +kernel)).trans lk_here)))))
theorem rdF_out (e : RdE) (pl : Nat) (m : Str) (h : (["kind", "width", "most", "bits", "place", "tables", "begun"] : List Str).all (fun x => !(m == x)) = true) : (rdF e pl).lookup m = none := by
  have h' : ∀ x ∈ (["kind", "width", "most", "bits", "place", "tables", "begun"] : List Str), (m == x) = false := fun x hx => by
    have := List.all_eq_true.mp h x hx
    simpa using this
  unfold rdF
  rw [lk_past (h' "kind" (by simp)), lk_past (h' "width" (by simp)), lk_past (h' "most" (by simp)), lk_past (h' "bits" (by simp)), lk_past (h' "place" (by simp)), lk_past (h' "tables" (by simp)), lk_past (h' "begun" (by simp))]
  rfl
theorem rdF_put (e : RdE) (pl y : Nat) {z : Int} (h : z = (y : Int)) : putF "place" (.int z) (rdF e pl) = rdF e y := by
  subst h
  unfold rdF
  rw [put_past (by decide +kernel), put_past (by decide +kernel), put_past (by decide +kernel), put_past (by decide +kernel), put_here]
/-- what a code stands for -/
def valM : Nat → Int → V
  | 0, z => .int z
  | 1, z => .int z
  | _, z => if z = 10 then .str "0001" else if z = 11 then .str "001" else .int z
def tabM : Nat → Tab
  | 0 => codL false
  | 1 => codL true
  | _ => wayL
theorem tabM_pf (i : Nat) : pfB (tabM i) = true := match i with
  | 0 => codL_pf false
  | 1 => codL_pf true
  | _ + 2 => wayL_pf
def TabOf (kvs : List (Key × V)) (m : Tab) (f : Int → V) : Prop := (∀ z k, (z, k) ∈ m → valV kvs (.inr (T k)) = some (f z)) ∧ ∀ k : Ql31.Bits, (∀ z, (z, k) ∉ m) → valV kvs (.inr (T k)) = none
def BegOf (kvs : List (Key × V)) (m : Tab) : Prop := ∀ k : Ql31.Bits, (valV kvs (.inr (T k))).isSome = true ↔ Begun m k
structure Rdr (C : Addr) (e : RdE) (H : Hp) (a : Addr) (b : Ql31.Bits) : Prop where
  le : b.length ≤ e.bits.length
  suf : e.bits.drop (e.bits.length - b.length) = b
  obj : H a = some (.ins C e.dx (rdF e (e.bits.length - b.length)))
  tls : H e.tl = some (.lst [.ref (e.t 0), .ref (e.t 1), .ref (e.t 2)])
  bls : H e.bl = some (.lst [.ref (e.g 0), .ref (e.g 1), .ref (e.g 2)])
  tab : ∀ i, i < 3 → ∃ kvs, H (e.t i) = some (.dK kvs) ∧ TabOf kvs (tabM i) (valM i)
  beg : ∀ i, i < 3 → ∃ kvs, H (e.g i) = some (.dK kvs) ∧ BegOf kvs (tabM i)
  small : e.bits.length ≤ 1000000
  w0 : 0 < e.w
  w1 : e.w ≤ 16384
  m1 : e.most ≤ 16384
theorem Rdr.keep {C : Addr} {e : RdE} {H H' : Hp} {a : Addr} {b : Ql31.Bits} (h : Rdr C e H a b) (k : Same H H') : Rdr C e H' a b :=
  { h with obj := k _ _ h.obj, tls := k _ _ h.tls, bls := k _ _ h.bls, tab := fun i hi => let ⟨kvs, h1, h2⟩ := h.tab i hi; ⟨kvs, k _ _ h1, h2⟩, beg := fun i hi => let ⟨kvs, h1, h2⟩ := h.beg i hi; ⟨kvs, k _ _ h1, h2⟩ }
/-- the reader goes on: n bits more are read -/
theorem Rdr.go {C : Addr} {e : RdE} {H H' : Hp} {a : Addr} {b : Ql31.Bits} (h : Rdr C e H a b) (k : But a H H') (n : Nat) (hn : n ≤ b.length) (ho : H' a = some (.ins C e.dx (rdF e (e.bits.length - b.length + n)))) : Rdr C e H' a (b.drop n) := by
  have n1 : ∀ x, H e.tl = some x → e.tl ≠ a := fun x _ => ne_of h.tls h.obj (by intro z; cases z)
  have hl : (b.drop n).length = b.length - n := List.length_drop
  have e1 : e.bits.length - (b.drop n).length = e.bits.length - b.length + n := by
    have := h.le
    rw [hl]
    omega
  refine { h with le := by have := h.le; omega, suf := ?_, obj := by rw [e1]; exact ho, tls := k _ _ (ne_of h.tls h.obj (by intro z; cases z)) h.tls, bls := k _ _ (ne_of h.bls h.obj (by intro z; cases z)) h.bls, tab := fun i hi => ?_, beg := fun i hi => ?_ }
  · rw [e1, ← List.drop_drop, h.suf]
  · obtain ⟨kvs, h1, h2⟩ := h.tab i hi
    exact ⟨kvs, k _ _ (ne_of h1 h.obj (by intro z; cases z)) h1, h2⟩
  · obtain ⟨kvs, h1, h2⟩ := h.beg i hi
    exact ⟨kvs, k _ _ (ne_of h1 h.obj (by intro z; cases z)) h1, h2⟩
/-- all but the reader is kept -/
theorem Rdr.but {C : Addr} {e : RdE} {H H' : Hp} {a x : Addr} {b : Ql31.Bits} {xs : List V} (h : Rdr C e H a b) (k : But a H H') (hx : H x = some (.tup xs)) : H' x = some (.tup xs) := k _ _ (ne_of hx h.obj (by intro z; cases z)) hx
/-- a piece of the bits -/
theorem cut_T (b : Ql31.Bits) (i j : Nat) (h1 : i ≤ j) (h2 : j ≤ b.length) : cutS (T b) (some (i : Int)) (some (j : Int)) = T ((b.drop i).take (j - i)) := by
  apply str_ext
  show ((T b).cps.toList.drop (HT.sIx (T b).length 0 (some (i : Int)))).take (HT.sIx (T b).length (T b).length (some (j : Int)) - HT.sIx (T b).length 0 (some (i : Int))) = Fax.signs ((b.drop i).take (j - i))
  rw [HT.sIx_nat, HT.sIx_nat, T_len, Nat.min_eq_left h2, Nat.min_eq_left (by omega), T_list]
  unfold Fax.signs
  rw [List.map_take, List.map_drop]
/-- what the top has written of Reader -/
structure RdT (K : PySem.W.Frag) (mg : Str → Option Value) (C : Addr) : Prop where
  cl : Cls K C
  nK : NoAttr K C "kind"
  nW : NoAttr K C "width"
  nM : NoAttr K C "most"
  nB : NoAttr K C "bits"
  nP : NoAttr K C "place"
  nT : NoAttr K C "tables"
  nG : NoAttr K C "begun"
  g : mg "Reader" = some (.ref C)
end Fax2
set_option Elab.async false
set_option linter.all false
set_option maxRecDepth 100000
set_option maxHeartbeats 4000000
namespace Fax2
open PySem PySem.Spec PyProof.Rows L2 Fax
def spCode (C CF : Addr) : Sp := fun vs H Q E => ∃ (a : Addr) (i : Nat) (e : RdE) (b : Ql31.Bits), vs = [.ref a, .int (i : Int)] ∧ i < 3 ∧ Rdr C e H a b ∧
  Fin1 (codeB (tabM i) b) (fun z r => ∀ H' : Hp, But a H H' → Rdr C e H' a r → Q (valM i z) H') (Err CF e.bits.length E)
theorem scCode : FnScope ["self", "number", "table", "begun", "begin", "end", "piece"] ["self", "number"] (defScope sCode) := ⟨rfl, rfl, rfl, by decide +kernel, rfl, by decide +kernel, by decide +kernel⟩
theorem get3 {α : Type} {f : Nat → α} {i : Nat} (h : i < 3) : [f 0, f 1, f 2][i]? = some (f i) := match i, h with
  | 0, _ => rfl
  | 1, _ => rfl
  | 2, _ => rfl
theorem Err.raise {C : Addr} {len n m : Nat} {E : XK} {z y : Int} (h : Err C len E (n, m)) (hz : -10 - (n : Int) = z) (hy : ((len - m : Nat) : Int) = y) : ∀ (H' : Hp) (d : Addr), H' d = some (.xd (fltF z y)) → E (.ref C) (some d) H' := by
  subst hz
  subst hy
  exact h
section
variable {P : Program} {w : World} {K : PySem.W.Frag} {mg : Str → Option Value} {base : Heap} {C CF fF : Addr}
theorem ok_code {f : Addr} {fd fdF : FuncData} (F : Fun K "code" "Reader.code" sCode f fd) (TX : Txt K mg) (TR : RdT K mg C) (TF : FlT K mg CF fF) (GF : FnOk P w K mg base CX0 1 fF fdF ["self", "number", "place"] (spFlI K CF)) (bF : Binds K fdF ["self", "number", "place"] []) :
    FnOk P w K mg base (L2.CX P w) 3 f fd ["self", "number"] (spCode C CF) := by
  refine F.okX scCode (fun vs H Q E h => ?_) (fun cdv A outer s H vs Q E hr h => ?_)
  · obtain ⟨a, i, e, b, rfl, _⟩ := h
    rfl
  · obtain ⟨a, i, e, b, rfl, hi, hR, q⟩ := h
    have hu := hu_of hr
    obtain ⟨tcut, mcut⟩ := TX.cut
    obtain ⟨tnc, mnc⟩ := TX.noCode
    refine ⟨_, pss_cons (ps_par3 (i := 2) (j := 3) (l := 4) rfl scCode.nd rfl rfl rfl (by decide) (by decide) (by decide) rfl rfl rfl (pa_cons (pe_ix ix_list (pe_fld (pv 0) rfl) (pv 1) (fun _ _ => rfl)) (pa_cons (pe_ix ix_list (pe_fld (pv 0) rfl) (pv 1) (fun _ _ => rfl)) (pa_cons (pe_fld (pv 0) rfl) pa_nil))) (by rfl))
      (pss_cons (ps_set (i := 5) scCode.nd rfl (.inl rfl) (pv 4))
      (pss_cons (ps_while (passes_of rfl) (pt_cmp (pc_din hu (pe_slice sl_str (pe_fld (pv 0) rfl) (po_some (pv 4)) (po_some (pv 5))) (pv 3)))
        (pss_cons (ps_if (pt_cmpR op_eq (pv 5) (pe_callB call_len_str (by rfl) TX.len PySem.boot_len (pa_cons (pe_fld (pv 0) rfl) pa_nil)) (nomark _))
            (pss_one (ps_raise rfl (takes_of rfl rfl rfl rfl) (pmk_oex TF.ox TF.iC TF.tI GF hr bF .nil pass0 rfl TF.g (pa_cons (pe_glob rfl mcut (rel_int _ _)) (pa_cons (pv 4) pa_nil))))) pss_nil)
          (pss_one (ps_set (i := 5) scCode.nd rfl (.inl rfl) (pe_op op_add (pv 5) pe_int)))))
      (pss_cons (ps_set (i := 6) scCode.nd rfl (.inl rfl) (pe_slice sl_str (pe_fld (pv 0) rfl) (po_some (pv 4)) (po_some (pv 5))))
      (pss_cons (ps_if (pt_cmp (pc_dnotin hu (pv 6) (pv 2)))
          (pss_one (ps_raise rfl (takes_of rfl rfl rfl rfl) (pmk_oex TF.ox TF.iC TF.tI GF hr bF .nil pass0 rfl TF.g (pa_cons (pe_glob rfl mnc (rel_int _ _)) (pa_cons (pv 4) pa_nil))))) pss_nil)
      (pss_cons (ps_fld (pv 0) (pv 5) rfl)
      (pss_one (ps_ret (pe_dget hu (pv 2) (pv 6) (fun _ _ => rfl))))))))), ?_⟩
    have ho := hR.obj
    have hsuf := hR.suf
    have hle := hR.le
    generalize hpl : e.bits.length - b.length = pl at ho hsuf
    obtain ⟨kt, ht1, ht2⟩ := hR.tab i hi
    obtain ⟨kb, hb1, hb2⟩ := hR.beg i hi
    have hsz : (T e.bits).length ≤ sizeLine := by
      have := hR.small
      rw [T_len, sizeLine_eq]
      omega
    have hkey : ∀ k, k ≤ b.length → cutS (T e.bits) (some (pl : Int)) (some ((pl + k : Nat) : Int)) = T (b.take k) := fun k hk => by
      rw [cut_T _ _ _ (by omega) (by omega), hsuf]
      congr 2
      omega
    refine ⟨_, rfl, a, C, e.dx, _, _, rfl, ho, TR.cl, TR.nT, rdF_tables _ _, _, rfl, e.tl, _, _, _, rfl, rfl, SqL.of hR.tls, at_of rfl (get3 (f := fun j => V.ref (e.t j)) hi), ?_⟩
    refine ⟨_, rfl, a, C, e.dx, _, _, rfl, ho, TR.cl, TR.nG, rdF_begun _ _, _, rfl, e.bl, _, _, _, rfl, rfl, SqL.of hR.bls, at_of rfl (get3 (f := fun j => V.ref (e.g j)) hi), ?_⟩
    refine ⟨_, rfl, a, C, e.dx, _, _, rfl, ho, TR.cl, TR.nP, rdF_place _ _, _, _, _, rfl, ?_⟩
    refine ⟨_, rfl, ?_⟩
    refine ⟨fun m σ H' => ∃ k, H' = H ∧ m = b.length - k ∧ k ≤ b.length ∧ σ = [some (.ref a), some (.int (i : Int)), some (.ref (e.t i)), some (.ref (e.g i)), some (.int (pl : Int)), some (.int ((pl + k : Nat) : Int)), none] ∧ ∀ j, j < k → Begun (tabM i) (b.take j),
      ⟨b.length, 0, rfl, rfl, Nat.zero_le _, rfl, fun j hj => absurd hj (Nat.not_lt_zero _)⟩, ?_⟩
    rintro m σ H' ⟨k, rfl, rfl, hk, rfl, hbg⟩
    refine ⟨_, rfl, a, C, e.dx, _, _, rfl, ho, TR.cl, TR.nB, rdF_bits _ _, _, rfl, _, rfl, _, rfl, _, rfl, _, rfl, hsz, _, rfl, _, _, rfl, DGet.k (kvs := kb) (k := .inr _) hb1, _, rfl, ?_⟩
    rw [hkey k hk]
    by_cases hB : Begun (tabM i) (b.take k)
    · refine if_true_of ((hb2 _).mpr hB) ?_
      refine ⟨_, fun _ _ h => h, ?_⟩
      refine ⟨_, rfl, _, rfl, a, C, e.dx, _, _, rfl, ho, TR.cl, TR.nB, rdF_bits _ _, _, rfl, hsz, rfl, _, rfl, ?_⟩
      rw [T_len]
      by_cases hkl : k = b.length
      · refine if_yes (congrArg V.int (by omega)) ?_
        rw [hkl, List.take_length] at hB
        exact ⟨_, rfl, mkF ((q.err (code_cut (tabM_pf i) hB)).raise (by decide) (by rw [hpl]))⟩
      · refine if_no (fun z => hkl (by have := V.int.inj z; omega)) ?_
        refine ⟨_, rfl, _, _, rfl, rfl, ?_⟩
        refine ⟨b.length - (k + 1), by omega, k + 1, rfl, rfl, by omega, ?_, fun j hj => ?_⟩
        · exact congrArg (fun z => [some (V.ref a), some (V.int (i : Int)), some (V.ref (e.t i)), some (V.ref (e.g i)), some (V.int (pl : Int)), some (V.int z), none]) (by omega : ((pl + k : Nat) : Int) + 1 = ((pl + (k + 1) : Nat) : Int))
        · rcases Nat.lt_or_eq_of_le (Nat.le_of_lt_succ hj) with z | z
          · exact hbg j z
          · rw [z]
            exact hB
    · refine if_false_of (Bool.eq_false_iff.mpr fun z => hB ((hb2 _).mp z)) ?_
      refine ⟨_, rfl, a, C, e.dx, _, _, rfl, ho, TR.cl, TR.nB, rdF_bits _ _, _, rfl, _, rfl, _, rfl, _, rfl, _, rfl, hsz, ?_⟩
      rw [hkey k hk]
      refine ⟨_, rfl, _, rfl, _, _, rfl, DGet.k (kvs := kt) (k := .inr _) ht1, _, rfl, ?_⟩
      by_cases hm : ∃ z, (z, b.take k) ∈ tabM i
      · obtain ⟨z, hz⟩ := hm
        have hv := ht2.1 _ _ hz
        refine if_false_of (by rw [hv]; rfl) ?_
        refine ⟨_, rfl, _, rfl, a, C, e.dx, _, rfl, ho, TR.cl, TR.nP, (by show 7 < 1000; decide), ?_⟩
        refine ⟨_, rfl, _, rfl, e.t i, valM i z, rfl, .inl ⟨kt, .inr _, .inl ?_, rfl, hv.symm⟩, ?_⟩
        · rw [upd_ne (ne_of ht1 ho (by intro z; cases z))]
          exact ht1
        · refine q.ok (code_hit (tabM_pf i) hk hz) _ but_upd ?_
          refine hR.go but_upd k hk ?_
          rw [hpl]
          exact upd_same.trans (congrArg (fun z => some (HO.ins C e.dx z)) (rdF_put e pl (pl + k) rfl))
      · have hno : ∀ z, (z, b.take k) ∉ tabM i := fun z hz => hm ⟨z, hz⟩
        refine if_true_of (by rw [ht2.2 _ hno]; rfl) ?_
        exact ⟨_, rfl, mkF ((q.err (code_miss hbg (tabM_pf i) hB hno)).raise (by decide) (by rw [hpl]))⟩
end
end Fax2
set_option Elab.async false
set_option linter.all false
set_option maxRecDepth 100000
set_option maxHeartbeats 4000000
namespace Fax2
open PySem PySem.Spec PyProof.Rows L2 Fax
theorem readRun_le (d : Bool) : ∀ (k most n : Nat) (b : Ql31.Bits) (m : Nat) (r : Ql31.Bits), Ql31.readRun d k most n b = .ok (m, r) → n ≤ m ∧ m ≤ most
  | 0, most, n, b, m, r, h => by cases h
  | k + 1, most, n, b, m, r, h => by
    cases hc : codeB (codL d) b with
    | error x =>
      rw [readRun_err hc] at h
      cases h
    | ok y =>
      obtain ⟨z, t⟩ := y
      obtain ⟨c, hz⟩ := code_mem hc
      obtain ⟨j, rfl, _⟩ := codL_nat hz
      rw [readRun_ok hc] at h
      by_cases h1 : most < n + j
      · rw [if_pos h1] at h
        cases h
      · rw [if_neg h1] at h
        by_cases h2 : j < 64
        · rw [if_pos h2] at h
          cases h
          omega
        · rw [if_neg h2] at h
          have := readRun_le d k most (n + j) t m r h
          omega
theorem tabM_d (d : Bool) : tabM d.toNat = codL d := by cases d <;> rfl
theorem valM_d (d : Bool) (z : Int) : valM d.toNat z = .int z := by cases d <;> rfl
theorem toNat_lt3 (d : Bool) : d.toNat < 3 := by cases d <;> decide
def spRun (C CF : Addr) : Sp := fun vs H Q E => ∃ (a : Addr) (d : Bool) (g : Nat) (e : RdE) (b : Ql31.Bits), vs = [.ref a, .int (d.toNat : Int), .int (g : Int)] ∧ g ≤ e.w ∧ Rdr C e H a b ∧
  Fin1 (Ql31.readRun d (e.w + 2) (e.w - g) 0 b) (fun n r => ∀ H' : Hp, But a H H' → Rdr C e H' a r → Q (.int ((g + n : Nat) : Int)) H') (Err CF e.bits.length E)
theorem scRun : FnScope ["self", "colour", "begin", "end", "is_done", "where", "length"] ["self", "colour", "begin"] (defScope sRun) := ⟨rfl, rfl, rfl, by decide +kernel, rfl, by decide +kernel, by decide +kernel⟩
section
variable {P : Program} {w : World} {K : PySem.W.Frag} {mg : Str → Option Value} {base : Heap} {C CF fF fC : Addr}
theorem ok_run {f : Addr} {fd fdF fdC : FuncData} (F : Fun K "run" "Reader.run" sRun f fd) (TX : Txt K mg) (TR : RdT K mg C) (TF : FlT K mg CF fF) (GF : FnOk P w K mg base CX0 1 fF fdF ["self", "number", "place"] (spFlI K CF)) (bF : Binds K fdF ["self", "number", "place"] [])
    (mC : Meth K C "code" fC) (GC : FnOk P w K mg base (L2.CX P w) 3 fC fdC ["self", "number"] (spCode C CF)) (bC : Binds K fdC ["self", "number"] []) :
    FnOk P w K mg base (L2.CX P w) 4 f fd ["self", "colour", "begin"] (spRun C CF) := by
  refine F.okX scRun (fun vs H Q E h => ?_) (fun cdv A outer s H vs Q E hr h => ?_)
  · obtain ⟨a, d, g, e, b, rfl, _⟩ := h
    rfl
  · obtain ⟨a, d, g, e, b, rfl, hg, hR, q⟩ := h
    have hr2 : Room 2 _ := hr.mono (by decide)
    obtain ⟨tnl, mnl⟩ := TX.notLet
    obtain ⟨tst, mst⟩ := TX.step
    refine ⟨_, pss_cons (ps_par (i := 3) (j := 4) rfl scRun.nd rfl rfl (by decide) rfl rfl (pa_cons (pv 2) (pa_cons pe_bl pa_nil)) (by rfl))
      (pss_cons (ps_while (passes_of rfl) (pt_not (pt_val (pv 4)))
        (pss_cons (ps_set (i := 5) scRun.nd rfl (.inl rfl) (pe_fld (pv 0) rfl))
        (pss_cons (ps_set (i := 6) scRun.nd rfl (.inl rfl) (pe_meth (pv 0) TR.cl mC GC hr bC .nil (passes_call (takes_of rfl rfl rfl rfl) fun _ _ _ _ h => h) (pa_cons (pv 1) pa_nil)))
        (pss_cons (ps_set (i := 3) scRun.nd rfl (.inl rfl) (pe_op op_add (pv 3) (pv 6)))
        (pss_cons (ps_if (pt_cmpR op_gt (pv 3) (pe_fld (pv 0) rfl) (nomark _))
            (pss_one (ps_raise rfl (takes_of rfl rfl rfl rfl) (pmk_oex TF.ox TF.iC TF.tI GF hr2 bF .nil pass0 rfl TF.g (pa_cons (pe_glob rfl mnl (rel_int _ _)) (pa_cons (pv 5) pa_nil))))) pss_nil)
        (pss_one (ps_set (i := 4) scRun.nd rfl (.inl rfl) (pe_cmpR op_lt (pv 6) (pe_glob rfl mst (rel_int _ _)) (nomark _)))))))))
      (pss_one (ps_ret (pv 3)))), ?_⟩
    refine ⟨_, rfl, _, _, rfl, ?_⟩
    refine ⟨fun m σ H' => ∃ (n : Nat) (b' : Ql31.Bits) (dn : Bool) (v5 v6 : Option V), σ = [some (.ref a), some (.int (d.toNat : Int)), some (.int (g : Int)), some (.int ((g + n : Nat) : Int)), some (.bl dn), v5, v6] ∧ But a H H' ∧ Rdr C e H' a b' ∧ n ≤ e.w - g ∧
      ((dn = false ∧ m = e.w - g - n + 1 ∧ ∃ k, Ql31.readRun d k (e.w - g) n b' = Ql31.readRun d (e.w + 2) (e.w - g) 0 b ∧ e.w + 2 ≤ k + n) ∨ (dn = true ∧ m = 0 ∧ Ql31.readRun d (e.w + 2) (e.w - g) 0 b = .ok (n, b'))),
      ⟨_, 0, b, false, none, none, rfl, But.refl _ _, hR, Nat.zero_le _, .inl ⟨rfl, rfl, e.w + 2, rfl, Nat.le_refl _⟩⟩, ?_⟩
    rintro m σ H' ⟨n, b', dn, v5, v6, rfl, bt, hR', hn, hst⟩
    refine ⟨_, rfl, _, rfl, ?_⟩
    rcases hst with ⟨rfl, rfl, k, hk, hkn⟩ | ⟨rfl, rfl, heq⟩
    · refine if_true_of rfl ?_
      refine ⟨_, fun _ _ h => h, ?_⟩
      obtain ⟨k', rfl⟩ : ∃ k', k = k' + 1 := ⟨k - 1, by omega⟩
      refine ⟨_, rfl, a, C, e.dx, _, _, rfl, hR'.obj, TR.cl, TR.nP, rdF_place _ _, ?_⟩
      refine ⟨_, rfl, a, e.dx, _, rfl, hR'.obj, rdF_out _ _ _ (by decide +kernel), _, rfl, ?_⟩
      refine ⟨a, d.toNat, e, b', rfl, toNat_lt3 d, hR', ?_⟩
      rw [tabM_d]
      refine Fin1.of (fun z r hz => ?_) (fun x hx => ?_)
      · intro H2 bt2 hR2
        rw [valM_d]
        obtain ⟨c, hzc⟩ := code_mem hz
        obtain ⟨j, rfl, _⟩ := codL_nat hzc
        have hstep := readRun_ok (k := k') (most := e.w - g) (n := n) hz
        rw [hk] at hstep
        refine ⟨_, rfl, _, rfl, _, _, rfl, rfl, ?_⟩
        refine ⟨_, rfl, _, rfl, a, C, e.dx, _, _, rfl, hR2.obj, TR.cl, TR.nW, rdF_w _ _, _, _, rfl, rfl, _, rfl, ?_⟩
        by_cases h1 : e.w - g < n + j
        · refine if_yes (by show (e.w : Int) < ((g + n : Nat) : Int) + (j : Int); omega) ?_
          rw [if_pos h1] at hstep
          exact ⟨_, rfl, mkF ((q.err hstep).raise (by decide) rfl)⟩
        · refine if_no (by show ¬ (e.w : Int) < ((g + n : Nat) : Int) + (j : Int); omega) ?_
          rw [if_neg h1] at hstep
          refine ⟨_, rfl, _, _, rfl, rfl, ?_⟩
          by_cases h2 : j < 64
          · rw [if_pos h2] at hstep
            refine ⟨0, by omega, n + j, r, true, some (.int ((e.bits.length - b'.length : Nat) : Int)), some (.int (j : Int)), ?_, bt.trans bt2, hR2, by omega, .inr ⟨rfl, rfl, hstep⟩⟩
            show [_, _, _, some (V.int (((g + n : Nat) : Int) + (j : Int))), some (V.bl (decide ((j : Int) < 64))), _, _] = _
            rw [decide_eq_true (by omega : (j : Int) < 64), (by omega : ((g + n : Nat) : Int) + (j : Int) = ((g + (n + j) : Nat) : Int))]
          · rw [if_neg h2] at hstep
            refine ⟨e.w - g - (n + j) + 1, by omega, n + j, r, false, some (.int ((e.bits.length - b'.length : Nat) : Int)), some (.int (j : Int)), ?_, bt.trans bt2, hR2, by omega, .inl ⟨rfl, rfl, k', hstep.symm, by omega⟩⟩
            show [_, _, _, some (V.int (((g + n : Nat) : Int) + (j : Int))), some (V.bl (decide ((j : Int) < 64))), _, _] = _
            rw [decide_eq_false (by omega : ¬ (j : Int) < 64), (by omega : ((g + n : Nat) : Int) + (j : Int) = ((g + (n + j) : Nat) : Int))]
      · have hstep := readRun_err (k := k') (most := e.w - g) (n := n) hx
        rw [hk] at hstep
        exact q.err hstep
    · refine if_false_of rfl ?_
      exact ⟨_, rfl, q.ok heq _ bt hR'⟩
end
end Fax2
set_option Elab.async false
set_option linter.all false
set_option maxRecDepth 100000
set_option maxHeartbeats 4000000
namespace Fax2
open PySem PySem.Spec PyProof.Rows L2 Fax
/-- what is laid beside the reader leaves it as it is -/
theorem Rdr.over {C : Addr} {e : RdE} {H H1 H2 : Hp} {a l : Addr} {b0 b : Ql31.Bits} (h0 : Rdr C e H a b0) (nl : H l = none) (h : Rdr C e H1 a b) (k : But l H1 H2) : Rdr C e H2 a b :=
  { h with
    obj := k _ _ (ne_of_none h0.obj nl) h.obj
    tls := k _ _ (ne_of_none h0.tls nl) h.tls
    bls := k _ _ (ne_of_none h0.bls nl) h.bls
    tab := fun i hi => let ⟨_, h1, _⟩ := h0.tab i hi; let ⟨kvs, h3, h4⟩ := h.tab i hi; ⟨kvs, k _ _ (ne_of_none h1 nl) h3, h4⟩
    beg := fun i hi => let ⟨_, h1, _⟩ := h0.beg i hi; let ⟨kvs, h3, h4⟩ := h.beg i hi; ⟨kvs, k _ _ (ne_of_none h1 nl) h3, h4⟩ }
theorem tup_but {l : Addr} {H H' : Hp} {xs ys : List V} {t : Addr} (k : But l H H') (hl : H l = some (.lst xs)) (ht : H t = some (.tup ys)) : H' t = some (.tup ys) := k _ _ (ne_of ht hl (by intro z; cases z)) ht
/-- a further pair is appended to the runs -/
theorem runs_add {H : Hp} {l t : Addr} {xs : List V} {rs : List (Bool × Nat)} {c : Bool} {n : Nat} (hl : H l = some (.lst xs)) (hp : Prs H xs rs) (nt : H t = none) :
    But l H (upd (upd H t (.tup [.int (c.toNat : Int), .int (n : Int)])) l (.lst (xs ++ [.ref t]))) ∧ (upd (upd H t (.tup [.int (c.toNat : Int), .int (n : Int)])) l (.lst (xs ++ [.ref t]))) l = some (.lst (xs ++ [.ref t])) ∧
      Prs (upd (upd H t (.tup [.int (c.toNat : Int), .int (n : Int)])) l (.lst (xs ++ [.ref t]))) (xs ++ [.ref t]) (rs ++ [(c, n)]) := by
  have hlt : l ≠ t := ne_of_none hl nt
  refine ⟨fun b o hb e => ?_, upd_same, ?_⟩
  · rw [upd_ne hb, upd_ne (ne_of_none e nt)]
    exact e
  · refine Prs.snoc (hp.keep fun x ys hx => ?_) ?_
    · rw [upd_ne (ne_of hx hl (by intro z; cases z)), upd_ne (ne_of_none hx nt)]
      exact hx
    · rw [upd_ne (Ne.symm hlt)]
      exact upd_same
theorem but_none {a p : Addr} {H H' : Hp} {o : HO} (bt : But a H H') (ha : H' a = some o) (np : H' p = none) : H p = none := by
  cases hx : H p with
  | none => rfl
  | some x =>
    have hpa : p ≠ a := fun z => by rw [z, ha] at np; cases np
    rw [bt p x hpa hx] at np
    cases np
def spAlone (C CF : Addr) : Sp := fun vs H Q E => ∃ (a : Addr) (e : RdE) (b : Ql31.Bits), vs = [.ref a] ∧ Rdr C e H a b ∧
  Fin1 (Ql31.readAlone e.w (e.w + 4) false [] b) (fun row r => ∀ (H' : Hp) (p : Addr), row.length = e.w → But a H H' → Rdr C e H' a r → H p = none → H' p = some (.lst (natsV (chg row))) → Q (.ref p) H') (Err CF e.bits.length E)
theorem scAlone : FnScope ["self", "runs", "end", "colour"] ["self"] (defScope sAlone) := ⟨rfl, rfl, rfl, by decide +kernel, rfl, by decide +kernel, by decide +kernel⟩
theorem one_minus (d : Bool) : (1 : Int) - (d.toNat : Int) = (((!d).toNat : Nat) : Int) := by cases d <;> rfl
section
variable {P : Program} {w : World} {K : PySem.W.Frag} {mg : Str → Option Value} {base : Heap} {C CF fF fR fD : Addr}
theorem ok_alone {f : Addr} {fd fdF fdR fdD : FuncData} (F : Fun K "row_alone" "Reader.row_alone" sAlone f fd) (TX : Txt K mg) (TR : RdT K mg C) (TF : FlT K mg CF fF) (GF : FnOk P w K mg base CX0 1 fF fdF ["self", "number", "place"] (spFlI K CF)) (bF : Binds K fdF ["self", "number", "place"] [])
    (mR : Meth K C "run" fR) (GR : FnOk P w K mg base (L2.CX P w) 4 fR fdR ["self", "colour", "begin"] (spRun C CF)) (bR : Binds K fdR ["self", "colour", "begin"] [])
    (GD : FnOk P w K mg base CX0 1 fD fdD ["runs", "width"] (spChd K)) (gD : mg "changed" = some (.ref fD)) (kD : PySem.W.keepIn K (.ref fD) = true) (bD : Binds K fdD ["runs", "width"] []) :
    FnOk P w K mg base (L2.CX P w) 5 f fd ["self"] (spAlone C CF) := by
  refine F.okX scAlone (fun vs H Q E h => ?_) (fun cdv A outer s H vs Q E hr h => ?_)
  · obtain ⟨a, e, b, rfl, _⟩ := h
    rfl
  · obtain ⟨a, e, b, rfl, hR, q⟩ := h
    have hr2 : Room 2 _ := hr.mono (by decide)
    have hr1 : Room 1 _ := hr.mono (by decide)
    obtain ⟨tnl, mnl⟩ := TX.notLet
    obtain ⟨tmr, mmr⟩ := TX.moreRuns
    refine ⟨_, pss_cons (ps_par3 (i := 1) (j := 2) (l := 3) rfl scAlone.nd rfl rfl rfl (by decide) (by decide) (by decide) rfl rfl rfl (pa_cons (pe_lst pa_nil) (pa_cons pe_int (pa_cons pe_int pa_nil))) (by rfl))
      (pss_cons (ps_while (passes_of rfl) (pt_cmpR op_lt (pv 2) (pe_fld (pv 0) rfl) (nomark _))
        (pss_cons (ps_set (i := 2) scAlone.nd rfl (.inl rfl) (pe_meth (pv 0) TR.cl mR GR hr bR .nil (passes_call (takes_of rfl rfl rfl rfl) fun _ _ _ _ h => h) (pa_cons (pv 3) (pa_cons (pv 2) pa_nil))))
        (pss_cons (ps_expr (pe_bm PySem.F.plainAttrs_list PySem.F.slot_list_append PySem.F.type_list_append mt_append (pv 1) (pa_cons (pe_tup (pa_cons (pv 3) (pa_cons (pv 2) pa_nil))) pa_nil)))
        (pss_cons (ps_set (i := 3) scAlone.nd rfl (.inl rfl) (pe_op op_sub pe_int (pv 3)))
        (pss_one (ps_if (pt_cmpR op_gt (pe_callB call_len_seq (by rfl) TX.len PySem.boot_len (pa_cons (pv 1) pa_nil)) (pe_op op_add (pe_fld (pv 0) rfl) (pe_glob rfl mmr (rel_int _ _))) (nomark _))
            (pss_one (ps_raise rfl (takes_of rfl rfl rfl rfl) (pmk_oex TF.ox TF.iC TF.tI GF hr2 bF .nil pass0 rfl TF.g (pa_cons (pe_glob rfl mnl (rel_int _ _)) (pa_cons (pe_fld (pv 0) rfl) pa_nil))))) pss_nil)))))
      )
      (pss_one (ps_ret (pe_call GD hr1 rfl gD kD bD .nil pass0 (pa_cons (pv 1) (pa_cons (pe_fld (pv 0) rfl) pa_nil)))))), ?_⟩
    refine ⟨Nat.zero_le _, fun l nl => ⟨_, _, _, rfl, ?_⟩⟩
    have hw0 := hR.w0
    have hw1 := hR.w1
    have s0 : Same H (upd H l (.lst [])) := same_upd nl
    have nla : l ≠ a := (ne_of_none hR.obj nl).symm
    refine ⟨fun m σ H' => ∃ (d : Bool) (rs : List (Bool × Nat)) (b' : Ql31.Bits) (xs : List V), σ = [some (.ref a), some (.ref l), some (.int ((rowOf rs []).length : Int)), some (.int (d.toNat : Int))] ∧ But a H H' ∧ Rdr C e H' a b' ∧ H' l = some (.lst xs) ∧ Prs H' xs rs ∧
      (rowOf rs []).length ≤ e.w ∧ m + rs.length = e.w + 4 ∧ 1 ≤ m ∧ Ql31.readAlone e.w m d (rowOf rs []) b' = Ql31.readAlone e.w (e.w + 4) false [] b,
      ⟨e.w + 4, false, [], b, [], rfl, s0.but, hR.keep s0, upd_same, ⟨rfl, fun i c e h => by simp at h⟩, Nat.zero_le _, rfl, by omega, rfl⟩, ?_⟩
    rintro m σ H' ⟨d, rs, b', xs, rfl, bt, hR', hl, hp, hlen, hm, hm1, heq⟩
    refine ⟨_, rfl, _, rfl, a, C, e.dx, _, _, rfl, hR'.obj, TR.cl, TR.nW, rdF_w _ _, _, _, rfl, rfl, _, rfl, ?_⟩
    obtain ⟨k, rfl⟩ : ∃ k, m = k + 1 := ⟨m - 1, by omega⟩
    by_cases hlt : (rowOf rs []).length < e.w
    · refine if_yes (by omega) ?_
      refine ⟨_, fun _ _ h => h, ?_⟩
      have hstep := readAlone_step (k := k) (d := d) (b := b') hlt
      rw [heq] at hstep
      refine ⟨_, rfl, a, e.dx, _, rfl, hR'.obj, rdF_out _ _ _ (by decide +kernel), _, rfl, _, rfl, ?_⟩
      refine ⟨a, d, (rowOf rs []).length, e, b', rfl, hlen, hR', Fin1.of (fun n r hz => ?_) (fun x hx => ?_)⟩
      · intro H2 bt2 hR2
        rw [hz] at hstep
        obtain ⟨_, hnw⟩ := readRun_le _ _ _ _ _ _ _ hz
        have hl2 : H2 l = some (.lst xs) := bt2 _ _ nla hl
        have hp2 : Prs H2 xs rs := hp.keep fun t ys ht => hR'.but bt2 ht
        have hro : rowOf (rs ++ [(d, (rowOf rs []).length + n)]) [] = rowOf rs [] ++ List.replicate n d := by
          rw [rowOf_snoc, Nat.add_sub_cancel_left]
        refine ⟨_, rfl, .inl ⟨rfl, _, .inl (.inl hl2)⟩, _, rfl, _, rfl, (by show 2 ≤ sizeLine; decide), fun t nt => ?_⟩
        obtain ⟨bt3, hl3, hp3⟩ := runs_add (c := d) (n := (rowOf rs []).length + n) hl2 hp2 nt
        have hR3 := hR.over nl hR2 bt3
        refine ⟨l, xs, _, rfl, rfl, ?_, ?_, ?_⟩
        · rw [upd_ne (ne_of_none hl2 nt)]
          exact hl2
        · rw [hp.len, sizeLine_eq]
          omega
        have bt4 : But a H (upd (upd H2 t (.tup [.int (d.toNat : Int), .int (((rowOf rs []).length + n : Nat) : Int)])) l (.lst (xs ++ [.ref t]))) := fun x o hx hxo => bt3 x o (ne_of_none hxo nl) (bt2 x o hx (bt x o hx hxo))
        generalize upd (upd H2 t (.tup [.int (d.toNat : Int), .int (((rowOf rs []).length + n : Nat) : Int)])) l (.lst (xs ++ [.ref t])) = H3 at bt3 hl3 hp3 hR3 bt4
        refine ⟨_, rfl, _, _, rfl, rfl, ?_⟩
        refine ⟨_, rfl, l, _, rfl, .inl (SqL.of hl3), _, rfl, a, C, e.dx, _, _, rfl, hR3.obj, TR.cl, TR.nW, rdF_w _ _, _, _, rfl, rfl, _, _, rfl, rfl, _, rfl, ?_⟩
        have hxl : (xs ++ [V.ref t]).length = rs.length + 1 := by rw [List.length_append, hp.len]; rfl
        rw [hxl]
        by_cases hmore : e.w + 3 < rs.length + 1
        · refine if_yes (by show (e.w : Int) + 3 < ((rs.length + 1 : Nat) : Int); omega) ?_
          have hk0 : k = 0 := by omega
          subst hk0
          refine ⟨_, rfl, a, C, e.dx, _, _, rfl, hR3.obj, TR.cl, TR.nP, rdF_place _ _, mkF ((q.err hstep).raise (by decide) rfl)⟩
        · refine if_no (by show ¬ (e.w : Int) + 3 < ((rs.length + 1 : Nat) : Int); omega) ?_
          refine ⟨k, by omega, !d, rs ++ [(d, (rowOf rs []).length + n)], r, xs ++ [.ref t], ?_, bt4, hR3, hl3, hp3, ?_, ?_, by omega, ?_⟩
          · rw [hro, List.length_append, List.length_replicate, ← one_minus]
            rfl
          · rw [hro, List.length_append, List.length_replicate]
            omega
          · rw [List.length_append]
            show k + (rs.length + 1) = _
            omega
          · rw [hro]
            exact hstep.symm
      · rw [hx] at hstep
        exact q.err hstep
    · refine if_no (by omega) ?_
      have hfin : (rowOf rs []).length = e.w := by omega
      rw [readAlone_done hfin hw0] at heq
      refine ⟨_, rfl, _, rfl, a, C, e.dx, _, _, rfl, hR'.obj, TR.cl, TR.nW, rdF_w _ _, ?_⟩
      refine ⟨l, e.w, xs, rs, rfl, hl, hp, by omega, fun H2 p sm np hp2 => ?_⟩
      unfold rowIs at hp2
      rw [if_pos hfin] at hp2
      exact q.ok heq.symm _ p hfin (bt.trans sm.but) (hR'.keep sm) (but_none bt hR'.obj np) hp2
end
end Fax2
set_option Elab.async false
set_option linter.all false
set_option maxRecDepth 100000
set_option maxHeartbeats 4000000
namespace Fax2
open PySem PySem.Spec PyProof.Rows L2 Fax
theorem chainF {p : Prop} [Decidable p] {y z : Int} {v : V} (hv : v = .int y) {tc : TE} {σ : L2.St} {H : Hp} {Q : V → Hp → Prop} (htc : ∀ R : V → Hp → Prop, R (.int z) H → tc σ H R) (h1 : p ∧ y ≤ z → Q (.bl true) H) (h2 : ¬ (p ∧ y ≤ z) → Q (.bl false) H) :
    if decide p = true then tc σ H (fun w' H4 => rI0 (fun i j => .bl (decide (i ≤ j))) v w' H4 Q) else Q (.bl false) H := by
  subst hv
  refine if_dec (fun hp => htc _ ⟨y, z, rfl, rfl, ?_⟩) (fun hp => h2 fun h => hp h.1)
  by_cases q : y ≤ z
  · show Q (.bl (decide (y ≤ z))) H
    rw [decide_eq_true q]
    exact h1 ⟨hp, q⟩
  · show Q (.bl (decide (y ≤ z))) H
    rw [decide_eq_false q]
    exact h2 fun h => q h.2
/-- two pairs more -/
theorem runs_add2 {H : Hp} {l t t' q : Addr} {xs : List V} {rs : List (Bool × Nat)} {c c' : Bool} {n n' : Nat} (hl : H l = some (.lst xs)) (hp : Prs H xs rs) (nt : H t = none) (nt' : upd H t (.tup [.int (c.toNat : Int), .int (n : Int)]) t' = none)
    (nq : upd (upd H t (.tup [.int (c.toNat : Int), .int (n : Int)])) t' (.tup [.int (c'.toNat : Int), .int (n' : Int)]) q = none) :
    But l H (upd (upd (upd (upd H t (.tup [.int (c.toNat : Int), .int (n : Int)])) t' (.tup [.int (c'.toNat : Int), .int (n' : Int)])) q (.lst [.ref t, .ref t'])) l (.lst (xs ++ [.ref t, .ref t']))) ∧
      (upd (upd (upd (upd H t (.tup [.int (c.toNat : Int), .int (n : Int)])) t' (.tup [.int (c'.toNat : Int), .int (n' : Int)])) q (.lst [.ref t, .ref t'])) l (.lst (xs ++ [.ref t, .ref t']))) l = some (.lst (xs ++ [.ref t, .ref t'])) ∧
      Prs (upd (upd (upd (upd H t (.tup [.int (c.toNat : Int), .int (n : Int)])) t' (.tup [.int (c'.toNat : Int), .int (n' : Int)])) q (.lst [.ref t, .ref t'])) l (.lst (xs ++ [.ref t, .ref t']))) (xs ++ [.ref t, .ref t']) (rs ++ [(c, n), (c', n')]) := by
  have sA : Same H (upd (upd (upd H t (.tup [.int (c.toNat : Int), .int (n : Int)])) t' (.tup [.int (c'.toNat : Int), .int (n' : Int)])) q (.lst [.ref t, .ref t'])) := (same_upd nt).trans ((same_upd nt').trans (same_upd nq))
  have h1 : (upd (upd (upd H t (.tup [.int (c.toNat : Int), .int (n : Int)])) t' (.tup [.int (c'.toNat : Int), .int (n' : Int)])) q (.lst [.ref t, .ref t'])) t = some (.tup [.int (c.toNat : Int), .int (n : Int)]) := same_upd nq _ _ (same_upd nt' _ _ upd_same)
  have h2 : (upd (upd (upd H t (.tup [.int (c.toNat : Int), .int (n : Int)])) t' (.tup [.int (c'.toNat : Int), .int (n' : Int)])) q (.lst [.ref t, .ref t'])) t' = some (.tup [.int (c'.toNat : Int), .int (n' : Int)]) := same_upd nq _ _ upd_same
  have hl2 := sA _ _ hl
  generalize (upd (upd (upd H t (.tup [.int (c.toNat : Int), .int (n : Int)])) t' (.tup [.int (c'.toNat : Int), .int (n' : Int)])) q (.lst [.ref t, .ref t'])) = H2 at sA h1 h2 hl2
  have kp : ∀ x ys, H2 x = some (.tup ys) → upd H2 l (.lst (xs ++ [.ref t, .ref t'])) x = some (.tup ys) := fun x ys hx => by
    rw [upd_ne (ne_of hx hl2 (by intro z; cases z))]
    exact hx
  refine ⟨fun b o hb e => ?_, upd_same, ?_⟩
  · rw [upd_ne hb]
    exact sA _ _ e
  · have p1 : Prs (upd H2 l (.lst (xs ++ [.ref t, .ref t']))) xs rs := hp.keep fun x ys hx => kp _ _ (sA _ _ hx)
    have p2 := (p1.snoc (kp _ _ h1)).snoc (kp _ _ h2)
    rw [List.append_assoc, List.append_assoc] at p2
    exact p2
def spBy (C CF : Addr) : Sp := fun vs H Q E => ∃ (a bf : Addr) (e : RdE) (b : Ql31.Bits) (above : Ql31.Row), vs = [.ref a, .ref bf] ∧ Rdr C e H a b ∧ above.length = e.w ∧ H bf = some (.lst (natsV (chg above))) ∧
  Fin1 (Ql31.readBeside e.w above (2 * e.w + 4) (-1) false [] b) (fun row r => ∀ (H' : Hp) (p : Addr), row.length = e.w → But a H H' → Rdr C e H' a r → H p = none → H' p = some (.lst (natsV (chg row))) → Q (.ref p) H') (Err CF e.bits.length E)
theorem scBy : FnScope ["self", "before", "above", "runs", "place", "colour", "where", "way", "first", "second", "begin", "one"] ["self", "before"] (defScope sBy) := ⟨rfl, rfl, rfl, by decide +kernel, rfl, by decide +kernel, by decide +kernel⟩
section
variable {P : Program} {w : World} {K : PySem.W.Frag} {mg : Str → Option Value} {base : Heap} {C CF CA fF fR fC fD fI fA fB : Addr}
theorem ok_by {f : Addr} {fd fdF fdR fdC fdD fdI fdB : FuncData} (F : Fun K "row_by" "Reader.row_by" sBy f fd) (TX : Txt K mg) (TR : RdT K mg C) (TF : FlT K mg CF fF) (TA : AbT K mg CA fI fA fB) (GF : FnOk P w K mg base CX0 1 fF fdF ["self", "number", "place"] (spFlI K CF)) (bF : Binds K fdF ["self", "number", "place"] [])
    (mR : Meth K C "run" fR) (GR : FnOk P w K mg base (L2.CX P w) 4 fR fdR ["self", "colour", "begin"] (spRun C CF)) (bR : Binds K fdR ["self", "colour", "begin"] [])
    (mC : Meth K C "code" fC) (GC : FnOk P w K mg base (L2.CX P w) 3 fC fdC ["self", "number"] (spCode C CF)) (bC : Binds K fdC ["self", "number"] [])
    (GI : FnOk P w K mg base CX0 1 fI fdI ["self", "changes", "width"] (spAbI CA)) (bI : Binds K fdI ["self", "changes", "width"] []) (GB : FnOk P w K mg base CX0 2 fB fdB ["self", "place", "colour"] (spBoth CA)) (bB : Binds K fdB ["self", "place", "colour"] [])
    (GD : FnOk P w K mg base CX0 1 fD fdD ["runs", "width"] (spChd K)) (gD : mg "changed" = some (.ref fD)) (kD : PySem.W.keepIn K (.ref fD) = true) (bD : Binds K fdD ["runs", "width"] []) :
    FnOk P w K mg base (L2.CX P w) 5 f fd ["self", "before"] (spBy C CF) := by
  refine F.okX scBy (fun vs H Q E h => ?_) (fun cdv A outer s H vs Q E hr h => ?_)
  · obtain ⟨a, bf, e, b, above, rfl, _⟩ := h
    rfl
  · obtain ⟨a, bf, e, b, above, rfl, hR, hab, hbf, q⟩ := h
    have hr3 : Room 3 _ := hr.mono (by decide)
    have hr2 : Room 2 _ := hr.mono (by decide)
    have hr1 : Room 1 _ := hr.mono (by decide)
    obtain ⟨tnl, mnl⟩ := TX.notLet
    obtain ⟨tp, mp⟩ := TX.pass
    obtain ⟨tac, mac⟩ := TX.across
    refine ⟨_, pss_cons (ps_asg (pe_tup (pa_cons (pe_make TA.mkr GI hr2 rfl TA.g bI .nil pass0 (pa_cons (pv 1) (pa_cons (pe_fld (pv 0) rfl) pa_nil))) (pa_cons (pe_lst pa_nil) (pa_cons (pe_un un_neg pe_int) (pa_cons pe_int pa_nil)))))
        (pg_tup rfl (pgs_cons (pg_name (i := 2) scBy.nd rfl (.inl rfl)) (pgs_cons (pg_name (i := 3) scBy.nd rfl (.inl rfl)) (pgs_cons (pg_name (i := 4) scBy.nd rfl (.inl rfl)) (pgs_cons (pg_name (i := 5) scBy.nd rfl (.inl rfl)) pgs_nil))))))
      (pss_cons (ps_while (passes_of rfl) (pt_cmpR op_lt (pv 4) (pe_fld (pv 0) rfl) (nomark _))
        (pss_cons (ps_set (i := 6) scBy.nd rfl (.inl rfl) (pe_fld (pv 0) rfl))
        (pss_cons (ps_set (i := 7) scBy.nd rfl (.inl rfl) (pe_meth (pv 0) TR.cl mC GC hr3 bC .nil (passes_call (takes_of rfl rfl rfl rfl) fun _ _ _ _ h => h) (pa_cons pe_int pa_nil)))
        (pss_cons (ps_asg (pe_meth (pv 2) TA.cl TA.mBoth GB hr2 bB .nil pass0 (pa_cons (pv 4) (pa_cons (pv 5) pa_nil))) (pg_tup rfl (pgs_cons (pg_name (i := 8) scBy.nd rfl (.inl rfl)) (pgs_cons (pg_name (i := 9) scBy.nd rfl (.inl rfl)) pgs_nil))))
        (pss_one (ps_if (pt_cmpR op_eq (pv 7) (pe_glob rfl mp (rel_str _ _)) (nomark _))
          (pss_cons (ps_if (pt_cmpR op_eq (pv 9) (pe_fld (pv 0) rfl) (nomark _))
              (pss_one (ps_raise rfl (takes_of rfl rfl rfl rfl) (pmk_oex TF.ox TF.iC TF.tI GF hr2 bF .nil pass0 rfl TF.g (pa_cons (pe_glob rfl mnl (rel_int _ _)) (pa_cons (pv 6) pa_nil))))) pss_nil)
          (pss_cons (ps_set (i := 4) scBy.nd rfl (.inl rfl) (pv 9))
          (pss_one (ps_expr (pe_bm PySem.F.plainAttrs_list PySem.F.slot_list_append PySem.F.type_list_append mt_append (pv 3) (pa_cons (pe_tup (pa_cons (pv 5) (pa_cons (pv 4) pa_nil))) pa_nil))))))
          (pss_one (ps_if (pt_cmpR op_eq (pv 7) (pe_glob rfl mac (rel_str _ _)) (nomark _))
            (pss_cons (ps_set (i := 10) scBy.nd rfl (.inl rfl) (pe_callB (call_max2 rfl) (by rfl) TX.max (by decide +kernel) (pa_cons (pv 4) (pa_cons pe_int pa_nil))))
            (pss_cons (ps_set (i := 11) scBy.nd rfl (.inl rfl) (pe_meth (pv 0) TR.cl mR GR hr bR .nil (passes_call (takes_of rfl rfl rfl rfl) fun _ _ _ _ h => h) (pa_cons (pv 5) (pa_cons (pv 10) pa_nil))))
            (pss_cons (ps_set (i := 4) scBy.nd rfl (.inl rfl) (pe_meth (pv 0) TR.cl mR GR hr bR .nil (passes_call (takes_of rfl rfl rfl rfl) fun _ _ _ _ h => h) (pa_cons (pe_op op_sub pe_int (pv 5)) (pa_cons (pv 11) pa_nil))))
            (pss_cons (ps_if (pt_cmpR op_eq (pv 4) (pv 10) (nomark _))
              (pss_one (ps_raise rfl (takes_of rfl rfl rfl rfl) (pmk_oex TF.ox TF.iC TF.tI GF hr2 bF .nil pass0 rfl TF.g (pa_cons (pe_glob rfl mnl (rel_int _ _)) (pa_cons (pv 6) pa_nil))))) pss_nil)
            (pss_one (ps_expr (pe_bm PySem.F.plainAttrs_list PySem.F.slot_list_extend PySem.F.type_list_extend mt_extend (pv 3) (pa_cons (pe_lst (pa_cons (pe_tup (pa_cons (pv 5) (pa_cons (pv 11) pa_nil))) (pa_cons (pe_tup (pa_cons (pe_op op_sub pe_int (pv 5)) (pa_cons (pv 4) pa_nil))) pa_nil))) pa_nil))))))))
            (pss_cons (ps_if (pt_not (pt_chain op_lt op_le (pv 4) (pe_op op_add (pv 8) (pv 7)) (pe_fld (pv 0) rfl)))
              (pss_one (ps_raise rfl (takes_of rfl rfl rfl rfl) (pmk_oex TF.ox TF.iC TF.tI GF hr2 bF .nil pass0 rfl TF.g (pa_cons (pe_glob rfl mnl (rel_int _ _)) (pa_cons (pv 6) pa_nil))))) pss_nil)
            (pss_cons (ps_set (i := 4) scBy.nd rfl (.inl rfl) (pe_op op_add (pv 8) (pv 7)))
            (pss_cons (ps_expr (pe_bm PySem.F.plainAttrs_list PySem.F.slot_list_append PySem.F.type_list_append mt_append (pv 3) (pa_cons (pe_tup (pa_cons (pv 5) (pa_cons (pv 4) pa_nil))) pa_nil)))
            (pss_one (ps_set (i := 5) scBy.nd rfl (.inl rfl) (pe_op op_sub pe_int (pv 5))))))))))))))
      )
      (pss_one (ps_ret (pe_call GD hr1 rfl gD kD bD .nil pass0 (pa_cons (pv 3) (pa_cons (pe_fld (pv 0) rfl) pa_nil)))))), ?_⟩
    have hw0 := hR.w0
    have hw1 := hR.w1
    -- above, runs, place, colour = Above(before, self.width), [], -1, 0
    refine ⟨_, rfl, _, rfl, a, C, e.dx, _, _, rfl, hR.obj, TR.cl, TR.nW, rdF_w _ _, ?_⟩
    intro x1 e1 nx1 ne1 nd1
    refine ⟨x1, e1, bf, e.w, rfl, upd_same, fun H1 hx1 k1 => ⟨rfl, ?_⟩⟩
    have s1 : Same H H1 := Same.made nx1 ne1 fun b o e hb => k1 b o hb e
    refine ⟨Nat.zero_le _, fun l nl => ?_⟩
    have nlH : H l = none := s1.free nl
    have nxl : x1 ≠ l := ne_of_none hx1 nl
    refine ⟨_, rfl, (by show 4 ≤ sizeLine; decide), fun t nt => ?_⟩
    refine ⟨t, _, rfl, .inl (.inl upd_same), rfl, _, _, rfl, _, _, rfl, _, _, rfl, _, _, rfl, rfl, ?_⟩
    have s2 : Same H (upd (upd H1 l (.lst [])) t (.tup [.ref x1, .ref l, .int (-1), .int 0])) := s1.trans ((same_upd nl).trans (same_upd nt))
    have hl0 : upd (upd H1 l (.lst [])) t (.tup [.ref x1, .ref l, .int (-1), .int 0]) l = some (.lst []) := same_upd nt _ _ upd_same
    have hx0 : upd (upd H1 l (.lst [])) t (.tup [.ref x1, .ref l, .int (-1), .int 0]) x1 = some (.ins CA e1 (abF bf e.w 0)) := same_upd nt _ _ (same_upd nl _ _ hx1)
    generalize upd (upd H1 l (.lst [])) t (.tup [.ref x1, .ref l, .int (-1), .int 0]) = H3 at s2 hl0 hx0
    have nla : l ≠ a := (ne_of_none hR.obj nlH).symm
    have nxa : x1 ≠ a := (ne_of_none hR.obj nx1).symm
    refine ⟨fun m σ H' => ∃ (p : Int) (d : Bool) (rs : List (Bool × Nat)) (b' : Ql31.Bits) (k : Nat) (xs : List V) (z1 : Nat) (v6 v7 v8 v9 v10 v11 : Option V), σ = [some (.ref a), some (.ref bf), some (.ref x1), some (.ref l), some (.int p), some (.int (d.toNat : Int)), v6, v7, v8, v9, v10, v11] ∧
      But a H H' ∧ Rdr C e H' a b' ∧ H' x1 = some (.ins CA e1 (abF bf e.w z1)) ∧ z1 ≤ (chg above).length ∧ H' l = some (.lst xs) ∧ Prs H' xs rs ∧ -1 ≤ p ∧ p ≤ e.w ∧ ((rowOf rs []).length : Int) = max p 0 ∧ (rs.length : Int) ≤ 2 * (p + 1) ∧
      Ql31.readBeside e.w above k p d (rowOf rs []) b' = Ql31.readBeside e.w above (2 * e.w + 4) (-1) false [] b ∧ 2 * (e.w : Int) + 3 ≤ k + p ∧ m = ((e.w : Int) - p).toNat,
      ⟨_, -1, false, [], b, 2 * e.w + 4, [], 0, none, none, none, none, none, none, rfl, s2.but, hR.keep s2, hx0, Nat.zero_le _, hl0, ⟨rfl, fun i c e h => by simp at h⟩, by omega, by omega, rfl, by decide, rfl, by omega, rfl⟩, ?_⟩
    rintro m σ H' ⟨p, d, rs, b', k, xs, z1, v6, v7, v8, v9, v10, v11, rfl, bt, hR', hx, hz1, hl, hp, hp1, hpw, hlen, hrl, heq, hk, rfl⟩
    refine ⟨_, rfl, _, rfl, a, C, e.dx, _, _, rfl, hR'.obj, TR.cl, TR.nW, rdF_w _ _, _, _, rfl, rfl, _, rfl, ?_⟩
    obtain ⟨k, rfl⟩ : ∃ k', k = k' + 1 := ⟨k - 1, by omega⟩
    by_cases hlt : p < e.w
    · refine if_yes hlt ?_
      have hnw : ¬ (e.w : Int) ≤ p := by omega
      refine ⟨_, fun _ _ h => h, ?_⟩
      refine ⟨_, rfl, a, C, e.dx, _, _, rfl, hR'.obj, TR.cl, TR.nP, rdF_place _ _, ?_⟩
      refine ⟨_, rfl, a, e.dx, _, rfl, hR'.obj, rdF_out _ _ _ (by decide +kernel), ?_⟩
      refine ⟨a, 2, e, b', rfl, by decide, hR', ?_⟩
      refine Fin1.of (fun z r hz => ?_) (fun x hx => ?_)
      · intro H2 bt2 hR2
        obtain ⟨c, hzc⟩ := code_mem hz
        have hcb : codeB wayL b' = .ok (z, r) := hz
        have hl2 : H2 l = some (.lst xs) := bt2 _ _ nla hl
        have hx2 : H2 x1 = some (.ins CA e1 (abF bf e.w z1)) := bt2 _ _ nxa hx
        have hp2 : Prs H2 xs rs := hp.keep fun t ys ht => hR'.but bt2 ht
        have nba : bf ≠ a := ne_of hbf hR.obj (by intro z; cases z)
        have hbf2 : H2 bf = some (.lst (natsV (chg above))) := bt2 _ _ nba (bt _ _ nba hbf)
        refine ⟨_, rfl, x1, e1, _, rfl, hx2, abF_both _ _ _, _, rfl, _, rfl, x1, e1, bf, e.w, z1, chg above, p, d, rfl, hx2, hbf2, chg_sorted _, hz1, fun H4 t1 j1 hS1 bt4 hx4 ht1 => ?_⟩
        refine ⟨t1, _, rfl, .inl (.inl ht1), rfl, _, _, rfl, _, _, rfl, rfl, ?_⟩
        obtain ⟨g1, g2⟩ := both_is above p d j1 hS1
        rw [hab] at g1 g2
        rw [← g1, ← g2]
        have hz4 := hS1.1
        have hR4 := hR.over nx1 hR2 bt4
        have hl4 : H4 l = some (.lst xs) := bt4 _ _ nxl.symm hl2
        have hp4 : Prs H4 xs rs := hp2.keep fun t ys ht => bt4 _ _ (ne_of ht hx2 (by intro z; cases z)) ht
        have btA : But a H H4 := fun y o hy ho => bt4 y o (ne_of_none ho nx1) (bt2 y o hy (bt y o hy ho))
        have q1 := change_gt above p (!d)
        have q2 := change_le above p (!d)
        generalize hb1 : Ql31.change above p (!d) = b1 at q1 q2 ⊢
        have q3 := other_gt above (b1 : Nat) (!d)
        have q4 := other_le above (b1 : Nat) (!d)
        generalize hb2 : Ql31.other above (b1 : Nat) (!d) = b2 at q3 q4 ⊢
        rw [hab] at q1 q2 q3 q4
        have hws : (e.bits.length - b'.length : Nat) = e.bits.length - b'.length := rfl
        -- a further run
        rcases way_cases hzc with rfl | rfl | hzs
        · -- passed over
          have hstep := readBeside_pass (k := k) (d := d) (r := rowOf rs []) hnw hcb hb1 hb2
          rw [heq] at hstep
          refine ⟨_, rfl, rfl, _, rfl, ?_⟩
          refine if_yes rfl ?_
          refine ⟨_, rfl, _, rfl, a, C, e.dx, _, _, rfl, hR4.obj, TR.cl, TR.nW, rdF_w _ _, rfl, _, rfl, ?_⟩
          by_cases hb : b2 = e.w
          · refine if_yes (congrArg V.int (by omega)) ?_
            rw [if_pos (by omega)] at hstep
            exact ⟨_, rfl, mkF ((q.err hstep).raise (by decide) rfl)⟩
          · refine if_no (fun z => hb (by have := V.int.inj z; omega)) ?_
            rw [if_neg (by omega)] at hstep
            refine ⟨_, rfl, ?_⟩
            refine ⟨_, rfl, .inl ⟨rfl, _, .inl (.inl hl4)⟩, _, rfl, _, rfl, (by show 2 ≤ sizeLine; decide), fun t nt => ?_⟩
            obtain ⟨bt5, hl5, hp5⟩ := runs_add (c := d) (n := b2) hl4 hp4 nt
            have hR5 := hR.over nlH hR4 bt5
            have hx5 := bt5 _ _ nxl hx4
            refine ⟨l, xs, _, rfl, rfl, ?_, ?_, ?_⟩
            · rw [upd_ne (ne_of_none hl4 nt)]
              exact hl4
            · rw [hp.len, sizeLine_eq]
              omega
            refine ⟨((e.w : Int) - b2).toNat, by omega, b2, d, rs ++ [(d, b2)], r, k, xs ++ [.ref t], j1, _, _, _, _, _, _, rfl, fun y o hy ho => bt5 y o (ne_of_none ho nlH) (btA y o hy ho), hR5, hx5, hz4, hl5, hp5, by omega, by omega, ?_, ?_, ?_, by omega, rfl⟩
            · rw [rowOf_snoc, run_len]
              omega
            · rw [List.length_append]
              show ((rs.length + 1 : Nat) : Int) ≤ _
              omega
            · rw [rowOf_snoc]
              exact hstep.symm
        · -- across
          have hstep := readBeside_across (k := k) (ab := above) (d := d) (r := rowOf rs []) hnw hcb
          rw [heq] at hstep
          refine ⟨_, rfl, rfl, _, rfl, ?_⟩
          refine if_no (by decide) ?_
          refine ⟨_, rfl, rfl, _, rfl, ?_⟩
          refine if_yes rfl ?_
          refine ⟨_, rfl, _, _, rfl, ?_⟩
          have eb : (if (0 : Int) > p then (0 : Int) else p) = ((rowOf rs []).length : Int) := by
            rw [hlen]
            split <;> omega
          rw [eb]
          refine ⟨_, rfl, a, e.dx, _, rfl, hR4.obj, rdF_out _ _ _ (by decide +kernel), _, rfl, _, rfl, ?_⟩
          refine ⟨a, d, (rowOf rs []).length, e, r, rfl, by omega, hR4, Fin1.of (fun n r1 hn => ?_) (fun x hx => ?_)⟩
          · intro H5 bt5 hR5
            rw [hn] at hstep
            dsimp only at hstep
            obtain ⟨_, hnn⟩ := readRun_le _ _ _ _ _ _ _ hn
            refine ⟨_, rfl, a, e.dx, _, rfl, hR5.obj, rdF_out _ _ _ (by decide +kernel), _, rfl, _, _, rfl, rfl, _, rfl, ?_⟩
            refine ⟨a, !d, (rowOf rs []).length + n, e, r1, ?_, by omega, hR5, ?_⟩
            · show [V.ref a, V.int (1 - (d.toNat : Int)), _] = _
              rw [one_minus]
            rw [← Nat.sub_sub]
            refine Fin1.of (fun m r2 hm => ?_) (fun x hx => ?_)
            · intro H6 bt6 hR6
              rw [hm] at hstep
              dsimp only at hstep
              obtain ⟨_, hmm⟩ := readRun_le _ _ _ _ _ _ _ hm
              refine ⟨_, rfl, _, rfl, rfl, _, rfl, ?_⟩
              have hl6 : H6 l = some (.lst xs) := bt6 _ _ nla (bt5 _ _ nla hl4)
              have hx6 : H6 x1 = some (.ins CA e1 (abF bf e.w j1)) := bt6 _ _ nxa (bt5 _ _ nxa hx4)
              have hp6 : Prs H6 xs rs := (hp4.keep fun t ys ht => hR4.but bt5 ht).keep fun t ys ht => hR5.but bt6 ht
              have btB : But a H H6 := btA.trans (bt5.trans bt6)
              by_cases hnm : n + m = 0
              · refine if_yes (congrArg V.int (by omega)) ?_
                rw [if_pos hnm] at hstep
                exact ⟨_, rfl, mkF ((q.err hstep).raise (by decide) rfl)⟩
              · refine if_no (fun z => hnm (by have := V.int.inj z; omega)) ?_
                rw [if_neg hnm] at hstep
                refine ⟨_, rfl, .inl ⟨rfl, _, .inl (.inl hl6)⟩, _, rfl, _, rfl, (by show 2 ≤ sizeLine; decide), fun t2 nt2 => ?_⟩
                refine ⟨_, rfl, _, _, rfl, rfl, _, rfl, (by show 2 ≤ sizeLine; decide), ?_⟩
                dsimp only
                rw [one_minus]
                refine fun t3 nt3 => ⟨(by show 2 ≤ sizeLine; decide), fun bl nbl => ?_⟩
                obtain ⟨bt7, hl7, hp7⟩ := runs_add2 (c := d) (c' := !d) (n := (rowOf rs []).length + n) (n' := (rowOf rs []).length + n + m) hl6 hp6 nt2 nt3 nbl
                have hR7 := hR.over nlH hR6 bt7
                have hx7 := bt7 _ _ nxl hx6
                have hl6' : (upd (upd (upd H6 t2 (.tup [.int (d.toNat : Int), .int (((rowOf rs []).length + n : Nat) : Int)])) t3 (.tup [.int ((!d).toNat : Int), .int (((rowOf rs []).length + n + m : Nat) : Int)])) bl (.lst [.ref t2, .ref t3])) l = some (.lst xs) := by
                  exact same_upd nbl _ _ (same_upd nt3 _ _ (same_upd nt2 _ _ hl6))
                refine ⟨l, bl, xs, _, rfl, rfl, hl6', upd_same, ?_, ?_⟩
                · rw [hp.len, sizeLine_eq]
                  show rs.length + 2 ≤ _
                  omega
                have ero : rowOf (rs ++ [(d, (rowOf rs []).length + n), (!d, (rowOf rs []).length + n + m)]) [] = rowOf rs [] ++ (List.replicate n d ++ List.replicate m (!d)) := by
                  rw [rowOf_append]
                  show (rowOf rs [] ++ List.replicate _ d) ++ List.replicate (_ - (rowOf rs [] ++ List.replicate _ d).length) (!d) = _
                  rw [Nat.add_sub_cancel_left, List.length_append, List.length_replicate, Nat.add_sub_cancel_left, List.append_assoc]
                have epl : (((rowOf rs []).length + n + m : Nat) : Int) = ((rowOf rs []).length : Int) + n + m := by omega
                refine ⟨((e.w : Int) - (((rowOf rs []).length + n + m : Nat) : Int)).toNat, by omega, (((rowOf rs []).length + n + m : Nat) : Int), d, rs ++ [(d, (rowOf rs []).length + n), (!d, (rowOf rs []).length + n + m)], r2, k, xs ++ [.ref t2, .ref t3], j1, _, _, _, _, _, _, rfl, fun x o hx ho => bt7 x o (ne_of_none ho nlH) (btB x o hx ho), hR7, hx7, hz4, hl7, hp7, by omega, by omega, ?_, ?_, ?_, by omega, rfl⟩
                · rw [ero, List.length_append, List.length_append, List.length_replicate, List.length_replicate]
                  omega
                · rw [List.length_append]
                  show ((rs.length + 2 : Nat) : Int) ≤ _
                  omega
                · rw [ero, epl]
                  exact hstep.symm
            · rw [hx] at hstep
              exact q.err hstep
          · rw [hx] at hstep
            exact q.err hstep
        · -- straight
          have hstep := readBeside_straight (k := k) (d := d) (r := rowOf rs []) hnw hcb (by omega) hb1
          rw [heq] at hstep
          have ev : valM 2 z = .int z := by
            show (if z = 10 then V.str "0001" else if z = 11 then V.str "001" else V.int z) = _
            rw [if_neg (by omega), if_neg (by omega)]
          rw [ev]
          refine ⟨_, rfl, rfl, _, rfl, ?_⟩
          refine if_no (by intro z; cases z) ?_
          refine ⟨_, rfl, rfl, _, rfl, ?_⟩
          refine if_no (by intro z; cases z) ?_
          refine ⟨_, rfl, _, rfl, _, rfl, _, _, rfl, rfl, _, _, rfl, rfl, _, rfl, chainF (y := (b1 : Int) + z) (z := (e.w : Int)) rfl (fun R hQ => ⟨_, rfl, a, C, e.dx, _, _, rfl, hR4.obj, TR.cl, TR.nW, rdF_w _ _, hQ⟩) (fun c3 => ⟨_, rfl, ?_⟩) (fun c3 => ⟨_, rfl, ?_⟩)⟩
          · refine if_false_of rfl ?_
            replace c3 : p < (b1 : Int) + z ∧ (b1 : Int) + z ≤ e.w := c3
            rw [if_neg (by omega)] at hstep
            obtain ⟨y, hy⟩ : ∃ y : Nat, (b1 : Int) + z = (y : Int) := ⟨((b1 : Int) + z).toNat, by omega⟩
            rw [hy, Int.toNat_natCast] at hstep
            refine ⟨_, rfl, _, rfl, _, _, rfl, rfl, ?_⟩
            dsimp only
            rw [hy]
            refine ⟨_, rfl, .inl ⟨rfl, _, .inl (.inl hl4)⟩, _, rfl, _, rfl, (by show 2 ≤ sizeLine; decide), fun t nt => ?_⟩
            obtain ⟨bt5, hl5, hp5⟩ := runs_add (c := d) (n := y) hl4 hp4 nt
            have hR5 := hR.over nlH hR4 bt5
            have hx5 := bt5 _ _ nxl hx4
            refine ⟨l, xs, _, rfl, rfl, ?_, ?_, ?_⟩
            · rw [upd_ne (ne_of_none hl4 nt)]
              exact hl4
            · rw [hp.len, sizeLine_eq]
              omega
            refine ⟨_, rfl, _, _, rfl, rfl, ?_⟩
            dsimp only
            rw [one_minus]
            refine ⟨((e.w : Int) - y).toNat, by omega, y, !d, rs ++ [(d, y)], r, k, xs ++ [.ref t], j1, _, _, _, _, _, _, rfl, fun x o hx ho => bt5 x o (ne_of_none ho nlH) (btA x o hx ho), hR5, hx5, hz4, hl5, hp5, by omega, by omega, ?_, ?_, ?_, by omega, rfl⟩
            · rw [rowOf_snoc, run_len]
              omega
            · rw [List.length_append]
              show ((rs.length + 1 : Nat) : Int) ≤ _
              omega
            · rw [rowOf_snoc]
              exact hstep.symm
          · refine if_true_of rfl ?_
            replace c3 : ¬ (p < (b1 : Int) + z ∧ (b1 : Int) + z ≤ e.w) := c3
            rw [if_pos (by omega)] at hstep
            exact ⟨_, rfl, mkF ((q.err hstep).raise (by decide) rfl)⟩
      · have hstep := readBeside_err (k := k) (ab := above) (d := d) (r := rowOf rs []) hnw hx
        rw [heq] at hstep
        exact q.err hstep
    · refine if_no hlt ?_
      have hfin : (rowOf rs []).length = e.w := by omega
      rw [readBeside_done (by omega)] at heq
      refine ⟨_, rfl, _, rfl, a, C, e.dx, _, _, rfl, hR'.obj, TR.cl, TR.nW, rdF_w _ _, ?_⟩
      refine ⟨l, e.w, xs, rs, rfl, hl, hp, by omega, fun H2 p sm np hp2 => ?_⟩
      unfold rowIs at hp2
      rw [if_pos hfin] at hp2
      exact q.ok heq.symm _ p hfin (bt.trans sm.but) (hR'.keep sm) (but_none bt hR'.obj np) hp2
end
end Fax2
set_option Elab.async false
set_option linter.all false
set_option maxRecDepth 100000
set_option maxHeartbeats 4000000
namespace Fax2
open PySem PySem.Spec PyProof.Rows L2 Fax
/-! ### texts of the bits -/
/-- a piece of the bits, past the end too -/
theorem cut_far (b : Ql31.Bits) (i n : Nat) (h1 : i ≤ b.length) : cutS (T b) (some (i : Int)) (some ((i + n : Nat) : Int)) = T ((b.drop i).take n) := by
  by_cases h : i + n ≤ b.length
  · rw [cut_T b i (i + n) (by omega) h, Nat.add_sub_cancel_left]
  · have e : cutS (T b) (some (i : Int)) (some ((i + n : Nat) : Int)) = cutS (T b) (some (i : Int)) (some ((b.length : Nat) : Int)) := by
      show (⟨((_ : List Nat).toArray)⟩ : Str) = ⟨((_ : List Nat).toArray)⟩
      rw [HT.sIx_nat, HT.sIx_nat, HT.sIx_nat, T_len, Nat.min_eq_right (by omega : b.length ≤ i + n), Nat.min_self]
    rw [e, cut_T b i b.length h1 (Nat.le_refl _), List.take_of_length_le (by rw [List.length_drop]; exact Nat.le_refl _), List.take_of_length_le (by rw [List.length_drop]; omega)]
theorem cut_end (b : Ql31.Bits) (i : Nat) (h1 : i ≤ b.length) : cutS (T b) (some (i : Int)) none = T (b.drop i) := by
  have e : cutS (T b) (some (i : Int)) none = cutS (T b) (some (i : Int)) (some ((b.length : Nat) : Int)) := by
    show (⟨((_ : List Nat).toArray)⟩ : Str) = ⟨((_ : List Nat).toArray)⟩
    rw [HT.sIx_nat, HT.sIx_nat, HT.sIx_none, T_len, Nat.min_self]
  rw [e, cut_T b i b.length h1 (Nat.le_refl _), List.take_of_length_le (by rw [List.length_drop]; exact Nat.le_refl _)]
theorem cut_first (b : Ql31.Bits) (n : Nat) : cutS (T b) none (some (n : Int)) = T (b.take n) := by
  have e : cutS (T b) none (some (n : Int)) = cutS (T b) (some ((0 : Nat) : Int)) (some ((0 + n : Nat) : Int)) := by
    show (⟨((_ : List Nat).toArray)⟩ : Str) = ⟨((_ : List Nat).toArray)⟩
    rw [HT.sIx_nat, HT.sIx_nat, HT.sIx_nat, HT.sIx_none, Nat.zero_add, Nat.zero_min]
  rw [e, cut_far b 0 n (Nat.zero_le _)]
  rfl
def eols (m : Nat) : Ql31.Bits := (List.replicate m Ql31.EOL).flatten
theorem le_T : ("000000000001" : Str) = T Ql31.EOL := by decide +kernel
theorem one_T : ("1" : Str) = ⟨#[49]⟩ := by decide +kernel
theorem mul_T1 : Txt.mul "000000000001" 1 = T (eols 1) := by decide +kernel
theorem mul_T2 : Txt.mul "000000000001" 2 = T (eols 2) := by decide +kernel
theorem eols_len (m : Nat) : (eols m).length = 12 * m := by
  unfold eols
  rw [flat_replicate_len, EOL_len, Nat.mul_comm]
theorem T_eq (a b : Ql31.Bits) : decide (V.str (T a) = V.str (T b)) = decide (a = b) := decide_eq_decide.mpr ⟨fun h => T_inj (V.str.inj h), fun h => by rw [h]⟩
theorem sign_at (b : Ql31.Bits) (v : Nat) (h : v < b.length) : (T b).cps.getD v 0 = if b.getD v false = true then 49 else 48 := by
  show ((Fax.signs b).toArray).getD v 0 = _
  rw [Array.getD_eq_getD_getElem?, List.getElem?_toArray]
  unfold Fax.signs
  rw [List.getElem?_map, List.getD_eq_getElem?_getD, List.getElem?_eq_getElem h]
  rfl
theorem getD_drop (b : Ql31.Bits) (i v : Nat) (d : Bool) : (b.drop i).getD v d = b.getD (i + v) d := by
  rw [List.getD_eq_getElem?_getD, List.getD_eq_getElem?_getD, List.getElem?_drop]
theorem getD_dflt (b : Ql31.Bits) (v : Nat) (h : v < b.length) (d d' : Bool) : b.getD v d = b.getD v d' := by
  rw [List.getD_eq_getElem?_getD, List.getD_eq_getElem?_getD, List.getElem?_eq_getElem h]
  rfl
/-- the next 1 -/
theorem find_T (bits : Ql31.Bits) (pl : Nat) (hpl : pl ≤ bits.length) : Txt.find3 (T bits) ⟨#[49]⟩ (pl : Int) =
    if ((bits.drop pl).takeWhile fun x => x == false).length < (bits.drop pl).length then ((pl + ((bits.drop pl).takeWhile fun x => x == false).length : Nat) : Int) else -1 := by
  have hf : fromIndex (T bits).length (pl : Int) = pl := by
    unfold fromIndex
    rw [if_neg (by omega)]
    omega
  have hlen : (bits.drop pl).length = bits.length - pl := List.length_drop
  have hlt := fun v => tw_lt (bits.drop pl) v
  have hat := tw_at (bits.drop pl)
  have hle := tw_le (bits.drop pl)
  generalize ((bits.drop pl).takeWhile fun x => x == false).length = z at hlt hat hle ⊢
  rcases StrLaws.find3_spec (T bits) 49 (pl : Int) with ⟨h, hn⟩ | ⟨k, h, hlo, hk, hc, hn⟩
  · rw [h]
    rw [hf, T_len] at hn
    by_cases hz : z < (bits.drop pl).length
    · have h1 := hn (pl + z) (by omega) (by omega)
      rw [sign_at _ _ (by omega)] at h1
      have h2 := hat hz
      rw [getD_drop] at h2
      rw [h2] at h1
      exact absurd rfl h1
    · rw [if_neg hz]
  · rw [h]
    rw [hf] at hlo hn
    rw [T_len] at hk
    rw [sign_at _ _ hk] at hc
    have hb : bits.getD k false = true := by
      by_cases q : bits.getD k false = true
      · exact q
      · rw [if_neg q] at hc
        cases hc
    have hkz : pl + z = k := by
      rcases Nat.lt_trichotomy (pl + z) k with q | q | q
      · have h1 := hn (pl + z) (by omega) q
        rw [sign_at _ _ (by omega)] at h1
        have h2 := hat (by omega)
        rw [getD_drop] at h2
        rw [h2] at h1
        exact absurd rfl h1
      · exact q
      · have h1 := hlt (k - pl) (by omega)
        rw [getD_drop, show pl + (k - pl) = k by omega, getD_dflt _ _ hk true false, hb] at h1
        cases h1
    rw [if_pos (by omega), hkz]
/-! ### the small methods -/
def spNext (C : Addr) : Sp := fun vs H Q _ => ∃ (a : Addr) (m : Nat) (e : RdE) (b : Ql31.Bits), vs = [.ref a, .int (m : Int)] ∧ (m = 1 ∨ m = 2) ∧ Rdr C e H a b ∧ Q (.bl ((eols m).isPrefixOf b)) H
theorem scNext : FnScope ["self", "many", "size"] ["self", "many"] (defScope sNext) := ⟨rfl, rfl, rfl, by decide +kernel, rfl, by decide +kernel, by decide +kernel⟩
def spLend (C CF : Addr) : Sp := fun vs H Q E => ∃ (a : Addr) (e : RdE) (b : Ql31.Bits), vs = [.ref a] ∧ Rdr C e H a b ∧
  Fin1 (Ql31.wantEnd b) (fun _ r => ∀ H' : Hp, But a H H' → Rdr C e H' a r → Q .non H') (Err CF e.bits.length E)
theorem scLend : FnScope ["self", "begin", "end"] ["self"] (defScope sLend) := ⟨rfl, rfl, rfl, by decide +kernel, rfl, by decide +kernel, by decide +kernel⟩
def spWhole (C CF : Addr) : Sp := fun vs H Q E => ∃ (a : Addr) (e : RdE) (b : Ql31.Bits), vs = [.ref a] ∧ Rdr C e H a b ∧
  Fin1 (wholeE b) (fun _ r => ∀ H' : Hp, But a H H' → Rdr C e H' a r → Q .non H') (Err CF e.bits.length E)
theorem scWhole : FnScope ["self", "piece", "is_cut"] ["self"] (defScope sWhole) := ⟨rfl, rfl, rfl, by decide +kernel, rfl, by decide +kernel, by decide +kernel⟩
def spOne (C CF : Addr) : Sp := fun vs H Q E => ∃ (a : Addr) (e : RdE) (b : Ql31.Bits), vs = [.ref a] ∧ Rdr C e H a b ∧
  Fin1 (oneE b) (fun x r => ∀ H' : Hp, But a H H' → Rdr C e H' a r → Q (.bl x) H') (Err CF e.bits.length E)
theorem scOne : FnScope ["self"] ["self"] (defScope sOne) := ⟨rfl, rfl, rfl, by decide +kernel, rfl, by decide +kernel, by decide +kernel⟩
def spDue (C CF : Addr) : Sp := fun vs H Q E => ∃ (a : Addr) (e : RdE) (b : Ql31.Bits), vs = [.ref a] ∧ Rdr C e H a b ∧
  Fin1 (dueE b) (fun _ r => ∀ H' : Hp, But a H H' → Rdr C e H' a r → Q .non H') (Err CF e.bits.length E)
theorem scDue : FnScope ["self"] ["self"] (defScope sDue) := ⟨rfl, rfl, rfl, by decide +kernel, rfl, by decide +kernel, by decide +kernel⟩
def spPend (C CF : Addr) : Sp := fun vs H Q E => ∃ (a : Addr) (e : RdE) (b : Ql31.Bits), vs = [.ref a] ∧ Rdr C e H a b ∧
  Fin1 (fiveE (e.kind == 1) 5 b) (fun _ r => ∀ H' : Hp, But a H H' → Rdr C e H' a r → Q .non H') (Err CF e.bits.length E)
theorem scPend : FnScope ["self", "turn"] ["self"] (defScope sPend) := ⟨rfl, rfl, rfl, by decide +kernel, rfl, by decide +kernel, by decide +kernel⟩
def spRest (C CF : Addr) : Sp := fun vs H Q E => ∃ (a : Addr) (e : RdE) (b : Ql31.Bits), vs = [.ref a] ∧ Rdr C e H a b ∧
  Fin1 (Ql31.finished b) (fun _ _ => Q .non H) (Err CF e.bits.length E)
theorem scRest : FnScope ["self", "rest"] ["self"] (defScope sRest) := ⟨rfl, rfl, rfl, by decide +kernel, rfl, by decide +kernel, by decide +kernel⟩
theorem Rdr.sz {C : Addr} {e : RdE} {H : Hp} {a : Addr} {b : Ql31.Bits} (h : Rdr C e H a b) : (T e.bits).length ≤ sizeLine := by
  have := h.small
  rw [T_len, sizeLine_eq]
  omega
theorem Rdr.cut {C : Addr} {e : RdE} {H : Hp} {a : Addr} {b : Ql31.Bits} (h : Rdr C e H a b) (n : Nat) {z : Int} (hz : z = ((e.bits.length - b.length + n : Nat) : Int)) : cutS (T e.bits) (some ((e.bits.length - b.length : Nat) : Int)) (some z) = T (b.take n) := by
  subst hz
  rw [cut_far _ _ _ (Nat.sub_le _ _), h.suf]
/-- the place is put -/
theorem Rdr.put {C : Addr} {e : RdE} {H : Hp} {a : Addr} {b : Ql31.Bits} (h : Rdr C e H a b) (n : Nat) (hn : n ≤ b.length) {z : Int} (hz : z = ((e.bits.length - b.length + n : Nat) : Int)) :
    Rdr C e (upd H a (.ins C e.dx (putF "place" (.int z) (rdF e (e.bits.length - b.length))))) a (b.drop n) := by
  refine h.go but_upd n hn ?_
  exact upd_same.trans (congrArg (fun q => some (HO.ins C e.dx q)) (rdF_put e _ _ hz))
section
variable {P : Program} {w : World} {K : PySem.W.Frag} {mg : Str → Option Value} {base : Heap} {C CF fF : Addr}
theorem ok_next {f : Addr} {fd : FuncData} (F : Fun K "is_end_next" "Reader.is_end_next" sNext f fd) (TX : Txt K mg) (TR : RdT K mg C) : FnOk P w K mg base CX0 1 f fd ["self", "many"] (spNext C) := by
  refine F.ok scNext (fun vs H Q E h => ?_) (fun cdv A outer s H vs Q E hr h => ?_)
  · obtain ⟨a, m, e, b, rfl, _⟩ := h
    rfl
  · obtain ⟨a, m, e, b, rfl, hm, hR, q⟩ := h
    obtain ⟨tle, mle⟩ := TX.le
    refine ⟨_, pss_cons (ps_set (i := 2) scNext.nd rfl (.inl rfl) (pe_op op_mul (pe_callB call_len_str (by rfl) TX.len PySem.boot_len (pa_cons (pe_glob rfl mle (rel_str _ _)) pa_nil)) (pv 1)))
      (pss_one (ps_ret (pe_cmpR op_eq (pe_slice sl_str (pe_fld (pv 0) rfl) (po_some (pe_fld (pv 0) rfl)) (po_some (pe_op op_add (pe_fld (pv 0) rfl) (pv 2)))) (pe_op op_mul_str (pe_glob rfl mle (rel_str _ _)) (pv 1)) (nomark _)))), ?_⟩
    refine ⟨_, rfl, (by decide +kernel), _, rfl, _, _, rfl, rfl, (by unfold CMul; omega), ?_⟩
    refine ⟨_, rfl, a, C, e.dx, _, _, rfl, hR.obj, TR.cl, TR.nB, rdF_bits _ _, _, rfl, a, C, e.dx, _, _, rfl, hR.obj, TR.cl, TR.nP, rdF_place _ _, _, rfl, _, rfl, a, C, e.dx, _, _, rfl, hR.obj, TR.cl, TR.nP, rdF_place _ _, _, rfl, _, _, rfl, rfl, _, rfl, _, rfl, hR.sz, ?_⟩
    refine ⟨_, rfl, _, _, rfl, rfl, by omega, by omega, by decide +kernel, rfl, ?_⟩
    have hl12 : ((("000000000001" : Str).length : Nat) : Int) = 12 := by decide +kernel
    dsimp only
    rw [hl12, hR.cut (12 * m) (by omega)]
    have hmul : Txt.mul "000000000001" (m : Int) = T (eols m) := by
      rcases hm with rfl | rfl
      · exact mul_T1
      · exact mul_T2
    rw [hmul, T_eq]
    have : decide (b.take (12 * m) = eols m) = (eols m).isPrefixOf b := by
      have h := isPre (eols m) b
      rw [eols_len] at h
      cases hp : (eols m).isPrefixOf b with
      | true => exact decide_eq_true (h.mp hp)
      | false => exact decide_eq_false fun z => by rw [h.mpr z] at hp; cases hp
    rw [this]
    exact q
end
end Fax2
set_option Elab.async false
set_option linter.all false
set_option maxRecDepth 100000
set_option maxHeartbeats 4000000
namespace Fax2
open PySem PySem.Spec PyProof.Rows L2 Fax
theorem le_len : ((("000000000001" : Str).length : Nat) : Int) = 12 := by decide +kernel
theorem le_sz : ("000000000001" : Str).length ≤ sizeLine := by decide +kernel
theorem whole_ok {b : Ql31.Bits} (h : b.take 12 = Ql31.EOL) : wholeE b = .ok ((), b.drop 12) ∧ 12 ≤ b.length := by
  have h1 : Ql31.EOL.isPrefixOf b = true := (isPre _ _).mpr (by rw [EOL_len]; exact h)
  refine ⟨?_, ?_⟩
  · unfold wholeE
    rw [if_neg (by rw [h1]; exact Bool.noConfusion)]
  · have := congrArg List.length h
    rw [List.length_take, EOL_len] at this
    omega
theorem not_pre {b : Ql31.Bits} (h : ¬ b.take 12 = Ql31.EOL) : Ql31.EOL.isPrefixOf b = false := by
  cases hp : Ql31.EOL.isPrefixOf b with
  | false => rfl
  | true =>
    have := (isPre _ _).mp hp
    rw [EOL_len] at this
    exact absurd this h
theorem sign_49 (x : Bool) : decide (V.str ⟨#[if x = true then 49 else 48]⟩ = V.str "1") = x := by cases x <;> decide +kernel
section
variable {P : Program} {w : World} {K : PySem.W.Frag} {mg : Str → Option Value} {base : Heap} {C CF fF : Addr}
theorem ok_lend {f : Addr} {fd fdF : FuncData} (F : Fun K "line_end" "Reader.line_end" sLend f fd) (TX : Txt K mg) (TR : RdT K mg C) (TF : FlT K mg CF fF) (GF : FnOk P w K mg base CX0 1 fF fdF ["self", "number", "place"] (spFlI K CF)) (bF : Binds K fdF ["self", "number", "place"] []) :
    FnOk P w K mg base (L2.CX P w) 3 f fd ["self"] (spLend C CF) := by
  refine F.okX scLend (fun vs H Q E h => ?_) (fun cdv A outer s H vs Q E hr h => ?_)
  · obtain ⟨a, e, b, rfl, _⟩ := h
    rfl
  · obtain ⟨a, e, b, rfl, hR, q⟩ := h
    obtain ⟨tle, mle⟩ := TX.le
    obtain ⟨tcut, mcut⟩ := TX.cut
    obtain ⟨tne, mne⟩ := TX.noEnd
    refine ⟨_, pss_cons (ps_set (i := 1) scLend.nd rfl (.inl rfl) (pe_fld (pv 0) rfl))
      (pss_cons (ps_set (i := 2) scLend.nd rfl (.inl rfl) (pe_bm PySem.F.plainAttrs_str PySem.F.slot_str_find PySem.F.type_str_find mt_find3 (pe_fld (pv 0) rfl) (pa_cons pe_str (pa_cons (pv 1) pa_nil))))
      (pss_cons (ps_if (pt_cmpR op_lt (pv 2) pe_int (nomark _)) (pss_one (ps_raise rfl (takes_of rfl rfl rfl rfl) (pmk_oex TF.ox TF.iC TF.tI GF hr bF .nil pass0 rfl TF.g (pa_cons (pe_glob rfl mcut (rel_int _ _)) (pa_cons (pv 1) pa_nil))))) pss_nil)
      (pss_cons (ps_if (pt_cmpR op_lt (pe_op op_sub (pv 2) (pv 1)) (pe_op op_sub (pe_callB call_len_str (by rfl) TX.len PySem.boot_len (pa_cons (pe_glob rfl mle (rel_str _ _)) pa_nil)) pe_int) (nomark _))
        (pss_one (ps_raise rfl (takes_of rfl rfl rfl rfl) (pmk_oex TF.ox TF.iC TF.tI GF hr bF .nil pass0 rfl TF.g (pa_cons (pe_glob rfl mne (rel_int _ _)) (pa_cons (pv 1) pa_nil))))) pss_nil)
      (pss_one (ps_fld (pv 0) (pe_op op_add (pv 2) pe_int) rfl))))), ?_⟩
    refine ⟨_, rfl, a, C, e.dx, _, _, rfl, hR.obj, TR.cl, TR.nP, rdF_place _ _, ?_⟩
    refine ⟨_, rfl, a, C, e.dx, _, _, rfl, hR.obj, TR.cl, TR.nB, rdF_bits _ _, rfl, _, rfl, _, _, _, rfl, rfl, ?_⟩
    rw [one_T, find_T _ _ (Nat.sub_le _ _), hR.suf]
    have hle := tw_le b
    by_cases hz : (b.takeWhile fun x => x == false).length < b.length
    · rw [if_pos hz]
      refine ⟨_, rfl, _, _, rfl, rfl, _, rfl, ?_⟩
      refine if_no (by omega) ?_
      refine ⟨_, rfl, _, rfl, _, _, rfl, rfl, _, rfl, le_sz, _, _, rfl, rfl, _, _, rfl, rfl, _, rfl, ?_⟩
      rw [le_len]
      by_cases h11 : 11 ≤ (b.takeWhile fun x => x == false).length
      · refine if_no (by omega) ?_
        refine ⟨_, rfl, _, _, rfl, rfl, _, rfl, a, C, e.dx, _, rfl, hR.obj, TR.cl, TR.nP, (by show 7 < 1000; decide), ?_⟩
        refine q.ok (want_ok hz h11) _ but_upd (hR.put _ (by omega) ?_)
        omega
      · refine if_yes (by omega) ?_
        exact ⟨_, rfl, mkF ((q.err (want_few hz (by omega))).raise (by decide) rfl)⟩
    · rw [if_neg hz]
      refine ⟨_, rfl, _, _, rfl, rfl, _, rfl, ?_⟩
      refine if_yes (by decide) ?_
      exact ⟨_, rfl, mkF ((q.err (want_all (by omega))).raise (by decide) rfl)⟩
theorem ok_whole {f : Addr} {fd fdF : FuncData} (F : Fun K "whole_end" "Reader.whole_end" sWhole f fd) (TX : Txt K mg) (TR : RdT K mg C) (TF : FlT K mg CF fF) (GF : FnOk P w K mg base CX0 1 fF fdF ["self", "number", "place"] (spFlI K CF)) (bF : Binds K fdF ["self", "number", "place"] []) :
    FnOk P w K mg base (L2.CX P w) 3 f fd ["self"] (spWhole C CF) := by
  refine F.okX scWhole (fun vs H Q E h => ?_) (fun cdv A outer s H vs Q E hr h => ?_)
  · obtain ⟨a, e, b, rfl, _⟩ := h
    rfl
  · obtain ⟨a, e, b, rfl, hR, q⟩ := h
    obtain ⟨tle, mle⟩ := TX.le
    obtain ⟨tcut, mcut⟩ := TX.cut
    obtain ⟨tne, mne⟩ := TX.noEnd
    refine ⟨_, pss_cons (ps_set (i := 1) scWhole.nd rfl (.inl rfl) (pe_slice sl_str (pe_fld (pv 0) rfl) (po_some (pe_fld (pv 0) rfl)) (po_some (pe_op op_add (pe_fld (pv 0) rfl) (pe_callB call_len_str (by rfl) TX.len PySem.boot_len (pa_cons (pe_glob rfl mle (rel_str _ _)) pa_nil))))))
      (pss_cons (ps_if (pt_cmpR op_ne (pv 1) (pe_glob rfl mle (rel_str _ _)) (nomark _))
        (pss_cons (ps_set (i := 2) scWhole.nd rfl (.inl rfl) (pe_and (pe_cmpR op_lt (pe_callB call_len_str (by rfl) TX.len PySem.boot_len (pa_cons (pv 1) pa_nil)) (pe_callB call_len_str (by rfl) TX.len PySem.boot_len (pa_cons (pe_glob rfl mle (rel_str _ _)) pa_nil)) (nomark _))
            (pe_one (pe_cmpR op_eq (pe_slice sl_str (pe_glob rfl mle (rel_str _ _)) po_none (po_some (pe_callB call_len_str (by rfl) TX.len PySem.boot_len (pa_cons (pv 1) pa_nil)))) (pv 1) (nomark _)))))
          (pss_one (ps_raise rfl (takes_of rfl rfl rfl rfl) (pmk_oex TF.ox TF.iC TF.tI GF hr bF .nil pass0 rfl TF.g (pa_cons (pe_ifExp (pt_val (pv 2)) (pe_glob rfl mcut (rel_int _ _)) (pe_glob rfl mne (rel_int _ _))) (pa_cons (pe_fld (pv 0) rfl) pa_nil)))))) pss_nil)
      (pss_one (ps_fld (pv 0) (pe_op op_add (pe_fld (pv 0) rfl) (pe_callB call_len_str (by rfl) TX.len PySem.boot_len (pa_cons (pe_glob rfl mle (rel_str _ _)) pa_nil))) rfl))), ?_⟩
    refine ⟨_, rfl, a, C, e.dx, _, _, rfl, hR.obj, TR.cl, TR.nB, rdF_bits _ _, _, rfl, a, C, e.dx, _, _, rfl, hR.obj, TR.cl, TR.nP, rdF_place _ _, _, rfl, _, rfl, a, C, e.dx, _, _, rfl, hR.obj, TR.cl, TR.nP, rdF_place _ _, _, rfl, le_sz, _, _, rfl, rfl, _, rfl, _, rfl, hR.sz, ?_⟩
    dsimp only
    rw [le_len, hR.cut 12 (by omega)]
    refine ⟨_, rfl, rfl, _, rfl, ?_⟩
    rw [le_T, T_eq]
    have lsz : (T Ql31.EOL).length ≤ sizeLine := by rw [← le_T]; exact le_sz
    have psz : (T (b.take 12)).length ≤ sizeLine := by
      rw [T_len, List.length_take, sizeLine_eq]
      omega
    by_cases h : b.take 12 = Ql31.EOL
    · refine if_false_of (by rw [decide_eq_true h]; rfl) ?_
      obtain ⟨h1, h2⟩ := whole_ok h
      refine ⟨_, rfl, a, C, e.dx, _, _, rfl, hR.obj, TR.cl, TR.nP, rdF_place _ _, _, rfl, lsz, _, _, rfl, rfl, ?_⟩
      refine ⟨_, rfl, a, C, e.dx, _, rfl, hR.obj, TR.cl, TR.nP, (by show 7 < 1000; decide), ?_⟩
      refine q.ok h1 _ but_upd (hR.put 12 h2 ?_)
      rw [T_len, EOL_len]
      omega
    · refine if_true_of (by rw [decide_eq_false h]; rfl) ?_
      have hnp := not_pre h
      have hcs := cut_short b hnp
      have err : ∀ z : Int, z = (if b.isPrefixOf Ql31.EOL = true then (-14 : Int) else -13) → ∀ (H' : Hp) (d : Addr), H' d = some (.xd (fltF z ((e.bits.length - b.length : Nat) : Int))) → E (.ref CF) (some d) H' := fun z hz => by
        have hw : wholeE b = .error (if b.isPrefixOf Ql31.EOL = true then Ql31.ENDED else Ql31.LINE, b.length) := by
          unfold wholeE
          rw [if_pos hnp]
        refine (q.err hw).raise ?_ rfl
        rw [hz]
        split <;> decide
      refine ⟨_, rfl, _, rfl, psz, _, rfl, lsz, _, _, rfl, rfl, _, rfl, ?_⟩
      rw [T_len, T_len, EOL_len]
      by_cases hl : (b.take 12).length < 12
      · refine if_yes (by omega) ?_
        refine ⟨_, rfl, _, rfl, psz, _, rfl, _, rfl, lsz, ?_⟩
        rw [T_len, cut_first]
        refine ⟨_, rfl, rfl, ?_⟩
        rw [T_eq]
        refine ⟨_, rfl, _, rfl, ?_⟩
        by_cases h3 : Ql31.EOL.take (b.take 12).length = b.take 12
        · refine if_true_of (decide_eq_true h3) ?_
          exact ⟨_, rfl, a, C, e.dx, _, _, rfl, hR.obj, TR.cl, TR.nP, rdF_place _ _, mkF (err _ (by rw [if_pos (hcs.mpr ⟨hl, h3⟩)]))⟩
        · refine if_false_of (decide_eq_false h3) ?_
          exact ⟨_, rfl, a, C, e.dx, _, _, rfl, hR.obj, TR.cl, TR.nP, rdF_place _ _, mkF (err _ (by rw [if_neg fun z => h3 (hcs.mp z).2]))⟩
      · refine if_no (by omega) ?_
        refine ⟨_, rfl, _, rfl, ?_⟩
        refine if_false_of rfl ?_
        exact ⟨_, rfl, a, C, e.dx, _, _, rfl, hR.obj, TR.cl, TR.nP, rdF_place _ _, mkF (err _ (by rw [if_neg fun z => hl (hcs.mp z).1]))⟩
end
end Fax2
set_option Elab.async false
set_option linter.all false
set_option maxRecDepth 100000
set_option maxHeartbeats 4000000
namespace Fax2
open PySem PySem.Spec PyProof.Rows L2 Fax
theorem get_T (b : Ql31.Bits) (v : Nat) (x : Bool) (h : b[v]? = some x) : (T b).cps.toList[v]? = some (if x = true then 49 else 48) := by
  rw [T_list]
  unfold Fax.signs
  rw [List.getElem?_map, h]
  rfl
theorem atI_nat {α : Type} {xs : List α} {z : Int} {j : Nat} {v : α} (e : z = (j : Int)) (h : xs[j]? = some v) : atI xs z = some v := by
  subst e
  obtain ⟨hj, _⟩ := List.getElem?_eq_some_iff.mp h
  unfold atI
  rw [ixN_at rfl hj]
  exact h
theorem Rdr.head {C : Addr} {e : RdE} {H : Hp} {a : Addr} {x : Bool} {r : Ql31.Bits} (h : Rdr C e H a (x :: r)) : e.bits[e.bits.length - (x :: r).length]? = some x := by
  have := congrArg (fun l : List Bool => l[0]?) h.suf
  rw [List.getElem?_drop, Nat.add_zero] at this
  exact this
theorem mem_49 (b : Ql31.Bits) : decide (49 ∈ (T b).cps.toList) = !(b.all fun x => x == false) := by
  rw [T_list]
  unfold Fax.signs
  induction b with
  | nil => rfl
  | cons x b ih =>
    rw [List.map_cons, List.all_cons]
    cases x with
    | true => simp
    | false =>
      rw [← show (!(b.all fun x => x == false)) = !((false == false) && b.all fun x => x == false) from rfl, ← ih]
      exact decide_eq_decide.mpr ⟨fun h => by simpa using h, fun h => by simpa using h⟩
section
variable {P : Program} {w : World} {K : PySem.W.Frag} {mg : Str → Option Value} {base : Heap} {C CF fF : Addr}
theorem ok_one {f : Addr} {fd fdF : FuncData} (F : Fun K "one_bit" "Reader.one_bit" sOne f fd) (TX : Txt K mg) (TR : RdT K mg C) (TF : FlT K mg CF fF) (GF : FnOk P w K mg base CX0 1 fF fdF ["self", "number", "place"] (spFlI K CF)) (bF : Binds K fdF ["self", "number", "place"] []) :
    FnOk P w K mg base (L2.CX P w) 3 f fd ["self"] (spOne C CF) := by
  refine F.okX scOne (fun vs H Q E h => ?_) (fun cdv A outer s H vs Q E hr h => ?_)
  · obtain ⟨a, e, b, rfl, _⟩ := h
    rfl
  · obtain ⟨a, e, b, rfl, hR, q⟩ := h
    obtain ⟨tcut, mcut⟩ := TX.cut
    refine ⟨_, pss_cons (ps_if (pt_cmpR op_eq (pe_fld (pv 0) rfl) (pe_callB call_len_str (by rfl) TX.len PySem.boot_len (pa_cons (pe_fld (pv 0) rfl) pa_nil)) (nomark _))
        (pss_one (ps_raise rfl (takes_of rfl rfl rfl rfl) (pmk_oex TF.ox TF.iC TF.tI GF hr bF .nil pass0 rfl TF.g (pa_cons (pe_glob rfl mcut (rel_int _ _)) (pa_cons (pe_fld (pv 0) rfl) pa_nil))))) pss_nil)
      (pss_cons (ps_fld (pv 0) (pe_op op_add (pe_fld (pv 0) rfl) pe_int) rfl)
      (pss_one (ps_ret (pe_cmpR op_eq (pe_ix ix_str (pe_fld (pv 0) rfl) (pe_op op_sub (pe_fld (pv 0) rfl) pe_int) (fun _ _ => rfl)) pe_str (nomark _))))), ?_⟩
    refine ⟨_, rfl, a, C, e.dx, _, _, rfl, hR.obj, TR.cl, TR.nP, rdF_place _ _, _, rfl, a, C, e.dx, _, _, rfl, hR.obj, TR.cl, TR.nB, rdF_bits _ _, _, rfl, hR.sz, rfl, _, rfl, ?_⟩
    rw [T_len]
    have hle := hR.le
    cases b with
    | nil =>
      refine if_yes (congrArg V.int (by simp)) ?_
      refine ⟨_, rfl, a, C, e.dx, _, _, rfl, hR.obj, TR.cl, TR.nP, rdF_place _ _, mkF ((q.err (x := oneE []) rfl).raise (by decide) rfl)⟩
    | cons x r =>
      have hl : (x :: r).length = r.length + 1 := rfl
      refine if_no (fun z => by have := V.int.inj z; omega) ?_
      refine ⟨_, rfl, a, C, e.dx, _, _, rfl, hR.obj, TR.cl, TR.nP, rdF_place _ _, _, _, rfl, rfl, _, rfl, a, C, e.dx, _, rfl, hR.obj, TR.cl, TR.nP, (by show 7 < 1000; decide), ?_⟩
      have hR2 := hR.put 1 (by omega) (z := ((e.bits.length - (x :: r).length : Nat) : Int) + 1) (by omega)
      have hd : (x :: r).drop 1 = r := rfl
      rw [hd] at hR2
      have hbt : But a H (upd H a (.ins C e.dx (putF "place" (.int (((e.bits.length - (x :: r).length : Nat) : Int) + 1)) (rdF e (e.bits.length - (x :: r).length))))) := but_upd
      have hat := hR.head
      dsimp only
      generalize upd H a (.ins C e.dx (putF "place" (.int (((e.bits.length - (x :: r).length : Nat) : Int) + 1)) (rdF e (e.bits.length - (x :: r).length)))) = H2 at hR2 hbt ⊢
      refine ⟨_, rfl, a, C, e.dx, _, _, rfl, hR2.obj, TR.cl, TR.nB, rdF_bits _ _, _, rfl, a, C, e.dx, _, _, rfl, hR2.obj, TR.cl, TR.nP, rdF_place _ _, _, _, rfl, rfl, _, _, _, rfl, rfl, hR.sz, atI_nat (by omega : ((e.bits.length - r.length : Nat) : Int) - 1 = ((e.bits.length - (x :: r).length : Nat) : Int)) (get_T _ _ _ hat), rfl, ?_⟩
      rw [sign_49]
      exact q.ok (x := oneE (x :: r)) rfl _ hbt hR2
theorem ok_due {f fO : Addr} {fd fdF fdO : FuncData} (F : Fun K "due_one" "Reader.due_one" sDue f fd) (TX : Txt K mg) (TR : RdT K mg C) (TF : FlT K mg CF fF) (GF : FnOk P w K mg base CX0 1 fF fdF ["self", "number", "place"] (spFlI K CF)) (bF : Binds K fdF ["self", "number", "place"] [])
    (mO : Meth K C "one_bit" fO) (GO : FnOk P w K mg base (L2.CX P w) 3 fO fdO ["self"] (spOne C CF)) (bO : Binds K fdO ["self"] []) :
    FnOk P w K mg base (L2.CX P w) 4 f fd ["self"] (spDue C CF) := by
  refine F.okX scDue (fun vs H Q E h => ?_) (fun cdv A outer s H vs Q E hr h => ?_)
  · obtain ⟨a, e, b, rfl, _⟩ := h
    rfl
  · obtain ⟨a, e, b, rfl, hR, q⟩ := h
    have hr2 : Room 2 _ := hr.mono (by decide)
    obtain ⟨tne, mne⟩ := TX.noEnd
    refine ⟨_, pss_one (ps_if (pt_not (pt_val (pe_meth0 (pv 0) TR.cl mO GO hr bO .nil (passes_call (takes_of rfl rfl rfl rfl) fun _ _ _ _ h => h))))
        (pss_one (ps_raise rfl (takes_of rfl rfl rfl rfl) (pmk_oex TF.ox TF.iC TF.tI GF hr2 bF .nil pass0 rfl TF.g (pa_cons (pe_glob rfl mne (rel_int _ _)) (pa_cons (pe_op op_sub (pe_fld (pv 0) rfl) pe_int) pa_nil))))) pss_nil), ?_⟩
    refine ⟨_, rfl, a, e.dx, _, rfl, hR.obj, rdF_out _ _ _ (by decide +kernel), a, e, b, rfl, hR, ?_⟩
    have hle := hR.le
    cases b with
    | nil => exact q.err (x := dueE []) rfl
    | cons x r =>
      have hl : (x :: r).length = r.length + 1 := rfl
      show ∀ H' : Hp, But a H H' → Rdr C e H' a r → _
      intro H2 bt2 hR2
      refine ⟨_, rfl, ?_⟩
      cases x with
      | true =>
        refine if_false_of rfl ?_
        exact q.ok (x := dueE (true :: r)) rfl _ bt2 hR2
      | false =>
        refine if_true_of rfl ?_
        refine ⟨_, rfl, a, C, e.dx, _, _, rfl, hR2.obj, TR.cl, TR.nP, rdF_place _ _, _, _, rfl, rfl, mkF ((q.err (x := dueE (false :: r)) rfl).raise (by decide) ?_)⟩
        omega
theorem ok_pend {f fW fO : Addr} {fd fdW fdO : FuncData} (F : Fun K "page_end" "Reader.page_end" sPend f fd) (TX : Txt K mg) (TR : RdT K mg C)
    (mW : Meth K C "whole_end" fW) (GW : FnOk P w K mg base (L2.CX P w) 3 fW fdW ["self"] (spWhole C CF)) (bW : Binds K fdW ["self"] []) (mD : Meth K C "due_one" fO) (GD : FnOk P w K mg base (L2.CX P w) 4 fO fdO ["self"] (spDue C CF)) (bD : Binds K fdO ["self"] []) :
    FnOk P w K mg base (L2.CX P w) 5 f fd ["self"] (spPend C CF) := by
  refine F.okX scPend (fun vs H Q E h => ?_) (fun cdv A outer s H vs Q E hr h => ?_)
  · obtain ⟨a, e, b, rfl, _⟩ := h
    rfl
  · obtain ⟨a, e, b, rfl, hR, q⟩ := h
    have hr3 : Room 3 _ := hr.mono (by decide)
    obtain ⟨ten, men⟩ := TX.ends
    refine ⟨_, pss_one (ps_for (passes_of rfl) rfl (pi_range1 (by rfl) TX.range (pa_cons (pe_op op_sub (pe_glob rfl men (rel_int _ _)) pe_int) pa_nil)) (pg_name (i := 1) scPend.nd rfl (.inl rfl))
        (pss_cons (ps_expr (pe_meth0 (pv 0) TR.cl mW GW hr3 bW .nil (passes_call (takes_of rfl rfl rfl rfl) fun _ _ _ _ h => h)))
        (pss_one (ps_if (pt_cmpR op_eq (pe_fld (pv 0) rfl) pe_int (nomark _)) (pss_one (ps_expr (pe_meth0 (pv 0) TR.cl mD GD hr bD .nil (passes_call (takes_of rfl rfl rfl rfl) fun _ _ _ _ h => h)))) pss_nil)))), ?_⟩
    refine ⟨_, _, rfl, rfl, 5, rfl, by decide, by decide, ?_⟩
    refine for_range (lo := 0) (n := 5) (fun i σ H' => ∃ (v1 : Option V) (b' : Ql31.Bits), σ = [some (.ref a), v1] ∧ But a H H' ∧ Rdr C e H' a b' ∧ i ≤ 5 ∧ fiveE (e.kind == 1) (5 - i) b' = fiveE (e.kind == 1) 5 b) ⟨none, b, rfl, But.refl _ _, hR, by decide, rfl⟩ ?_ ?_
    · rintro i σ H' hi ⟨v1, b', rfl, bt, hR', _, heq⟩
      refine ⟨_, rfl, a, e.dx, _, rfl, hR'.obj, rdF_out _ _ _ (by decide +kernel), a, e, b', rfl, hR', ?_⟩
      obtain ⟨k, hk⟩ : ∃ k, 5 - i = k + 1 := ⟨4 - i, by omega⟩
      have hk2 : 5 - (i + 1) = k := by omega
      have hstep := five_step (e.kind == 1) k b'
      rw [← hk, heq] at hstep
      refine Fin1.of (fun u r hz => ?_) (fun x hx => ?_)
      · intro H2 bt2 hR2
        rw [hz] at hstep
        dsimp only at hstep
        refine ⟨_, rfl, a, C, e.dx, _, _, rfl, hR2.obj, TR.cl, TR.nK, rdF_kind _ _, rfl, _, rfl, ?_⟩
        by_cases hkd : e.kind = 1
        · have ek : (e.kind == 1) = true := by rw [hkd]; rfl
          refine if_yes (congrArg V.int (by omega)) ?_
          rw [if_neg (by rw [ek]; exact Bool.noConfusion)] at hstep
          refine ⟨_, rfl, a, e.dx, _, rfl, hR2.obj, rdF_out _ _ _ (by decide +kernel), a, e, r, rfl, hR2, ?_⟩
          refine Fin1.of (fun u2 r2 hz2 => ?_) (fun x hx => ?_)
          · intro H3 bt3 hR3
            rw [hz2] at hstep
            exact ⟨_, r2, rfl, bt.trans (bt2.trans bt3), hR3, hi, by rw [hk2]; exact hstep.symm⟩
          · rw [hx] at hstep
            exact q.err hstep
        · have ek : (e.kind == 1) = false := beq_eq_false_iff_ne.mpr hkd
          refine if_no (fun z => hkd (by have := V.int.inj z; omega)) ?_
          rw [if_pos ek] at hstep
          exact ⟨_, r, rfl, bt.trans bt2, hR2, hi, by rw [hk2]; exact hstep.symm⟩
      · rw [hx] at hstep
        exact q.err hstep
    · rintro σ H' ⟨v1, b', rfl, bt, hR', _, heq⟩
      exact q.ok heq.symm _ bt hR'
theorem ok_rest {f : Addr} {fd fdF : FuncData} (F : Fun K "check_rest" "Reader.check_rest" sRest f fd) (TX : Txt K mg) (TR : RdT K mg C) (TF : FlT K mg CF fF) (GF : FnOk P w K mg base CX0 1 fF fdF ["self", "number", "place"] (spFlI K CF)) (bF : Binds K fdF ["self", "number", "place"] []) :
    FnOk P w K mg base (L2.CX P w) 3 f fd ["self"] (spRest C CF) := by
  refine F.okX scRest (fun vs H Q E h => ?_) (fun cdv A outer s H vs Q E hr h => ?_)
  · obtain ⟨a, e, b, rfl, _⟩ := h
    rfl
  · obtain ⟨a, e, b, rfl, hR, q⟩ := h
    obtain ⟨tmo, mmo⟩ := TX.more
    refine ⟨_, pss_cons (ps_set (i := 1) scRest.nd rfl (.inl rfl) (pe_slice sl_str (pe_fld (pv 0) rfl) (po_some (pe_fld (pv 0) rfl)) po_none))
      (pss_one (ps_if (PW.pt (pw_or (pt_cmpR op_ge (pe_callB call_len_str (by rfl) TX.len PySem.boot_len (pa_cons (pv 1) pa_nil)) pe_int (nomark _)) (pw_or1 (pt_cmpR op_in_sign pe_str (pv 1) (by rfl)))))
        (pss_one (ps_raise rfl (takes_of rfl rfl rfl rfl) (pmk_oex TF.ox TF.iC TF.tI GF hr bF .nil pass0 rfl TF.g (pa_cons (pe_glob rfl mmo (rel_int _ _)) (pa_cons (pe_fld (pv 0) rfl) pa_nil))))) pss_nil)), ?_⟩
    refine ⟨_, rfl, a, C, e.dx, _, _, rfl, hR.obj, TR.cl, TR.nB, rdF_bits _ _, _, rfl, a, C, e.dx, _, _, rfl, hR.obj, TR.cl, TR.nP, rdF_place _ _, _, rfl, _, rfl, hR.sz, ?_⟩
    rw [cut_end _ _ (Nat.sub_le _ _), hR.suf]
    have hle := hR.le
    have hsm := hR.small
    refine ⟨_, rfl, _, rfl, ?_, _, _, rfl, rfl, _, rfl, ?_⟩
    · rw [T_len, sizeLine_eq]
      omega
    rw [T_len]
    have bad : ¬ (b.length < 8 ∧ (b.all fun x => x == false) = true) → Ql31.finished b = .error (Ql31.BEHIND, b.length) := fun h => if_neg h
    by_cases h8 : 8 ≤ b.length
    · refine if_yes (by omega) ?_
      refine if_true_of rfl ?_
      exact ⟨_, rfl, a, C, e.dx, _, _, rfl, hR.obj, TR.cl, TR.nP, rdF_place _ _, mkF ((q.err (bad fun z => by omega)).raise (by decide) rfl)⟩
    · refine if_no (by omega) ?_
      refine ⟨_, rfl, 49, _, by rw [one_T], rfl, _, rfl, ?_⟩
      rw [mem_49]
      cases ha : b.all fun x => x == false with
      | true =>
        refine if_false_of rfl ?_
        exact q.ok (if_pos ⟨by omega, ha⟩)
      | false =>
        refine if_true_of rfl ?_
        exact ⟨_, rfl, a, C, e.dx, _, _, rfl, hR.obj, TR.cl, TR.nP, rdF_place _ _, mkF ((q.err (bad fun z => by rw [ha] at z; exact Bool.noConfusion z.2)).raise (by decide) rfl)⟩
end
end Fax2
set_option Elab.async false
set_option linter.all false
set_option maxRecDepth 100000
set_option maxHeartbeats 4000000
namespace Fax2
open PySem PySem.Spec PyProof.Rows L2 Fax
/-- the rows read so far: a list at p of lists of changes -/
structure Rws (H : Hp) (p : Addr) (wd : Nat) (as : List Addr) (l : List Ql31.Row) : Prop where
  len : as.length = l.length
  row : ∀ (i : Nat) (r : Ql31.Row), l[i]? = some r → ∃ x, as[i]? = some x ∧ x ≠ p ∧ H x = some (.lst (natsV (chg r))) ∧ r.length = wd
theorem Rws.nil {H : Hp} {p : Addr} {wd : Nat} : Rws H p wd [] [] := ⟨rfl, fun i r h => by simp at h⟩
theorem Rws.keep {H H' : Hp} {p : Addr} {wd : Nat} {as : List Addr} {l : List Ql31.Row} (h : Rws H p wd as l) (k : ∀ x ys, x ≠ p → H x = some (.lst ys) → H' x = some (.lst ys)) : Rws H' p wd as l :=
  ⟨h.len, fun i r hi => let ⟨x, h1, h2, h3, h4⟩ := h.row i r hi; ⟨x, h1, h2, k _ _ h2 h3, h4⟩⟩
theorem Rws.snoc {H : Hp} {p : Addr} {wd : Nat} {as : List Addr} {l : List Ql31.Row} (h : Rws H p wd as l) {x : Addr} {r : Ql31.Row} (hx : x ≠ p) (h3 : H x = some (.lst (natsV (chg r)))) (h4 : r.length = wd) : Rws H p wd (as ++ [x]) (l ++ [r]) := by
  refine ⟨by rw [List.length_append, List.length_append, h.len]; rfl, fun i r' hi => ?_⟩
  by_cases hlt : i < l.length
  · rw [List.getElem?_append_left hlt] at hi
    obtain ⟨x', h1, h2⟩ := h.row i r' hi
    exact ⟨x', by rw [List.getElem?_append_left (by rw [h.len]; exact hlt)]; exact h1, h2⟩
  · rw [List.getElem?_append_right (by omega)] at hi
    obtain ⟨h0, e0⟩ := List.getElem?_eq_some_iff.mp hi
    have h0' : i - l.length = 0 := by simpa using h0
    have e1 : r = r' := by
      rw [← e0]
      simp [h0']
    subst e1
    exact ⟨x, by rw [List.getElem?_append_right (by rw [h.len]; omega), h.len, h0']; rfl, hx, h3, h4⟩
def lastR (wd : Nat) (l : List Ql31.Row) : Ql31.Row := l.getLast?.getD (List.replicate wd false)
theorem lastR_snoc (wd : Nat) (l : List Ql31.Row) (r : Ql31.Row) : lastR wd (l ++ [r]) = r := by
  unfold lastR
  rw [List.getLast?_concat]
  rfl
theorem lastR_nil (wd : Nat) : (lastR wd []).length = wd ∧ chg (lastR wd []) = [] := ⟨List.length_replicate, chgF_same _ _ _⟩
/-! rows == [] -/
theorem shaped_rows : ∀ l : List Ql31.Row, PyData.canLayAll0 (l.map fun r => PyData.list ((chg r).map fun (n : Nat) => PyData.int (n : Int))) = true ∧ PyData.depthAll (l.map fun r => PyData.list ((chg r).map fun (n : Nat) => PyData.int (n : Int))) ≤ 1
  | [] => ⟨rfl, Nat.zero_le _⟩
  | r :: l => by
    obtain ⟨h1, h2⟩ := shaped_rows l
    have nums : ∀ c : List Nat, PyData.canLayAll0 (c.map fun (n : Nat) => PyData.int (n : Int)) = true ∧ PyData.depthAll (c.map fun (n : Nat) => PyData.int (n : Int)) = 0 := fun c => by
      induction c with
      | nil => exact ⟨rfl, rfl⟩
      | cons n c ih =>
        refine ⟨?_, ?_⟩
        · show (PyData.canLay0 (.int (n : Int)) && PyData.canLayAll0 (c.map fun (n : Nat) => PyData.int (n : Int))) = true
          rw [ih.1]
          rfl
        · show max (PyData.depth (.int (n : Int))) (PyData.depthAll (c.map fun (n : Nat) => PyData.int (n : Int))) = 0
          rw [ih.2]
          rfl
    refine ⟨?_, ?_⟩
    · show (PyData.canLay0 (.list ((chg r).map fun (n : Nat) => PyData.int (n : Int))) && PyData.canLayAll0 (l.map fun r => PyData.list ((chg r).map fun (n : Nat) => PyData.int (n : Int)))) = true
      rw [h1, Bool.and_true]
      exact (nums _).1
    · show max (PyData.depth (.list ((chg r).map fun (n : Nat) => PyData.int (n : Int)))) (PyData.depthAll (l.map fun r => PyData.list ((chg r).map fun (n : Nat) => PyData.int (n : Int)))) ≤ 1
      have : PyData.depth (.list ((chg r).map fun (n : Nat) => PyData.int (n : Int))) = 1 := by
        show PyData.depthAll ((chg r).map fun (n : Nat) => PyData.int (n : Int)) + 1 = 1
        rw [(nums _).2]
      omega
theorem dp_nats {K : PySem.W.Frag} {H : Hp} : ∀ c : List Nat, DpAll K H (natsV c) (c.map fun (n : Nat) => PyData.int (n : Int))
  | [] => .nil
  | n :: c => .cons (.int _) (dp_nats c)
theorem dp_rows {K : PySem.W.Frag} {H : Hp} {p : Addr} {wd : Nat} : ∀ (as : List Addr) (l : List Ql31.Row), Rws H p wd as l → DpAll K H (as.map V.ref) (l.map fun r => PyData.list ((chg r).map fun (n : Nat) => PyData.int (n : Int)))
  | [], [], _ => .nil
  | [], r :: l, h => by have := h.len; cases this
  | a :: as, [], h => by have := h.len; cases this
  | a :: as, r :: l, h => by
    obtain ⟨x, h1, _, h3, _⟩ := h.row 0 r rfl
    have e : a = x := Option.some.inj h1
    subst e
    exact .cons (.lst (SqL.of h3) (dp_nats _)) (dp_rows as l ⟨Nat.succ.inj h.len, fun i r hi => h.row (i + 1) r hi⟩)
theorem rows_nil {K : PySem.W.Frag} {H : Hp} {p q : Addr} {wd : Nat} {as : List Addr} {l : List Ql31.Row} {Q : VK} (hp : H p = some (.lst (as.map V.ref))) (hr : Rws H p wd as l) (hq : H q = some (.lst [])) (h : Q (.bl (decide (l = []))) H) : rEqD K (.ref p) (.ref q) H Q := by
  refine ⟨_, .list [], .lst (SqL.of hp) (dp_rows as l hr), .lst (SqL.of hq) .nil, ?_, by decide, ?_⟩
  · obtain ⟨h1, h2⟩ := shaped_rows l
    unfold SeqAt.shaped
    show (PyData.canLayAll0 _ && decide (PyData.depthAll _ + 1 ≤ 64)) = true
    rw [h1, decide_eq_true (by omega)]
    rfl
  · cases l with
    | nil => exact h
    | cons r l => exact h
def spLines (C CF : Addr) : Sp := fun vs H Q E => ∃ (a : Addr) (e : RdE) (b : Ql31.Bits), vs = [.ref a] ∧ Rdr C e H a b ∧
  Fin1 (linesE e.w e.most (e.kind == 1) (e.most + 2) [] b) (fun l r => ∀ (H' : Hp) (p : Addr) (as : List Addr), But a H H' → Rdr C e H' a r → H' p = some (.lst (as.map V.ref)) → Rws H' p e.w as l → Q (.ref p) H') (Err CF e.bits.length E)
theorem scLines : FnScope ["self", "rows", "before", "is_alone"] ["self"] (defScope sLines) := ⟨rfl, rfl, rfl, by decide +kernel, rfl, by decide +kernel, by decide +kernel⟩
def spPlain (C CF : Addr) : Sp := fun vs H Q E => ∃ (a : Addr) (e : RdE) (b : Ql31.Bits), vs = [.ref a] ∧ Rdr C e H a b ∧
  Fin1 (plainE e.w e.most (e.most + 2) [] b) (fun l r => ∀ (H' : Hp) (p : Addr) (as : List Addr), But a H H' → Rdr C e H' a r → H' p = some (.lst (as.map V.ref)) → Rws H' p e.w as l → Q (.ref p) H') (Err CF e.bits.length E)
theorem scPlain : FnScope ["self", "rows", "before"] ["self"] (defScope sPlain) := ⟨rfl, rfl, rfl, by decide +kernel, rfl, by decide +kernel, by decide +kernel⟩
def spPage (C CF : Addr) : Sp := fun vs H Q E => ∃ (a : Addr) (e : RdE) (b : Ql31.Bits), vs = [.ref a] ∧ Rdr C e H a b ∧
  Fin1 (checked (rowsE e.kind e.w e.most b)) (fun l _ => ∀ (H' : Hp) (p : Addr) (as : List Addr), H' p = some (.lst (as.map V.ref)) → Rws H' p e.w as l → Q (.ref p) H') (Err CF e.bits.length E)
theorem scPage : FnScope ["self", "rows"] ["self"] (defScope sPage) := ⟨rfl, rfl, rfl, by decide +kernel, rfl, by decide +kernel, by decide +kernel⟩
theorem row_add {H2 H3 : Hp} {a l p2 : Addr} {wd : Nat} {as : List Addr} {rs : List Ql31.Row} {row : Ql31.Row} (hl : H2 l = some (.lst (as.map V.ref))) (hr : Rws H2 l wd as rs) (bt : But a H2 H3) (nla : l ≠ a) (np : H2 p2 = none) (h3 : H3 p2 = some (.lst (natsV (chg row)))) (hw : row.length = wd) (hra : ∀ x ys, H2 x = some (.lst ys) → x ≠ a) :
    H3 l = some (.lst (as.map V.ref)) ∧ But l H3 (upd H3 l (.lst (as.map V.ref ++ [.ref p2]))) ∧ upd H3 l (.lst (as.map V.ref ++ [.ref p2])) l = some (.lst ((as ++ [p2]).map V.ref)) ∧ Rws (upd H3 l (.lst (as.map V.ref ++ [.ref p2]))) l wd (as ++ [p2]) (rs ++ [row]) ∧ upd H3 l (.lst (as.map V.ref ++ [.ref p2])) p2 = some (.lst (natsV (chg row))) ∧ p2 ≠ l := by
  have hpl : p2 ≠ l := (ne_of_none hl np).symm
  have e2 : upd H3 l (.lst (as.map V.ref ++ [.ref p2])) p2 = some (.lst (natsV (chg row))) := by
    rw [upd_ne hpl]
    exact h3
  refine ⟨bt _ _ nla hl, but_upd, ?_, ?_, e2, hpl⟩
  · rw [List.map_append]
    exact upd_same
  · refine Rws.snoc (hr.keep fun x ys hx hxe => ?_) hpl e2 hw
    rw [upd_ne hx]
    exact bt _ _ (hra _ _ hxe) hxe
section
variable {P : Program} {w : World} {K : PySem.W.Frag} {mg : Str → Option Value} {base : Heap} {C CF fF : Addr}
theorem ok_plain {f fN fB : Addr} {fd fdF fdN fdB : FuncData} (F : Fun K "plain_lines" "Reader.plain_lines" sPlain f fd) (TX : Txt K mg) (TR : RdT K mg C) (TF : FlT K mg CF fF) (GF : FnOk P w K mg base CX0 1 fF fdF ["self", "number", "place"] (spFlI K CF)) (bF : Binds K fdF ["self", "number", "place"] [])
    (mN : Meth K C "is_end_next" fN) (GN : FnOk P w K mg base CX0 1 fN fdN ["self", "many"] (spNext C)) (bN : Binds K fdN ["self", "many"] [])
    (mB : Meth K C "row_by" fB) (GB : FnOk P w K mg base (L2.CX P w) 5 fB fdB ["self", "before"] (spBy C CF)) (bB : Binds K fdB ["self", "before"] []) :
    FnOk P w K mg base (L2.CX P w) 6 f fd ["self"] (spPlain C CF) := by
  refine F.okX scPlain (fun vs H Q E h => ?_) (fun cdv A outer s H vs Q E hr h => ?_)
  · obtain ⟨a, e, b, rfl, _⟩ := h
    rfl
  · obtain ⟨a, e, b, rfl, hR, q⟩ := h
    have hr2 : Room 2 _ := hr.mono (by decide)
    have hr1 : Room 1 _ := hr.mono (by decide)
    obtain ⟨ttm, mtm⟩ := TX.tooMany
    obtain ⟨tle, mle⟩ := TX.le
    refine ⟨_, pss_cons (ps_par (i := 1) (j := 2) rfl scPlain.nd rfl rfl (by decide) rfl rfl (pa_cons (pe_lst pa_nil) (pa_cons (pe_lst pa_nil) pa_nil)) (by rfl))
      (pss_cons (ps_while (passes_of rfl) (pt_not (pt_val (pe_meth (pv 0) TR.cl mN GN hr1 bN .nil pass0 (pa_cons pe_int pa_nil))))
        (pss_cons (ps_if (pt_cmpR op_eq (pe_callB call_len_seq (by rfl) TX.len PySem.boot_len (pa_cons (pv 1) pa_nil)) (pe_fld (pv 0) rfl) (nomark _))
          (pss_one (ps_raise rfl (takes_of rfl rfl rfl rfl) (pmk_oex TF.ox TF.iC TF.tI GF hr2 bF .nil pass0 rfl TF.g (pa_cons (pe_glob rfl mtm (rel_int _ _)) (pa_cons (pe_fld (pv 0) rfl) pa_nil))))) pss_nil)
        (pss_cons (ps_set (i := 2) scPlain.nd rfl (.inl rfl) (pe_meth (pv 0) TR.cl mB GB hr bB .nil (passes_call (takes_of rfl rfl rfl rfl) fun _ _ _ _ h => h) (pa_cons (pv 2) pa_nil)))
        (pss_one (ps_expr (pe_bm PySem.F.plainAttrs_list PySem.F.slot_list_append PySem.F.type_list_append mt_append (pv 1) (pa_cons (pv 2) pa_nil)))))))
      (pss_cons (ps_fld (pv 0) (pe_op op_add (pe_fld (pv 0) rfl) (pe_op op_mul pe_int (pe_callB call_len_str (by rfl) TX.len PySem.boot_len (pa_cons (pe_glob rfl mle (rel_str _ _)) pa_nil)))) rfl)
      (pss_one (ps_ret (pv 1))))), ?_⟩
    have hm1 := hR.m1
    refine ⟨Nat.zero_le _, fun l nl => ⟨Nat.zero_le _, fun bf nbf => ⟨_, _, rfl, ?_⟩⟩⟩
    have s1 : Same H (upd (upd H l (.lst [])) bf (.lst [])) := (same_upd nl).trans (same_upd nbf)
    have hl0 : upd (upd H l (.lst [])) bf (.lst []) l = some (.lst []) := same_upd nbf _ _ upd_same
    have hb0 : upd (upd H l (.lst [])) bf (.lst []) bf = some (.lst []) := upd_same
    have hbl : bf ≠ l := fun z => by rw [z, upd_same] at nbf; cases nbf
    have nla : l ≠ a := (ne_of_none hR.obj nl).symm
    generalize upd (upd H l (.lst [])) bf (.lst []) = H1 at s1 hl0 hb0
    obtain ⟨z1, z2⟩ := lastR_nil e.w
    refine ⟨fun m σ H' => ∃ (ls : List Ql31.Row) (as : List Addr) (b' : Ql31.Bits) (bf' : Addr), σ = [some (.ref a), some (.ref l), some (.ref bf')] ∧ But a H H' ∧ Rdr C e H' a b' ∧ H' l = some (.lst (as.map V.ref)) ∧ Rws H' l e.w as ls ∧ bf' ≠ l ∧ H' bf' = some (.lst (natsV (chg (lastR e.w ls)))) ∧ (lastR e.w ls).length = e.w ∧
      ls.length ≤ e.most ∧ m + ls.length = e.most + 2 ∧ plainE e.w e.most m ls b' = plainE e.w e.most (e.most + 2) [] b,
      ⟨e.most + 2, [], [], b, bf, rfl, s1.but, hR.keep s1, hl0, Rws.nil, hbl, by rw [z2]; exact hb0, z1, Nat.zero_le _, rfl, rfl⟩, ?_⟩
    rintro m σ H' ⟨ls, as, b', bf', rfl, bt, hR', hl, hrw, hbl', hbf, hlw, hlm, hm, heq⟩
    obtain ⟨k, rfl⟩ : ∃ k, m = k + 1 := ⟨m - 1, by omega⟩
    refine ⟨_, rfl, a, e.dx, _, rfl, hR'.obj, rdF_out _ _ _ (by decide +kernel), a, 2, e, b', rfl, .inr rfl, hR', _, rfl, ?_⟩
    have e2 : eols 2 = Ql31.EOL ++ Ql31.EOL := by decide
    rw [e2]
    unfold plainE at heq
    by_cases hp : (Ql31.EOL ++ Ql31.EOL).isPrefixOf b' = true
    · rw [if_pos hp] at heq
      refine if_false_of (by rw [hp]; rfl) ?_
      have h24 : 24 ≤ b'.length := by
        have := congrArg List.length ((isPre _ _).mp hp)
        rw [List.length_take, List.length_append, EOL_len] at this
        omega
      refine ⟨_, rfl, a, C, e.dx, _, _, rfl, hR'.obj, TR.cl, TR.nP, rdF_place _ _, _, rfl, le_sz, _, _, rfl, rfl, (by unfold CMul; omega), _, _, rfl, rfl, ?_⟩
      refine ⟨_, rfl, a, C, e.dx, _, rfl, hR'.obj, TR.cl, TR.nP, (by show 7 < 1000; decide), ?_⟩
      have hput := hR'.put 24 h24 (z := ((e.bits.length - b'.length : Nat) : Int) + 2 * ((("000000000001" : Str).length : Nat) : Int)) (by rw [le_len]; omega)
      refine ⟨_, rfl, q.ok heq.symm _ l as (bt.trans but_upd) hput ?_ (hrw.keep fun x ys hx hxe => ?_)⟩
      · rw [upd_ne nla]
        exact hl
      · rw [upd_ne (ne_of hxe hR'.obj (by intro z; cases z))]
        exact hxe
    · have hp' : (Ql31.EOL ++ Ql31.EOL).isPrefixOf b' = false := Bool.eq_false_iff.mpr hp
      rw [if_neg hp] at heq
      refine if_true_of (by rw [hp']; rfl) ?_
      refine ⟨_, fun _ _ h => h, ?_⟩
      refine ⟨_, rfl, l, _, rfl, .inl (SqL.of hl), _, rfl, a, C, e.dx, _, _, rfl, hR'.obj, TR.cl, TR.nM, rdF_most _ _, rfl, _, rfl, ?_⟩
      rw [List.length_map, hrw.len]
      by_cases hmo : ls.length = e.most
      · refine if_yes (congrArg V.int (by omega)) ?_
        rw [if_pos (by omega)] at heq
        exact ⟨_, rfl, a, C, e.dx, _, _, rfl, hR'.obj, TR.cl, TR.nP, rdF_place _ _, mkF ((q.err heq.symm).raise (by decide) rfl)⟩
      · refine if_no (fun z => hmo (by have := V.int.inj z; omega)) ?_
        rw [if_neg (by omega)] at heq
        refine ⟨_, rfl, a, e.dx, _, rfl, hR'.obj, rdF_out _ _ _ (by decide +kernel), _, rfl, a, bf', e, b', lastR e.w ls, rfl, hR', hlw, hbf, ?_⟩
        refine Fin1.of (fun row r hz => ?_) (fun x hx => ?_)
        · intro H3 p2 hrl bt3 hR3 np hp2
          obtain ⟨hl3, bt4, hl4, hrw4, hp4, hpl⟩ := row_add hl hrw bt3 nla np hp2 hrl (fun x ys hx => ne_of hx hR'.obj (by intro z; cases z))
          have hR4 := hR.over nl hR3 bt4
          refine ⟨_, rfl, .inl ⟨rfl, _, .inl (.inl hl3)⟩, _, rfl, l, _, _, rfl, rfl, hl3, ?_, ?_⟩
          · rw [List.length_map, hrw.len, sizeLine_eq]
            omega
          have hz' : Ql31.readBeside e.w (ls.getLast?.getD (List.replicate e.w false)) (2 * e.w + 4) (-1) false [] b' = .ok (row, r) := hz
          rw [hz'] at heq
          refine ⟨k, by omega, ls ++ [row], as ++ [p2], r, p2, rfl, fun x o hx ho => bt4 x o (ne_of_none ho nl) (bt3 x o hx (bt x o hx ho)), hR4, hl4, hrw4, hpl, ?_, ?_, ?_, ?_, heq⟩
          · rw [lastR_snoc]
            exact hp4
          · rw [lastR_snoc]
            exact hrl
          · rw [List.length_append]
            show ls.length + 1 ≤ _
            omega
          · rw [List.length_append]
            show k + (ls.length + 1) = _
            omega
        · have hx' : Ql31.readBeside e.w (ls.getLast?.getD (List.replicate e.w false)) (2 * e.w + 4) (-1) false [] b' = .error x := hx
          rw [hx'] at heq
          exact q.err heq.symm
end
end Fax2
set_option Elab.async false
set_option linter.all false
set_option maxRecDepth 100000
set_option maxHeartbeats 4000000
namespace Fax2
open PySem PySem.Spec PyProof.Rows L2 Fax
theorem eols1 : eols 1 = Ql31.EOL := by decide
theorem Rws.but {H H' : Hp} {a p : Addr} {wd : Nat} {as : List Addr} {l : List Ql31.Row} {C dx : Addr} {fs : List (Str × V)} (h : Rws H p wd as l) (ho : H a = some (.ins C dx fs)) (k : But a H H') : Rws H' p wd as l :=
  h.keep fun x ys _ hx => k _ _ (ne_of hx ho (by intro z; cases z)) hx
theorem lst_but {H H' : Hp} {a x : Addr} {ys : List V} {C dx : Addr} {fs : List (Str × V)} (ho : H a = some (.ins C dx fs)) (k : But a H H') (hx : H x = some (.lst ys)) : H' x = some (.lst ys) := k _ _ (ne_of hx ho (by intro z; cases z)) hx
section
variable {P : Program} {w : World} {K : PySem.W.Frag} {mg : Str → Option Value} {base : Heap} {C CF fF : Addr}
theorem ok_lines {f fL fO fN fE fA fB : Addr} {fd fdF fdL fdO fdN fdE fdA fdB : FuncData} (F : Fun K "lines" "Reader.lines" sLines f fd) (TX : Txt K mg) (TR : RdT K mg C) (TF : FlT K mg CF fF) (GF : FnOk P w K mg base CX0 1 fF fdF ["self", "number", "place"] (spFlI K CF)) (bF : Binds K fdF ["self", "number", "place"] [])
    (mL : Meth K C "line_end" fL) (GL : FnOk P w K mg base (L2.CX P w) 3 fL fdL ["self"] (spLend C CF)) (bL : Binds K fdL ["self"] [])
    (mO : Meth K C "one_bit" fO) (GO : FnOk P w K mg base (L2.CX P w) 3 fO fdO ["self"] (spOne C CF)) (bO : Binds K fdO ["self"] [])
    (mN : Meth K C "is_end_next" fN) (GN : FnOk P w K mg base CX0 1 fN fdN ["self", "many"] (spNext C)) (bN : Binds K fdN ["self", "many"] [])
    (mE : Meth K C "page_end" fE) (GE : FnOk P w K mg base (L2.CX P w) 5 fE fdE ["self"] (spPend C CF)) (bE : Binds K fdE ["self"] [])
    (mA : Meth K C "row_alone" fA) (GA : FnOk P w K mg base (L2.CX P w) 5 fA fdA ["self"] (spAlone C CF)) (bA : Binds K fdA ["self"] [])
    (mB : Meth K C "row_by" fB) (GB : FnOk P w K mg base (L2.CX P w) 5 fB fdB ["self", "before"] (spBy C CF)) (bB : Binds K fdB ["self", "before"] []) :
    FnOk P w K mg base (L2.CX P w) 6 f fd ["self"] (spLines C CF) := by
  refine F.okX scLines (fun vs H Q E h => ?_) (fun cdv A outer s H vs Q E hr h => ?_)
  · obtain ⟨a, e, b, rfl, _⟩ := h
    rfl
  · obtain ⟨a, e, b, rfl, hR, q⟩ := h
    have hr3 : Room 3 _ := hr.mono (by decide)
    have hr2 : Room 2 _ := hr.mono (by decide)
    have hr1 : Room 1 _ := hr.mono (by decide)
    obtain ⟨ttm, mtm⟩ := TX.tooMany
    obtain ⟨tne, mne⟩ := TX.noEnd
    refine ⟨_, pss_cons (ps_par (i := 1) (j := 2) rfl scLines.nd rfl rfl (by decide) rfl rfl (pa_cons (pe_lst pa_nil) (pa_cons (pe_lst pa_nil) pa_nil)) (by rfl))
      (pss_one (ps_while (passes_of rfl) (pt_val pe_bl)
        (pss_cons (ps_expr (pe_meth0 (pv 0) TR.cl mL GL hr3 bL .nil (passes_call (takes_of rfl rfl rfl rfl) fun _ _ _ _ h => h)))
        (Evl.pss_cut (ps_set (i := 3) scLines.nd rfl (.inl rfl) (pe_ifExp (pt_cmpR op_eq (pe_fld (pv 0) rfl) pe_int (nomark _)) (pe_meth0 (pv 0) TR.cl mO GO hr3 bO .nil (passes_call (takes_of rfl rfl rfl rfl) fun _ _ _ _ h => h)) pe_bl))
        (pss_cons (ps_if (pt_val (pe_meth (pv 0) TR.cl mN GN hr1 bN .nil pass0 (pa_cons pe_int pa_nil)))
          (pss_cons (ps_if (pt_not (pt_val (pv 3))) (pss_one (ps_raise rfl (takes_of rfl rfl rfl rfl) (pmk_oex TF.ox TF.iC TF.tI GF hr2 bF .nil pass0 rfl TF.g (pa_cons (pe_glob rfl mne (rel_int _ _)) (pa_cons (pe_op op_sub (pe_fld (pv 0) rfl) pe_int) pa_nil))))) pss_nil)
          (pss_cons (ps_expr (pe_meth0 (pv 0) TR.cl mE GE hr bE .nil (passes_call (takes_of rfl rfl rfl rfl) fun _ _ _ _ h => h)))
          (pss_one (ps_ret (pv 1))))) pss_nil)
        (pss_cons (ps_if (pt_cmpR op_eq (pe_callB call_len_seq (by rfl) TX.len PySem.boot_len (pa_cons (pv 1) pa_nil)) (pe_fld (pv 0) rfl) (nomark _))
          (pss_one (ps_raise rfl (takes_of rfl rfl rfl rfl) (pmk_oex TF.ox TF.iC TF.tI GF hr2 bF .nil pass0 rfl TF.g (pa_cons (pe_glob rfl mtm (rel_int _ _)) (pa_cons (pe_fld (pv 0) rfl) pa_nil))))) pss_nil)
        (Evl.pss_cut (ps_if (PW.pt (pw_and (pt_not (pt_val (pv 3))) (pw_and1 (pt_cmpR (op_eqD hr.units) (pv 1) (pe_lst pa_nil) (by rfl)))))
          (pss_one (ps_raise rfl (takes_of rfl rfl rfl rfl) (pmk_oex TF.ox TF.iC TF.tI GF hr2 bF .nil pass0 rfl TF.g (pa_cons (pe_glob rfl mne (rel_int _ _)) (pa_cons (pe_op op_sub (pe_fld (pv 0) rfl) pe_int) pa_nil))))) pss_nil)
        (Evl.pss_cut (ps_set (i := 2) scLines.nd rfl (.inl rfl) (pe_ifExp (pt_val (pv 3)) (pe_meth0 (pv 0) TR.cl mA GA hr bA .nil (passes_call (takes_of rfl rfl rfl rfl) fun _ _ _ _ h => h)) (pe_meth (pv 0) TR.cl mB GB hr bB .nil (passes_call (takes_of rfl rfl rfl rfl) fun _ _ _ _ h => h) (pa_cons (pv 2) pa_nil))))
        (pss_one (ps_expr (pe_bm PySem.F.plainAttrs_list PySem.F.slot_list_append PySem.F.type_list_append mt_append (pv 1) (pa_cons (pv 2) pa_nil)))))))))))), ?_⟩
    have hm1 := hR.m1
    refine ⟨Nat.zero_le _, fun l nl => ⟨Nat.zero_le _, fun bf nbf => ⟨_, _, rfl, ?_⟩⟩⟩
    have s1 : Same H (upd (upd H l (.lst [])) bf (.lst [])) := (same_upd nl).trans (same_upd nbf)
    have hl0 : upd (upd H l (.lst [])) bf (.lst []) l = some (.lst []) := same_upd nbf _ _ upd_same
    have hb0 : upd (upd H l (.lst [])) bf (.lst []) bf = some (.lst []) := upd_same
    have hbl : bf ≠ l := fun z => by rw [z, upd_same] at nbf; cases nbf
    have nla : l ≠ a := (ne_of_none hR.obj nl).symm
    generalize upd (upd H l (.lst [])) bf (.lst []) = H1 at s1 hl0 hb0
    obtain ⟨z1, z2⟩ := lastR_nil e.w
    refine ⟨fun m σ H' => ∃ (ls : List Ql31.Row) (as : List Addr) (b' : Ql31.Bits) (bf' : Addr) (v3 : Option V), σ = [some (.ref a), some (.ref l), some (.ref bf'), v3] ∧ But a H H' ∧ Rdr C e H' a b' ∧ H' l = some (.lst (as.map V.ref)) ∧ Rws H' l e.w as ls ∧ bf' ≠ l ∧ H' bf' = some (.lst (natsV (chg (lastR e.w ls)))) ∧ (lastR e.w ls).length = e.w ∧
      ls.length ≤ e.most ∧ m + ls.length = e.most + 2 ∧ linesE e.w e.most (e.kind == 1) m ls b' = linesE e.w e.most (e.kind == 1) (e.most + 2) [] b,
      ⟨e.most + 2, [], [], b, bf, none, rfl, s1.but, hR.keep s1, hl0, Rws.nil, hbl, by rw [z2]; exact hb0, z1, Nat.zero_le _, rfl, rfl⟩, ?_⟩
    rintro m σ H' ⟨ls, as, b', bf', v3, rfl, bt, hR', hl, hrw, hbl', hbf, hlw, hlm, hm, heq⟩
    obtain ⟨k, rfl⟩ : ∃ k, m = k + 1 := ⟨m - 1, by omega⟩
    refine ⟨_, rfl, ?_⟩
    refine if_true_of rfl ?_
    refine ⟨_, fun _ _ h => h, ?_⟩
    unfold linesE at heq
    -- the end of line
    refine ⟨_, rfl, a, e.dx, _, rfl, hR'.obj, rdF_out _ _ _ (by decide +kernel), a, e, b', rfl, hR', ?_⟩
    refine Fin1.of (fun u t hz => ?_) (fun x hx => ?_)
    · intro H2 bt2 hR2
      rw [hz] at heq
      dsimp only at heq
      refine ⟨fun σ H' => ∃ (x : Bool) (r : Ql31.Bits), σ = [some (.ref a), some (.ref l), some (.ref bf'), some (.bl x)] ∧ But a H2 H' ∧ Rdr C e H' a r ∧ tagE (e.kind == 1) t = .ok (x, r), ?_, ?_⟩
      · refine ⟨_, rfl, a, C, e.dx, _, _, rfl, hR2.obj, TR.cl, TR.nK, rdF_kind _ _, rfl, _, rfl, ?_⟩
        by_cases hk : e.kind = 1
        · have ek : (e.kind == 1) = true := by rw [hk]; rfl
          refine if_yes (congrArg V.int (by omega)) ?_
          have et : tagE (e.kind == 1) t = oneE t := by
            rw [ek]
            cases t <;> rfl
          refine ⟨_, rfl, a, e.dx, _, rfl, hR2.obj, rdF_out _ _ _ (by decide +kernel), a, e, t, rfl, hR2, ?_⟩
          refine Fin1.of (fun x r hz2 => ?_) (fun x hx => ?_)
          · intro H3 bt3 hR3
            exact ⟨x, r, rfl, bt3, hR3, by rw [et]; exact hz2⟩
          · rw [et, hx] at heq
            exact q.err heq.symm
        · have ek : (e.kind == 1) = false := beq_eq_false_iff_ne.mpr hk
          refine if_no (fun z => hk (by have := V.int.inj z; omega)) ?_
          exact ⟨true, t, rfl, But.refl _ _, hR2, by rw [ek]; rfl⟩
      · rintro σ H3 ⟨x, r, rfl, bt3, hR3, htag⟩
        rw [htag] at heq
        dsimp only at heq
        have btA : But a H' H3 := bt2.trans bt3
        have hl3 : H3 l = some (.lst (as.map V.ref)) := btA _ _ nla hl
        have hrw3 := hrw.but hR'.obj btA
        have hbf3 := lst_but hR'.obj btA hbf
        have hle := hR3.le
        refine ⟨_, rfl, a, e.dx, _, rfl, hR3.obj, rdF_out _ _ _ (by decide +kernel), a, 1, e, r, rfl, .inl rfl, hR3, _, rfl, ?_⟩
        rw [eols1]
        by_cases hp : Ql31.EOL.isPrefixOf r = true
        · rw [if_pos hp] at heq
          refine if_true_of hp ?_
          refine ⟨_, rfl, _, rfl, ?_⟩
          cases x with
          | false =>
            rw [if_pos rfl] at heq
            refine if_true_of rfl ?_
            refine ⟨_, rfl, a, C, e.dx, _, _, rfl, hR3.obj, TR.cl, TR.nP, rdF_place _ _, _, _, rfl, rfl, mkF ((q.err heq.symm).raise (by decide) ?_)⟩
            have hlt : r.length + 1 ≤ e.bits.length := by
              have ht : r.length < t.length := by
                have : tagE (e.kind == 1) t = .ok (false, r) := htag
                cases hk : (e.kind == 1) with
                | false =>
                  rw [hk] at this
                  cases this
                | true =>
                  rw [hk] at this
                  cases t with
                  | nil => cases this
                  | cons y t' =>
                    cases this
                    exact Nat.lt_succ_self _
              have := hR2.le
              omega
            omega
          | true =>
            rw [if_neg Bool.noConfusion] at heq
            refine if_false_of rfl ?_
            refine ⟨_, rfl, a, e.dx, _, rfl, hR3.obj, rdF_out _ _ _ (by decide +kernel), a, e, r, rfl, hR3, ?_⟩
            refine Fin1.of (fun u5 r5 hz5 => ?_) (fun x hx => ?_)
            · intro H4 bt4 hR4
              rw [hz5] at heq
              refine ⟨_, rfl, q.ok heq.symm H4 l as (bt.trans (btA.trans bt4)) hR4 (bt4 _ _ nla hl3) (hrw3.but hR3.obj bt4)⟩
            · rw [hx] at heq
              exact q.err heq.symm
        · have hp' : Ql31.EOL.isPrefixOf r = false := Bool.eq_false_iff.mpr hp
          rw [if_neg hp] at heq
          refine if_false_of hp' ?_
          refine ⟨_, rfl, l, _, rfl, .inl (SqL.of hl3), _, rfl, a, C, e.dx, _, _, rfl, hR3.obj, TR.cl, TR.nM, rdF_most _ _, rfl, _, rfl, ?_⟩
          rw [List.length_map, hrw3.len]
          by_cases hmo : ls.length = e.most
          · refine if_yes (congrArg V.int (by omega)) ?_
            rw [if_pos (by omega)] at heq
            exact ⟨_, rfl, a, C, e.dx, _, _, rfl, hR3.obj, TR.cl, TR.nP, rdF_place _ _, mkF ((q.err heq.symm).raise (by decide) rfl)⟩
          · refine if_no (fun z => hmo (by have := V.int.inj z; omega)) ?_
            rw [if_neg (by omega)] at heq
            refine ⟨fun σ H' => σ = [some (.ref a), some (.ref l), some (.ref bf'), some (.bl x)] ∧ Same H3 H' ∧ (x = false → ls ≠ []), ?_, ?_⟩
            · refine ⟨_, rfl, _, rfl, ?_⟩
              cases x with
              | true =>
                refine if_false_of rfl ?_
                exact ⟨rfl, fun _ _ z => z, fun z => Bool.noConfusion z⟩
              | false =>
                refine if_true_of rfl ?_
                refine ⟨_, rfl, Nat.zero_le _, fun y ny => ?_⟩
                refine rows_nil (same_upd ny _ _ hl3) (hrw3.keep fun x ys _ hx => same_upd ny _ _ hx) upd_same ⟨_, rfl, ?_⟩
                by_cases hls : ls = []
                · refine if_yes hls ?_
                  rw [if_neg Bool.noConfusion, if_pos hls] at heq
                  have hlt : r.length + 1 ≤ e.bits.length := by
                    have ht : r.length < t.length := by
                      have : tagE (e.kind == 1) t = .ok (false, r) := htag
                      cases hk : (e.kind == 1) with
                      | false =>
                        rw [hk] at this
                        cases this
                      | true =>
                        rw [hk] at this
                        cases t with
                        | nil => cases this
                        | cons y t' =>
                          cases this
                          exact Nat.lt_succ_self _
                    have := hR2.le
                    omega
                  refine ⟨_, rfl, a, C, e.dx, _, _, rfl, (same_upd ny _ _ hR3.obj), TR.cl, TR.nP, rdF_place _ _, _, _, rfl, rfl, mkF ((q.err heq.symm).raise (by decide) ?_)⟩
                  omega
                · refine if_no hls ?_
                  exact ⟨rfl, same_upd ny, fun _ => hls⟩
            · rintro σ H4 ⟨rfl, sm4, hx4⟩
              have hR4 := hR3.keep sm4
              have hl4 := sm4 _ _ hl3
              have hrw4 : Rws H4 l e.w as ls := hrw3.keep fun x ys _ hx => sm4 _ _ hx
              have hbf4 := sm4 _ _ hbf3
              have btB : But a H' H4 := btA.trans sm4.but
              refine ⟨fun σ H' => ∃ (p2 : Addr) (row : Ql31.Row) (u2 : Ql31.Bits), σ = [some (.ref a), some (.ref l), some (.ref p2), some (.bl x)] ∧ But a H4 H' ∧ Rdr C e H' a u2 ∧ H4 p2 = none ∧ H' p2 = some (.lst (natsV (chg row))) ∧ row.length = e.w ∧
                (if x = true then Ql31.readAlone e.w (e.w + 4) false [] r else if ls = [] then .error (Ql31.LINE, r.length + 1) else Ql31.readBeside e.w (ls.getLast?.getD (List.replicate e.w false)) (2 * e.w + 4) (-1) false [] r) = .ok (row, u2), ?_, ?_⟩
              · refine ⟨_, rfl, _, rfl, ?_⟩
                cases x with
                | true =>
                  refine if_true_of rfl ?_
                  refine ⟨_, rfl, a, e.dx, _, rfl, hR4.obj, rdF_out _ _ _ (by decide +kernel), a, e, r, rfl, hR4, ?_⟩
                  refine Fin1.of (fun row u2 hz2 => ?_) (fun x hx => ?_)
                  · intro H5 p2 hrl bt5 hR5 np hp2
                    exact ⟨p2, row, u2, rfl, bt5, hR5, np, hp2, hrl, by rw [if_pos rfl]; exact hz2⟩
                  · rw [if_pos rfl, hx] at heq
                    exact q.err heq.symm
                | false =>
                  refine if_false_of rfl ?_
                  have hne := hx4 rfl
                  refine ⟨_, rfl, a, e.dx, _, rfl, hR4.obj, rdF_out _ _ _ (by decide +kernel), _, rfl, a, bf', e, r, lastR e.w ls, rfl, hR4, hlw, hbf4, ?_⟩
                  refine Fin1.of (fun row u2 hz2 => ?_) (fun x hx => ?_)
                  · intro H5 p2 hrl bt5 hR5 np hp2
                    exact ⟨p2, row, u2, rfl, bt5, hR5, np, hp2, hrl, by rw [if_neg Bool.noConfusion, if_neg hne]; exact hz2⟩
                  · have hx' : Ql31.readBeside e.w (ls.getLast?.getD (List.replicate e.w false)) (2 * e.w + 4) (-1) false [] r = .error x := hx
                    rw [if_neg Bool.noConfusion, if_neg hne, hx'] at heq
                    exact q.err heq.symm
              · rintro σ H5 ⟨p2, row, u2, rfl, bt5, hR5, np, hp2, hrl, hres⟩
                rw [hres] at heq
                dsimp only at heq
                obtain ⟨hl5, bt6, hl6, hrw6, hp6, hpl⟩ := row_add hl4 hrw4 bt5 nla np hp2 hrl (fun x ys hx => ne_of hx hR4.obj (by intro z; cases z))
                have hR6 := hR.over nl hR5 bt6
                refine ⟨_, rfl, .inl ⟨rfl, _, .inl (.inl hl5)⟩, _, rfl, l, _, _, rfl, rfl, hl5, ?_, ?_⟩
                · rw [List.length_map, hrw.len, sizeLine_eq]
                  omega
                refine ⟨k, by omega, ls ++ [row], as ++ [p2], u2, p2, _, rfl, fun x o hx ho => bt6 x o (ne_of_none ho nl) (bt5 x o hx (btB x o hx (bt x o hx ho))), hR6, hl6, hrw6, hpl, ?_, ?_, ?_, ?_, heq⟩
                · rw [lastR_snoc]
                  exact hp6
                · rw [lastR_snoc]
                  exact hrl
                · rw [List.length_append]
                  show ls.length + 1 ≤ _
                  omega
                · rw [List.length_append]
                  show k + (ls.length + 1) = _
                  omega
    · rw [hx] at heq
      exact q.err heq.symm
theorem ok_page {f fP fL fR : Addr} {fd fdP fdL fdR : FuncData} (F : Fun K "page" "Reader.page" sPage f fd) (TX : Txt K mg) (TR : RdT K mg C)
    (mP : Meth K C "plain_lines" fP) (GP : FnOk P w K mg base (L2.CX P w) 6 fP fdP ["self"] (spPlain C CF)) (bP : Binds K fdP ["self"] [])
    (mL : Meth K C "lines" fL) (GL : FnOk P w K mg base (L2.CX P w) 6 fL fdL ["self"] (spLines C CF)) (bL : Binds K fdL ["self"] [])
    (mR : Meth K C "check_rest" fR) (GR : FnOk P w K mg base (L2.CX P w) 3 fR fdR ["self"] (spRest C CF)) (bR : Binds K fdR ["self"] []) :
    FnOk P w K mg base (L2.CX P w) 7 f fd ["self"] (spPage C CF) := by
  refine F.okX scPage (fun vs H Q E h => ?_) (fun cdv A outer s H vs Q E hr h => ?_)
  · obtain ⟨a, e, b, rfl, _⟩ := h
    rfl
  · obtain ⟨a, e, b, rfl, hR, q⟩ := h
    have hr3 : Room 3 _ := hr.mono (by decide)
    refine ⟨_, Evl.pss_cut (ps_set (i := 1) scPage.nd rfl (.inl rfl) (pe_ifExp (pt_cmpR op_eq (pe_fld (pv 0) rfl) pe_int (nomark _)) (pe_meth0 (pv 0) TR.cl mP GP hr bP .nil (passes_call (takes_of rfl rfl rfl rfl) fun _ _ _ _ h => h)) (pe_meth0 (pv 0) TR.cl mL GL hr bL .nil (passes_call (takes_of rfl rfl rfl rfl) fun _ _ _ _ h => h))))
      (pss_cons (ps_expr (pe_meth0 (pv 0) TR.cl mR GR hr3 bR .nil (passes_call (takes_of rfl rfl rfl rfl) fun _ _ _ _ h => h)))
      (pss_one (ps_ret (pv 1)))), ?_⟩
    refine ⟨fun σ H' => ∃ (p : Addr) (as : List Addr) (l : List Ql31.Row) (r : Ql31.Bits), σ = [some (.ref a), some (.ref p)] ∧ Rdr C e H' a r ∧ H' p = some (.lst (as.map V.ref)) ∧ Rws H' p e.w as l ∧ rowsE e.kind e.w e.most b = .ok (l, r), ?_, ?_⟩
    · refine ⟨_, rfl, a, C, e.dx, _, _, rfl, hR.obj, TR.cl, TR.nK, rdF_kind _ _, rfl, _, rfl, ?_⟩
      by_cases hk : e.kind = 2
      · have er : rowsE e.kind e.w e.most b = plainE e.w e.most (e.most + 2) [] b := if_pos hk
        refine if_yes (congrArg V.int (by omega)) ?_
        refine ⟨_, rfl, a, e.dx, _, rfl, hR.obj, rdF_out _ _ _ (by decide +kernel), a, e, b, rfl, hR, ?_⟩
        refine Fin1.of (fun l r hz => ?_) (fun x hx => ?_)
        · intro H2 p as bt2 hR2 hp hrw
          exact ⟨p, as, l, r, rfl, hR2, hp, hrw, by rw [er]; exact hz⟩
        · refine q.err ?_
          rw [er, hx]
          rfl
      · have er : rowsE e.kind e.w e.most b = linesE e.w e.most (e.kind == 1) (e.most + 2) [] b := if_neg hk
        refine if_no (fun z => hk (by have := V.int.inj z; omega)) ?_
        refine ⟨_, rfl, a, e.dx, _, rfl, hR.obj, rdF_out _ _ _ (by decide +kernel), a, e, b, rfl, hR, ?_⟩
        refine Fin1.of (fun l r hz => ?_) (fun x hx => ?_)
        · intro H2 p as bt2 hR2 hp hrw
          exact ⟨p, as, l, r, rfl, hR2, hp, hrw, by rw [er]; exact hz⟩
        · refine q.err ?_
          rw [er, hx]
          rfl
    · rintro σ H2 ⟨p, as, l, r, rfl, hR2, hp, hrw, hz⟩
      refine ⟨_, rfl, a, e.dx, _, rfl, hR2.obj, rdF_out _ _ _ (by decide +kernel), a, e, r, rfl, hR2, ?_⟩
      refine Fin1.of (fun u r3 hz3 => ?_) (fun x hx => ?_)
      · have : checked (rowsE e.kind e.w e.most b) = .ok (l, r3) := by
          rw [hz]
          unfold checked
          dsimp only
          rw [hz3]
        exact ⟨_, rfl, q.ok this _ p as hp hrw⟩
      · refine q.err ?_
        rw [hz]
        unfold checked
        dsimp only
        rw [hx]
end
end Fax2
set_option Elab.async false
set_option linter.all false
set_option maxRecDepth 100000
set_option maxHeartbeats 4000000
namespace Fax2
open PySem PySem.Spec PyProof.Rows L2 Fax
/-! ### ways_by_code -/
def wayTab : List (Key × V) := [(.inr "0001", .str "0001"), (.inr "001", .str "001"), (.inr "0000010", .int (-3)), (.inr "000010", .int (-2)), (.inr "010", .int (-1)), (.inr "1", .int 0), (.inr "011", .int 1), (.inr "000011", .int 2), (.inr "0000011", .int 3)]
def wayBits : List Ql31.Bits := [Ql31.bitsOf "0001", Ql31.bitsOf "001", Ql31.bitsOf "0000010", Ql31.bitsOf "000010", Ql31.bitsOf "010", Ql31.bitsOf "1", Ql31.bitsOf "011", Ql31.bitsOf "000011", Ql31.bitsOf "0000011"]
theorem wayTab_keys : wayTab.map (·.1) = wayBits.map fun b => Sum.inr (T b) := by decide +kernel
theorem wayTab_nodup : (wayTab.map (·.1)).Nodup := by decide +kernel
theorem wayTab_of : TabOf wayTab wayL (valM 2) := by
  constructor
  · have h : (wayL.all fun x => decide (valV wayTab (.inr (T x.2)) = some (valM 2 x.1))) = true := by decide +kernel
    intro z k hm
    exact of_decide_eq_true (List.all_eq_true.mp h (z, k) hm)
  · intro k hk
    refine valV_none_of fun hm => ?_
    rw [wayTab_keys] at hm
    obtain ⟨b, hb, e⟩ := List.mem_map.mp hm
    have e2 : b = k := T_inj (Sum.inr.inj e)
    subst e2
    have h : (wayBits.all fun b => wayL.any fun x => decide (x.2 = b)) = true := by decide +kernel
    obtain ⟨x, hx, e3⟩ := List.any_eq_true.mp (List.all_eq_true.mp h b hb)
    have e4 : x.2 = b := of_decide_eq_true e3
    exact hk x.1 (by rw [← e4]; exact hx)
theorem codTab_of (d : Bool) : TabOf (codTab d) (codL d) (fun z => .int z) := by
  constructor
  · intro z k hm
    obtain ⟨n, hn, e⟩ := List.mem_map.mp hm
    cases e
    obtain ⟨i, hi⟩ := List.getElem?_of_mem hn
    exact valV_at (codTab_nodup d) (codTab_get d i n hi)
  · intro k hk
    refine valV_none_of fun hm => ?_
    rw [codTab_keys] at hm
    obtain ⟨b, hb, e⟩ := List.mem_map.mp hm
    have e2 : b = k := T_inj (Sum.inr.inj e)
    subst e2
    obtain ⟨n, hn, e3⟩ := List.mem_map.mp hb
    exact hk (n : Int) (List.mem_map.mpr ⟨n, hn, by rw [e3]⟩)
def spWays : Sp := fun vs H Q _ => vs = [] ∧ ∀ (H' : Hp) (p : Addr), Same H H' → H' p = some (.dK wayTab) → Q (.ref p) H'
theorem scWays : FnScope ["found", "number", "code"] [] (defScope sWays) := ⟨rfl, rfl, rfl, by decide +kernel, rfl, by decide +kernel, by decide +kernel⟩
theorem merge2 : mergeK [] [((.inr "0001" : Key), V.str "0001"), (.inr "001", V.str "001")] = wayTab.take 2 := by decide +kernel
/-! ### beginnings -/
def spBeg : Sp := fun vs H Q _ => ∃ (c : Addr) (bs : List Ql31.Bits), vs = [.ref c] ∧ H c = some (.lst ((bs.map T).map V.str)) ∧ bs.length ≤ 1000 ∧ (∀ b ∈ bs, b.length ≤ 20) ∧
  ∀ (H' : Hp) (p : Addr) (kvs : List (Key × V)), Same H H' → H' p = some (.dK kvs) → (∀ k : Ql31.Bits, (valV kvs (.inr (T k))).isSome = true ↔ ∃ b ∈ bs, k <+: b ∧ k ≠ b) → Q (.ref p) H'
theorem scBeg : FnScope ["codes", "found", "code", "size"] ["codes"] (defScope sBeg) := ⟨rfl, rfl, rfl, by decide +kernel, rfl, by decide +kernel, by decide +kernel⟩
theorem valV_putT (kvs : List (Key × V)) (k j : Ql31.Bits) (v : V) : (valV (putK kvs (.inr (T k)) v) (.inr (T j))).isSome = true ↔ j = k ∨ (valV kvs (.inr (T j))).isSome = true := by
  rw [valV_put]
  by_cases h : j = k
  · subst h
    rw [if_pos rfl]
    exact ⟨fun _ => .inl rfl, fun _ => rfl⟩
  · rw [if_neg fun z => h (T_inj (Sum.inr.inj z))]
    exact ⟨fun z => .inr z, fun z => z.resolve_left h⟩
/-! ### bits_of -/
def spBits (K : PySem.W.Frag) : Sp := fun vs H Q _ => ∃ (c : Addr) (l : List Nat), vs = [.ref c] ∧ SqL K H c (natsV l) ∧ (∀ n ∈ l, n < 256) ∧ l.length ≤ 100000 ∧ ∀ H' : Hp, Same H H' → Q (.str (T (bitsNs l))) H'
theorem scBits : FnScope ["data", "signs", "byte", "bit"] ["data"] (defScope sBits) := ⟨rfl, rfl, rfl, by decide +kernel, rfl, by decide +kernel, by decide +kernel⟩
section
variable {P : Program} {w : World} {K : PySem.W.Frag} {mg : Str → Option Value} {base : Heap}
theorem ok_ways {f : Addr} {fd : FuncData} (F : Fun K "ways_by_code" "ways_by_code" sWays f fd) (TX : Txt K mg) (TS : Straight K mg) : FnOk P w K mg base CX0 1 f fd [] spWays := by
  refine F.ok scWays (fun vs H Q E h => ?_) (fun cdv A outer s H vs Q E hr h => ?_)
  · obtain ⟨rfl, _⟩ := h
    rfl
  · obtain ⟨rfl, q⟩ := h
    have hu := hu_of hr
    obtain ⟨tp, mp⟩ := TX.pass
    obtain ⟨ta, ma⟩ := TX.across
    obtain ⟨aS, mS, hS⟩ := TS.is
    refine ⟨_, pss_cons (ps_set (i := 0) scWays.nd rfl (.inl rfl) (pe_disp (pps_cons (pe_glob rfl mp (rel_str _ _)) (pe_glob rfl mp (rel_str _ _)) (pps_cons (pe_glob rfl ma (rel_str _ _)) (pe_glob rfl ma (rel_str _ _)) pps_nil)) (by rfl) (by rfl) (by simp) (by decide)))
      (pss_cons (ps_for PassesOwn.never rfl (pi_enumT (by rfl) TX.enum (pa_cons (pe_glob rfl mS (rel_ref _)) pa_nil)) (pg_tup rfl (pgs_cons (pg_name (i := 1) scWays.nd rfl (.inl rfl)) (pgs_cons (pg_name (i := 2) scWays.nd rfl (.inl rfl)) pgs_nil)))
        (pss_one (ps_dput hu (pv 0) (pv 2) (pe_op op_sub (pv 1) pe_int) rfl)))
      (pss_one (ps_ret (pv 0)))), ?_⟩
    refine fun p np => ⟨upd_same, [((.inr "0001" : Key), V.str "0001"), (.inr "001", V.str "001")], rfl, by decide, ?_⟩
    rw [merge2]
    refine ⟨aS, straights, rfl, hS _, for_enumT (K := K) (a := aS) (xs := straights) (fun i σ H' => ∃ v1 v2, σ = [some (.ref p), v1, v2] ∧ Same H H' ∧ H' p = some (.dK (wayTab.take (2 + i))) ∧ i ≤ 7) ⟨none, none, rfl, ?_, upd_same, Nat.zero_le _⟩ hS ?_ ?_⟩
    · intro b o e
      rw [upd_ne (ne_of_none e np), upd_ne (ne_of_none e np)]
      exact e
    · rintro i x TT σ H' hx nT ⟨v1, v2, rfl, sm, hp, _⟩
      have hi : i < 7 := (List.getElem?_eq_some_iff.mp hx).1
      refine ⟨TT, _, rfl, .inl (.inl upd_same), rfl, _, _, rfl, _, _, rfl, rfl, ?_⟩
      have m1 : p ≠ TT := ne_of_none hp nT
      obtain ⟨t, ht⟩ : ∃ t : Str, x = V.str t ∧ wayTab[2 + i]? = some (.inr t, .int ((i : Int) - 3)) := by
        have h : ∀ j, j < 7 → straights[j]? = wayTab[2 + j]?.map (fun kv => kV kv.1) ∧ wayTab[2 + j]?.map (·.2) = some (.int ((j : Int) - 3)) := by
          intro j hj
          match j, hj with
          | 0, _ => exact ⟨rfl, rfl⟩
          | 1, _ => exact ⟨rfl, rfl⟩
          | 2, _ => exact ⟨rfl, rfl⟩
          | 3, _ => exact ⟨rfl, rfl⟩
          | 4, _ => exact ⟨rfl, rfl⟩
          | 5, _ => exact ⟨rfl, rfl⟩
          | 6, _ => exact ⟨rfl, rfl⟩
        have hk : ∀ kv ∈ wayTab, ∃ t : Str, kv.1 = Sum.inr t := by
          intro kv hkv
          have : kv.1 ∈ wayTab.map (·.1) := List.mem_map_of_mem hkv
          rw [wayTab_keys] at this
          obtain ⟨b, _, e⟩ := List.mem_map.mp this
          exact ⟨_, e.symm⟩
        obtain ⟨h1, h2⟩ := h i hi
        cases hw : wayTab[2 + i]? with
        | none => rw [hw] at h2; cases h2
        | some kv =>
          rw [hw] at h1 h2
          obtain ⟨t, et⟩ := hk kv (List.mem_of_getElem? hw)
          obtain ⟨k, v⟩ := kv
          dsimp only at et
          subst et
          rw [hx] at h1
          refine ⟨t, Option.some.inj h1, ?_⟩
          have e2 : v = .int ((i : Int) - 3) := Option.some.inj h2
          rw [e2]
      obtain ⟨rfl, hw⟩ := ht
      refine ⟨_, rfl, _, _, rfl, rfl, _, rfl, _, rfl, p, _, rfl, DPut.k (k := .inr t) (by rw [upd_ne m1]; exact hp) (by rw [List.length_take]; exact small1000 (by omega)), ?_⟩
      dsimp only
      rw [put_take wayTab_nodup hw]
      refine ⟨_, _, rfl, ?_, upd_same, hi⟩
      intro b o e
      rw [upd_ne (ne_of_none e np), upd_ne (ne_of_none (sm b o e) nT)]
      exact sm b o e
    · rintro σ H' ⟨v1, v2, rfl, sm, hp, _⟩
      exact ⟨_, rfl, q H' p sm hp⟩
theorem ok_beg {f : Addr} {fd : FuncData} (F : Fun K "beginnings" "beginnings" sBeg f fd) (TX : Txt K mg) : FnOk P w K mg base CX0 1 f fd ["codes"] spBeg := by
  refine F.ok scBeg (fun vs H Q E h => ?_) (fun cdv A outer s H vs Q E hr h => ?_)
  · obtain ⟨c, bs, rfl, _⟩ := h
    rfl
  · obtain ⟨c, bs, rfl, hc, hbl, hb20, q⟩ := h
    have hu := hu_of hr
    refine ⟨_, pss_cons (ps_set (i := 1) scBeg.nd rfl (.inl rfl) pe_dnewK)
      (pss_cons (ps_for PassesOwn.never rfl (pi_list (pv 0)) (pg_name (i := 2) scBeg.nd rfl (.inl rfl))
        (pss_one (ps_for PassesOwn.never rfl (pi_range1 (by rfl) TX.range (pa_cons (pe_callB call_len_str (by rfl) TX.len PySem.boot_len (pa_cons (pv 2) pa_nil)) pa_nil)) (pg_name (i := 3) scBeg.nd rfl (.inl rfl))
          (pss_one (ps_dput hu (pv 1) (pe_slice sl_str (pv 2) po_none (po_some (pv 3))) pe_bl rfl)))))
      (pss_one (ps_ret (pv 1)))), ?_⟩
    intro p np
    have s0 : Same H (upd H p (.dK [])) := same_upd np
    refine ⟨_, rfl, c, rfl, ⟨_, SqL.of (s0 _ _ hc)⟩, for_list (K := K) (a := c) (xs := (bs.map T).map V.str) (fun i σ H' => ∃ v2 v3 kvs, σ = [some (.ref c), some (.ref p), v2, v3] ∧ Same H H' ∧ H' p = some (.dK kvs) ∧ kvs.length ≤ 20 * i ∧ i ≤ bs.length ∧
      ∀ k : Ql31.Bits, (valV kvs (.inr (T k))).isSome = true ↔ ∃ b ∈ bs.take i, k <+: b ∧ k ≠ b) ⟨none, none, [], rfl, s0, upd_same, Nat.le_refl _, Nat.zero_le _, fun k => ⟨fun h => absurd h (by rw [valV_nil]; exact Bool.noConfusion), fun ⟨b, hb, _⟩ => (by simp at hb)⟩⟩ (fun i σ H' _ ⟨_, _, _, _, sm, _⟩ => SqL.of (sm _ _ hc)) ?_ ?_⟩
    · rintro i x σ H' hx ⟨v2, v3, kvs, rfl, sm, hp, hlen, _, hk⟩
      have hi : i < bs.length := by
        have := (List.getElem?_eq_some_iff.mp hx).1
        simpa using this
      have ex : x = V.str (T bs[i]) := by
        rw [List.getElem?_map, List.getElem?_map, List.getElem?_eq_getElem hi] at hx
        exact (Option.some.inj hx).symm
      subst ex
      have hbi : bs[i].length ≤ 20 := hb20 _ (List.getElem_mem hi)
      have tk : bs.take (i + 1) = bs.take i ++ [bs[i]] := List.take_succ_eq_append_getElem hi
      have tsz : (T bs[i]).length ≤ sizeLine := by
        rw [T_len, sizeLine_eq]
        omega
      refine ⟨_, rfl, _, rfl, tsz, ?_⟩
      rw [T_len]
      generalize bs[i] = b at *
      refine ⟨b.length, rfl, by omega, by omega, for_range (lo := 0) (n := b.length) (fun j σ H' => ∃ v3 kvs, σ = [some (.ref c), some (.ref p), some (.str (T b)), v3] ∧ Same H H' ∧ H' p = some (.dK kvs) ∧ kvs.length ≤ 20 * i + j ∧ j ≤ b.length ∧
        ∀ k : Ql31.Bits, (valV kvs (.inr (T k))).isSome = true ↔ ((∃ b ∈ bs.take i, k <+: b ∧ k ≠ b) ∨ ∃ s, s < j ∧ k = b.take s)) ⟨v3, kvs, rfl, sm, hp, hlen, Nat.zero_le _, fun k => ⟨fun h => .inl ((hk k).mp h), fun h => (hk k).mpr (h.resolve_right fun ⟨s, hs, _⟩ => Nat.not_lt_zero _ hs)⟩⟩ ?_ ?_⟩
      · rintro j σ H' hj ⟨v3, kvs, rfl, sm, hp, hlen, _, hk⟩
        refine ⟨_, rfl, _, rfl, _, rfl, _, rfl, _, rfl, tsz, ?_⟩
        have ecut : cutS (T b) none (some ((0 : Int) + (j : Int))) = T (b.take j) := by
          rw [show (0 : Int) + (j : Int) = ((j : Nat) : Int) by omega, cut_first]
        rw [ecut]
        refine ⟨p, _, rfl, DPut.k (k := .inr (T (b.take j))) hp (by rw [sizeLine_eq]; omega), ?_⟩
        refine ⟨_, _, rfl, ?_, upd_same, ?_, hj, fun k => ?_⟩
        · intro y o e
          rw [upd_ne (ne_of_none e np)]
          exact sm y o e
        · have := length_putK kvs (.inr (T (b.take j))) (V.bl true)
          omega
        · rw [valV_putT, hk]
          constructor
          · rintro (h | h | ⟨s, hs, h⟩)
            · exact .inr ⟨j, Nat.lt_succ_self _, h⟩
            · exact .inl h
            · exact .inr ⟨s, by omega, h⟩
          · rintro (h | ⟨s, hs, h⟩)
            · exact .inr (.inl h)
            · rcases Nat.lt_or_eq_of_le (Nat.le_of_lt_succ hs) with z | z
              · exact .inr (.inr ⟨s, z, h⟩)
              · subst z
                exact .inl h
      · rintro σ H' ⟨v3, kvs, rfl, sm, hp, hlen, _, hk⟩
        refine ⟨_, _, kvs, rfl, sm, hp, by omega, hi, fun k => ?_⟩
        rw [hk, tk]
        constructor
        · rintro (⟨b', h1, h2⟩ | ⟨s, hs, h⟩)
          · exact ⟨b', List.mem_append_left _ h1, h2⟩
          · refine ⟨b, List.mem_append_right _ (List.mem_singleton.mpr rfl), ?_, ?_⟩
            · rw [h]
              exact List.take_prefix _ _
            · intro z
              have := congrArg List.length h
              rw [z, List.length_take] at this
              omega
        · rintro ⟨b', h1, h2, h3⟩
          rcases List.mem_append.mp h1 with h | h
          · exact .inl ⟨b', h, h2, h3⟩
          · rw [List.mem_singleton] at h
            subst h
            refine .inr ⟨k.length, ?_, List.prefix_iff_eq_take.mp h2⟩
            have := h2.length_le
            rcases Nat.lt_or_eq_of_le this with z | z
            · exact z
            · exact absurd (h2.eq_of_length z) h3
    · rintro σ H' ⟨v2, v3, kvs, rfl, sm, hp, hlen, _, hk⟩
      have hll : ((bs.map T).map V.str).length = bs.length := by rw [List.length_map, List.length_map]
      rw [hll, List.take_length] at hk
      exact ⟨_, rfl, q H' p kvs sm hp hk⟩
end
end Fax2
set_option Elab.async false
set_option linter.all false
set_option maxRecDepth 100000
set_option maxHeartbeats 4000000
namespace Fax2
open PySem PySem.Spec PyProof.Rows L2 Fax
theorem point_is (n j : Nat) (h : j < 8) : Builtin.bitAnd ((n : Int) / 2 ^ (7 - (0 + (j : Int))).toNat) 1 = ((n.testBit (7 - j)).toNat : Int) := by
  have e : (7 - (0 + (j : Int))).toNat = 7 - j := by omega
  rw [e, bitAnd_m1, Nat.toNat_testBit]
  have e2 : ((n : Int) / 2 ^ (7 - j)) = ((n / 2 ^ (7 - j) : Nat) : Int) := by
    rw [Int.natCast_ediv, Int.natCast_pow]
    rfl
  rw [e2]
  omega
theorem bitsN_get (n j : Nat) (h : j < 8) : (bitsN n)[j]? = some (n.testBit (7 - j)) := by
  unfold bitsN
  rw [List.getElem?_map, List.getElem?_range h]
  rfl
theorem bitsN_take (n j : Nat) (h : j < 8) : (bitsN n).take (j + 1) = (bitsN n).take j ++ [n.testBit (7 - j)] := by
  have := bitsN_get n j h
  obtain ⟨hj, e⟩ := List.getElem?_eq_some_iff.mp this
  rw [List.take_succ_eq_append_getElem hj, e]
theorem tYes_of {σ : L2.St} {H : Hp} {A B : Hp → Prop} (h : A H) : tYes σ H (fun b H3 => if b = true then A H3 else B H3) := by
  show if true = true then A H else B H
  rw [if_pos rfl]
  exact h
theorem T_one : T [true] = "1" ∧ T [false] = "0" := by decide +kernel
theorem flat_ones : ∀ b : Ql31.Bits, (b.map fun x => [x]).flatten = b
  | [] => rfl
  | x :: b => by rw [List.map_cons, List.flatten_cons, flat_ones b]; rfl
theorem join_is (l : List Ql31.Bits) : Txt.join (Str.ofString "") (l.map T) = T l.flatten := by
  have e0 : Str.ofString "" = Str.empty := by decide +kernel
  rw [e0, show Txt.join Str.empty (l.map T) = Str.join Str.empty (l.map T) from PySem.StrLaws.glued_eq_join _ _]
  exact join_T l
theorem sum_len : ∀ l : List Ql31.Bits, ((l.map T).map (·.length)).sum = l.flatten.length
  | [] => rfl
  | b :: l => by
    rw [List.map_cons, List.map_cons, List.sum_cons, sum_len l, List.flatten_cons, List.length_append, T_len]
section
variable {P : Program} {w : World} {K : PySem.W.Frag} {mg : Str → Option Value} {base : Heap}
theorem ok_bits {f : Addr} {fd : FuncData} (F : Fun K "bits_of" "bits_of" sBits f fd) (TX : Txt K mg) : FnOk P w K mg base CX0 1 f fd ["data"] (spBits K) := by
  refine F.ok scBits (fun vs H Q E h => ?_) (fun cdv A outer s H vs Q E hr h => ?_)
  · obtain ⟨c, l, rfl, _⟩ := h
    rfl
  · obtain ⟨c, l, rfl, hc, h256, hlen, q⟩ := h
    refine ⟨_, pss_cons (ps_set (i := 1) scBits.nd rfl (.inr rfl) (pe_lst pa_nil))
      (pss_cons (ps_for PassesOwn.never rfl (pi_range1 (by rfl) TX.range (pa_cons pe_int pa_nil)) (pg_name (i := 2) scBits.nd rfl (.inr rfl))
        (pss_one (ps_expr (pe_bm PySem.F.plainAttrs_list PySem.F.slot_list_append PySem.F.type_list_append mt_append (pv 1) (pa_cons (pe_join pe_str
          (pe_lc (own := [("bit", 3)]) (g := gName 3) (tt := tYes) rfl scBits.nd (pi_range1 (by rfl) TX.range (pa_cons pe_int pa_nil)) (blkOk_by (N := ["data", "signs", "byte", "bit"]) (sc := defScope sBits) (by decide +kernel))
            (fun _ _ _ _ _ => pg_name (i := 3) scBits.nd rfl (.inl rfl)) (fun _ _ _ _ _ => pts_nil)
            (fun _ _ _ _ _ => pe_ifExp (pt_cmpR op_eq (pe_op op_and (pe_op op_shr (pv 2) (pe_op op_sub pe_int (pv 3))) pe_int) pe_int (nomark _)) pe_str pe_str))) pa_nil)))))
      (pss_one (ps_ret (pe_join pe_str
        (pe_lc (own := [("byte", 2)]) (g := gName 2) (tt := tYes) rfl scBits.nd (pi_list (pv 0)) (blkOk_by (N := ["data", "signs", "byte", "bit"]) (sc := defScope sBits) (by decide +kernel))
            (fun _ _ _ _ _ => pg_name (i := 2) scBits.nd rfl (.inl rfl)) (fun _ _ _ _ _ => pts_nil)
            (fun _ _ _ _ _ => pe_ix (r := rIxL K) ix_list (pv 1) (pv 2) (fun _ _ => rfl))))))), ?_⟩
    refine ⟨Nat.zero_le _, fun g ng => ?_⟩
    have s0 : Same H (upd H g (.lst [])) := same_upd ng
    refine ⟨256, rfl, by decide, by decide, for_range (lo := 0) (n := 256) (fun i σ H' => ∃ v2, σ = [some (.ref c), some (.ref g), v2, none] ∧ Same H H' ∧ H' g = some (.lst ((List.range i).map fun m => V.str (T (bitsN m)))) ∧ i ≤ 256) ⟨none, rfl, s0, upd_same, Nat.zero_le _⟩ ?_ ?_⟩
    · rintro n σ H' hn ⟨v2, rfl, sm, hg, _⟩
      refine ⟨_, rfl, .inl ⟨rfl, _, .inl (.inl hg)⟩, ?_⟩
      refine ⟨⟨_, rfl⟩, 8, rfl, by decide, by decide, fun D nD => ?_⟩
      have hgD : g ≠ D := ne_of_none hg nD
      refine lc_range (lo := 0) (n := 8) (fun i H2 => Same H' H2 ∧ H2 D = some (.lst (((bitsN n).take i).map fun x => V.str (T [x])))) ⟨same_upd nD, upd_same⟩ ?_ ?_
      · rintro j H2 hj ⟨sm2, hD⟩
        refine ⟨rfl, ?_⟩
        refine tYes_of ?_
        refine ⟨_, rfl, _, rfl, _, _, rfl, rfl, _, _, rfl, rfl, (by show (0 : Int) ≤ 7 - (0 + (j : Int)); omega), _, _, rfl, rfl, rfl, _, rfl, ?_⟩
        have fin : ∀ y : V, y = V.str (T [n.testBit (7 - j)]) → ∃ acc, H2 D = some (.lst acc) ∧ acc.length < sizeLine ∧ (Same H' (upd H2 D (.lst (acc ++ [y]))) ∧ upd H2 D (.lst (acc ++ [y])) D = some (.lst (((bitsN n).take (j + 1)).map fun x => V.str (T [x])))) := fun y hy => by
          subst hy
          refine ⟨_, hD, ?_, ?_, ?_⟩
          · rw [List.length_map, List.length_take, sizeLine_eq]
            omega
          · intro b o e
            rw [upd_ne (ne_of_none e nD)]
            exact sm2 b o e
          · rw [bitsN_take n j hj, List.map_append]
            exact upd_same
        have tb : ∀ z : Int, Builtin.bitAnd (((0 : Int) + (n : Int)) / 2 ^ (7 - (0 + (j : Int))).toNat) 1 = z → z = ((n.testBit (7 - j)).toNat : Int) := fun z h => by
          rw [← h, show (0 : Int) + (n : Int) = ((n : Nat) : Int) by omega, point_is n j hj]
        refine if_dec (fun h => fin _ ?_) (fun h => fin _ ?_)
        · have h2 := tb 1 (V.int.inj h)
          cases hb : n.testBit (7 - j) with
          | true => rw [T_one.1]
          | false =>
            rw [hb] at h2
            cases h2
        · cases hb : n.testBit (7 - j) with
          | true =>
            have h2 := tb _ rfl
            rw [hb] at h2
            exact absurd (congrArg V.int h2) h
          | false => rw [T_one.2]
      · rintro H2 ⟨sm2, hD⟩
        rw [List.take_of_length_le (by rw [bitsN_len]; exact Nat.le_refl _)] at hD
        have hys : ((bitsN n).map fun x => V.str (T [x])) = (((bitsN n).map fun x => [x]).map T).map V.str := by
          rw [List.map_map, List.map_map]
          rfl
        rw [hys] at hD
        refine ⟨_, D, _, rfl, rfl, .inl (SqL.of hD), ?_, ?_⟩
        · rw [sum_len, flat_ones, bitsN_len, show (Str.ofString "").length = 0 by decide +kernel]
          omega
        rw [join_is, flat_ones]
        have hg2 := sm2 _ _ hg
        refine ⟨g, _, _, rfl, rfl, hg2, ?_, ?_⟩
        · rw [List.length_map, List.length_range, sizeLine_eq]
          omega
        refine ⟨_, rfl, ?_, ?_, hn⟩
        · intro b o e
          rw [upd_ne (ne_of_none e ng)]
          exact sm2 b o (sm b o e)
        · rw [List.range_succ, List.map_append]
          exact upd_same
    · rintro σ H' ⟨v2, rfl, sm, hg, _⟩
      have hc' := sm.seq hc
      refine ⟨⟨_, rfl⟩, _, rfl, c, rfl, ⟨_, hc'⟩, fun D nD => ?_⟩
      have sD : Same H' (upd H' D (.lst [])) := same_upd nD
      refine lc_list (K := K) (a := c) (xs := natsV l) (fun i H2 => Same H' H2 ∧ H2 D = some (.lst ((l.take i).map fun n => V.str (T (bitsN n))))) ⟨sD, upd_same⟩ (fun i H2 _ ⟨s2, _⟩ => s2.seq hc') ?_ ?_
      · rintro i x H2 hx ⟨sm2, hD⟩
        obtain ⟨n, hn, rfl⟩ : ∃ n, l[i]? = some n ∧ x = V.int (n : Int) := by
          rw [List.getElem?_map] at hx
          cases e : l[i]? with
          | none => rw [e] at hx; cases hx
          | some n => rw [e] at hx; exact ⟨n, rfl, (Option.some.inj hx).symm⟩
        obtain ⟨hi, en⟩ := List.getElem?_eq_some_iff.mp hn
        have hn256 := h256 n (List.mem_of_getElem? hn)
        refine ⟨rfl, ?_⟩
        refine tYes_of ?_
        refine ⟨_, rfl, _, rfl, g, _, _, _, rfl, rfl, SqL.of (sm2 _ _ hg), at_of rfl (by rw [List.getElem?_map, List.getElem?_range hn256]; rfl), ?_⟩
        refine ⟨_, hD, ?_, ?_, ?_⟩
        · rw [List.length_map, List.length_take, sizeLine_eq]
          omega
        · intro b o e
          rw [upd_ne (ne_of_none e nD)]
          exact sm2 b o e
        · rw [List.take_succ_eq_append_getElem hi, en, List.map_append]
          exact upd_same
      · rintro H2 ⟨sm2, hD⟩
        rw [List.length_map, List.take_length] at hD
        have hys : (l.map fun n => V.str (T (bitsN n))) = ((l.map bitsN).map T).map V.str := by
          rw [List.map_map, List.map_map]
          rfl
        have hfl : (l.map bitsN).flatten = bitsNs l := rfl
        rw [hys] at hD
        refine ⟨_, D, _, rfl, rfl, .inl (SqL.of hD), ?_, ?_⟩
        · rw [sum_len, hfl, bitsNs_len, show (Str.ofString "").length = 0 by decide +kernel]
          omega
        rw [join_is, hfl]
        exact q _ (sm.trans sm2)
end
end Fax2
set_option Elab.async false
set_option linter.all false
set_option maxRecDepth 100000
set_option maxHeartbeats 4000000
namespace Fax2
open PySem PySem.Spec PyProof.Rows L2 Fax
/-! ### the tables of a reader -/
def tabK : Nat → List (Key × V)
  | 0 => codTab false
  | 1 => codTab true
  | _ => wayTab
def keyB : Nat → List Ql31.Bits
  | 0 => codeKeys false
  | 1 => codeKeys true
  | _ => wayBits
theorem tabK_keys (i : Nat) : (tabK i).map (·.1) = ((keyB i).map T).map Sum.inr := by
  have h : ∀ d, (codTab d).map (·.1) = ((codeKeys d).map T).map Sum.inr := fun d => by
    rw [codTab_keys, List.map_map]
    rfl
  match i with
  | 0 => exact h false
  | 1 => exact h true
  | _ + 2 =>
    show wayTab.map (·.1) = _
    rw [wayTab_keys, List.map_map]
    rfl
theorem tabK_of (i : Nat) : TabOf (tabK i) (tabM i) (valM i) := match i with
  | 0 => codTab_of false
  | 1 => codTab_of true
  | _ + 2 => wayTab_of
theorem keyB_len (i : Nat) : (keyB i).length ≤ 1000 ∧ ∀ b ∈ keyB i, b.length ≤ 20 := by
  have h : ∀ d, (codeKeys d).length ≤ 1000 ∧ ∀ b ∈ codeKeys d, b.length ≤ 20 := fun d => by
    have h1 : ((codeKeys d).all fun b => decide (b.length ≤ 20)) = true := by cases d <;> decide +kernel
    exact ⟨by simp [codeKeys, codeNs], fun b hb => of_decide_eq_true (List.all_eq_true.mp h1 b hb)⟩
  have h2 : (wayBits.all fun b => decide (b.length ≤ 20)) = true := by decide +kernel
  match i with
  | 0 => exact h false
  | 1 => exact h true
  | _ + 2 => exact ⟨(by decide : wayBits.length ≤ 1000), fun b hb => of_decide_eq_true (List.all_eq_true.mp h2 b hb)⟩
theorem keyB_beg (i : Nat) (k : Ql31.Bits) : (∃ b ∈ keyB i, k <+: b ∧ k ≠ b) ↔ Begun (tabM i) k := by
  have h : ∀ d, (∃ b ∈ codeKeys d, k <+: b ∧ k ≠ b) ↔ Begun (codL d) k := fun d => by
    constructor
    · rintro ⟨b, hb, h1, h2⟩
      obtain ⟨n, hn, rfl⟩ := List.mem_map.mp hb
      exact ⟨((n : Int), Ql31.codeOf d n), List.mem_map.mpr ⟨n, hn, rfl⟩, h1, h2⟩
    · rintro ⟨x, hx, h1, h2⟩
      obtain ⟨n, hn, rfl⟩ := List.mem_map.mp hx
      exact ⟨Ql31.codeOf d n, List.mem_map.mpr ⟨n, hn, rfl⟩, h1, h2⟩
  have hw : (∃ b ∈ wayBits, k <+: b ∧ k ≠ b) ↔ Begun wayL k := by
    have a1 : (wayBits.all fun b => wayL.any fun x => decide (x.2 = b)) = true := by decide +kernel
    have a2 : (wayL.all fun x => decide (x.2 ∈ wayBits)) = true := by decide +kernel
    constructor
    · rintro ⟨b, hb, h1, h2⟩
      obtain ⟨x, hx, e⟩ := List.any_eq_true.mp (List.all_eq_true.mp a1 b hb)
      have e' : x.2 = b := of_decide_eq_true e
      exact ⟨x, hx, by rw [e']; exact h1, by rw [e']; exact h2⟩
    · rintro ⟨x, hx, h1, h2⟩
      exact ⟨x.2, of_decide_eq_true (List.all_eq_true.mp a2 x hx), h1, h2⟩
  match i with
  | 0 => exact h false
  | 1 => exact h true
  | _ + 2 => exact hw
theorem perm_T : ∀ {ys : List Str} {bs : List Ql31.Bits}, ys.Perm (bs.map T) → ∃ cs : List Ql31.Bits, ys = cs.map T ∧ cs.length = bs.length ∧ ∀ b, b ∈ cs ↔ b ∈ bs := fun {ys bs} h => by
  have key : ∀ ys : List Str, (∀ y ∈ ys, ∃ b, y = T b) → ∃ cs : List Ql31.Bits, ys = cs.map T := fun ys => by
    induction ys with
    | nil => exact fun _ => ⟨[], rfl⟩
    | cons y ys ih =>
      intro hy
      obtain ⟨b, rfl⟩ := hy y (List.mem_cons_self ..)
      obtain ⟨cs, rfl⟩ := ih fun z hz => hy z (List.mem_cons_of_mem _ hz)
      exact ⟨b :: cs, rfl⟩
  obtain ⟨cs, rfl⟩ := key ys fun y hy => by
    obtain ⟨b, _, e⟩ := List.mem_map.mp (h.mem_iff.mp hy)
    exact ⟨b, e.symm⟩
  refine ⟨cs, rfl, by simpa using h.length_eq, fun b => ⟨fun hb => ?_, fun hb => ?_⟩⟩
  · obtain ⟨b', hb', e⟩ := List.mem_map.mp (h.mem_iff.mp (List.mem_map_of_mem hb))
    rw [← T_inj e]
    exact hb'
  · obtain ⟨b', hb', e⟩ := List.mem_map.mp (h.mem_iff.mpr (List.mem_map_of_mem hb))
    rw [← T_inj e]
    exact hb'
/-! ### the fields, one by one -/
theorem stage0 (kind wd most : Nat) (x : Str) (tl bl : Addr) : putF "kind" (.int (kind : Int)) [] = [(("kind" : Str), (.int (kind : Int) : V))] := by
  rfl
theorem stage1 (kind wd most : Nat) (x : Str) (tl bl : Addr) : putF "width" (.int (wd : Int)) [(("kind" : Str), (.int (kind : Int) : V))] = [(("kind" : Str), (.int (kind : Int) : V)), (("width" : Str), (.int (wd : Int) : V))] := by
  rw [put_past (by decide +kernel)]
  rfl
theorem stage2 (kind wd most : Nat) (x : Str) (tl bl : Addr) : putF "most" (.int (most : Int)) [(("kind" : Str), (.int (kind : Int) : V)), (("width" : Str), (.int (wd : Int) : V))] = [(("kind" : Str), (.int (kind : Int) : V)), (("width" : Str), (.int (wd : Int) : V)), (("most" : Str), (.int (most : Int) : V))] := by
  rw [put_past (by decide +kernel), put_past (by decide +kernel)]
  rfl
theorem stage3 (kind wd most : Nat) (x : Str) (tl bl : Addr) : putF "bits" (.str x) [(("kind" : Str), (.int (kind : Int) : V)), (("width" : Str), (.int (wd : Int) : V)), (("most" : Str), (.int (most : Int) : V))] = [(("kind" : Str), (.int (kind : Int) : V)), (("width" : Str), (.int (wd : Int) : V)), (("most" : Str), (.int (most : Int) : V)), (("bits" : Str), (.str x : V))] := by
  rw [put_past (by decide +kernel), put_past (by decide +kernel), put_past (by decide +kernel)]
  rfl
theorem stage4 (kind wd most : Nat) (x : Str) (tl bl : Addr) : putF "place" (.int 0) [(("kind" : Str), (.int (kind : Int) : V)), (("width" : Str), (.int (wd : Int) : V)), (("most" : Str), (.int (most : Int) : V)), (("bits" : Str), (.str x : V))] = [(("kind" : Str), (.int (kind : Int) : V)), (("width" : Str), (.int (wd : Int) : V)), (("most" : Str), (.int (most : Int) : V)), (("bits" : Str), (.str x : V)), (("place" : Str), (.int 0 : V))] := by
  rw [put_past (by decide +kernel), put_past (by decide +kernel), put_past (by decide +kernel), put_past (by decide +kernel)]
  rfl
theorem stage5 (kind wd most : Nat) (x : Str) (tl bl : Addr) : putF "tables" (.ref tl) [(("kind" : Str), (.int (kind : Int) : V)), (("width" : Str), (.int (wd : Int) : V)), (("most" : Str), (.int (most : Int) : V)), (("bits" : Str), (.str x : V)), (("place" : Str), (.int 0 : V))] = [(("kind" : Str), (.int (kind : Int) : V)), (("width" : Str), (.int (wd : Int) : V)), (("most" : Str), (.int (most : Int) : V)), (("bits" : Str), (.str x : V)), (("place" : Str), (.int 0 : V)), (("tables" : Str), (.ref tl : V))] := by
  rw [put_past (by decide +kernel), put_past (by decide +kernel), put_past (by decide +kernel), put_past (by decide +kernel), put_past (by decide +kernel)]
  rfl
theorem stage6 (kind wd most : Nat) (x : Str) (tl bl : Addr) : putF "begun" (.ref bl) [(("kind" : Str), (.int (kind : Int) : V)), (("width" : Str), (.int (wd : Int) : V)), (("most" : Str), (.int (most : Int) : V)), (("bits" : Str), (.str x : V)), (("place" : Str), (.int 0 : V)), (("tables" : Str), (.ref tl : V))] = [(("kind" : Str), (.int (kind : Int) : V)), (("width" : Str), (.int (wd : Int) : V)), (("most" : Str), (.int (most : Int) : V)), (("bits" : Str), (.str x : V)), (("place" : Str), (.int 0 : V)), (("tables" : Str), (.ref tl : V)), (("begun" : Str), (.ref bl : V))] := by
  rw [put_past (by decide +kernel), put_past (by decide +kernel), put_past (by decide +kernel), put_past (by decide +kernel), put_past (by decide +kernel), put_past (by decide +kernel)]
  rfl
def F5 (kind wd most : Nat) (x : Str) : List (Str × V) := [(("kind" : Str), (.int (kind : Int) : V)), (("width" : Str), (.int (wd : Int) : V)), (("most" : Str), (.int (most : Int) : V)), (("bits" : Str), (.str x : V)), (("place" : Str), (.int 0 : V))]
def F6 (kind wd most : Nat) (x : Str) (tl : Addr) : List (Str × V) := [(("kind" : Str), (.int (kind : Int) : V)), (("width" : Str), (.int (wd : Int) : V)), (("most" : Str), (.int (most : Int) : V)), (("bits" : Str), (.str x : V)), (("place" : Str), (.int 0 : V)), (("tables" : Str), (.ref tl : V))]

def spRdI (K : PySem.W.Frag) (C : Addr) : Sp := fun vs H Q _ => ∃ (p dx c : Addr) (kind wd most : Nat) (l : List Nat), vs = [.ref p, .int (kind : Int), .int (wd : Int), .int (most : Int), .ref c] ∧ H p = some (.ins C dx []) ∧ SqL K H c (natsV l) ∧ (∀ n ∈ l, n < 256) ∧ l.length ≤ 100000 ∧ 0 < wd ∧ wd ≤ 16384 ∧ most ≤ 16384 ∧
  ∀ (H' : Hp) (e : RdE), e.kind = kind → e.w = wd → e.most = most → e.bits = bitsNs l → But p H H' → Rdr C e H' p (bitsNs l) → Q .non H'
theorem scRdI : FnScope ["self", "kind", "width", "most", "data", "table"] ["self", "kind", "width", "most", "data"] (defScope sRdI) := ⟨rfl, rfl, rfl, by decide +kernel, rfl, by decide +kernel, by decide +kernel⟩
theorem sql_but {K : PySem.W.Frag} {H H' : Hp} {p c : Addr} {xs : List V} {C dx : Addr} {fs : List (Str × V)} (bt : But p H H') (hp : H p = some (.ins C dx fs)) (hc : SqL K H c xs) : SqL K H' c xs := by
  rcases hc with (h | ⟨o, h⟩) | h
  · exact .inl (.inl (bt _ _ (ne_of h hp (by intro z; cases z)) h))
  · exact .inl (.inr ⟨o, bt _ _ (ne_of h hp (by intro z; cases z)) h⟩)
  · exact .inr h
section
variable {P : Program} {w : World} {K : PySem.W.Frag} {mg : Str → Option Value} {base : Heap} {C : Addr}
theorem ok_rdI {f fb ft fw fg : Addr} {fd fdb fdt fdw fdg : FuncData} (F : Fun K "__init__" "Reader.__init__" sRdI f fd) (TX : Txt K mg) (TR : RdT K mg C)
    (GB : FnOk P w K mg base CX0 1 fb fdb ["data"] (spBits K)) (gB : mg "bits_of" = some (.ref fb)) (kB : PySem.W.keepIn K (.ref fb) = true) (bB : Binds K fdb ["data"] [])
    (GT : FnOk P w K mg base CX0 1 ft fdt ["short", "long"] spTab) (gT : mg "tables_of" = some (.ref ft)) (kT : PySem.W.keepIn K (.ref ft) = true) (bT : Binds K fdt ["short", "long"] [])
    (GW : FnOk P w K mg base CX0 1 fw fdw [] spWays) (gW : mg "ways_by_code" = some (.ref fw)) (kW : PySem.W.keepIn K (.ref fw) = true) (bW : Binds K fdw [] [])
    (GG : FnOk P w K mg base CX0 1 fg fdg ["codes"] spBeg) (gG : mg "beginnings" = some (.ref fg)) (kG : PySem.W.keepIn K (.ref fg) = true) (bG : Binds K fdg ["codes"] []) :
    FnOk P w K mg base CX0 2 f fd ["self", "kind", "width", "most", "data"] (spRdI K C) := by
  refine F.ok scRdI (fun vs H Q E h => ?_) (fun cdv A outer s H vs Q E hr h => ?_)
  · obtain ⟨p, dx, c, kind, wd, most, l, rfl, _⟩ := h
    rfl
  · obtain ⟨p, dx, c, kind, wd, most, l, rfl, hp, hc, h256, hlen, w0, w1, m1, q⟩ := h
    obtain ⟨tws, mws⟩ := TX.ws
    obtain ⟨twl, mwl⟩ := TX.wl
    obtain ⟨tbs, mbs⟩ := TX.bs
    obtain ⟨tbl, mbl⟩ := TX.bl
    refine ⟨_, pss_cons (ps_fld (pv 0) (pv 1) rfl) (pss_cons (ps_fld (pv 0) (pv 2) rfl) (pss_cons (ps_fld (pv 0) (pv 3) rfl)
      (pss_cons (ps_fld (pv 0) (pe_call GB hr rfl gB kB bB .nil pass0 (pa_cons (pv 4) pa_nil)) rfl)
      (Evl.pss_cut (ps_fld (pv 0) pe_int rfl)
      (Evl.pss_cut (ps_fld (pv 0) (pe_lst (pa_cons (pe_ix ix_tup (pe_call GT hr rfl gT kT bT .nil pass0 (pa_cons (pe_glob rfl mws (rel_str _ _)) (pa_cons (pe_glob rfl mwl (rel_str _ _)) pa_nil))) pe_int (fun _ _ => rfl))
        (pa_cons (pe_ix ix_tup (pe_call GT hr rfl gT kT bT .nil pass0 (pa_cons (pe_glob rfl mbs (rel_str _ _)) (pa_cons (pe_glob rfl mbl (rel_str _ _)) pa_nil))) pe_int (fun _ _ => rfl))
        (pa_cons (pe_call0 GW hr rfl gW kW bW .nil pass0) pa_nil)))) rfl)
      (pss_one (ps_fld (pv 0) (pe_lc (own := [("table", 5)]) (g := gName 5) (tt := tYes) rfl scRdI.nd (pi_list (pe_fld (pv 0) rfl)) (blkOk_by (N := ["self", "kind", "width", "most", "data", "table"]) (sc := defScope sRdI) (by decide +kernel))
            (fun _ _ _ _ _ => pg_name (i := 5) scRdI.nd rfl (.inl rfl)) (fun _ _ _ _ _ => pts_nil)
            (fun _ _ _ _ _ => pe_call GG hr rfl gG kG bG .nil pass0 (pa_cons (pe_callB (call_sortedA rfl) (by rfl) TX.sorted (by decide +kernel) (pa_cons (pv 5) pa_nil)) pa_nil))) rfl))))))), ?_⟩
    have nca : ∀ H' : Hp, But p H H' → SqL K H' c (natsV l) := fun H' bt => sql_but bt hp hc
    refine ⟨_, rfl, _, rfl, p, C, dx, [], rfl, hp, TR.cl, TR.nK, (by show 0 < 1000; decide), ?_⟩
    rw [stage0 kind wd most (T (bitsNs l)) 0 0]
    have c1 : But p H (upd H p (.ins C dx [(("kind" : Str), (.int (kind : Int) : V))])) := but_upd
    have o1 : upd H p (.ins C dx [(("kind" : Str), (.int (kind : Int) : V))]) p = some (.ins C dx [(("kind" : Str), (.int (kind : Int) : V))]) := upd_same
    generalize upd H p (.ins C dx [(("kind" : Str), (.int (kind : Int) : V))]) = H1 at c1 o1 ⊢
    refine ⟨_, rfl, _, rfl, p, C, dx, _, rfl, o1, TR.cl, TR.nW, (by show 1 < 1000; decide), ?_⟩
    rw [stage1 kind wd most (T (bitsNs l)) 0 0]
    have c2 : But p H (upd H1 p (.ins C dx [(("kind" : Str), (.int (kind : Int) : V)), (("width" : Str), (.int (wd : Int) : V))])) := c1.trans but_upd
    have o2 : upd H1 p (.ins C dx [(("kind" : Str), (.int (kind : Int) : V)), (("width" : Str), (.int (wd : Int) : V))]) p = some (.ins C dx [(("kind" : Str), (.int (kind : Int) : V)), (("width" : Str), (.int (wd : Int) : V))]) := upd_same
    generalize upd H1 p (.ins C dx [(("kind" : Str), (.int (kind : Int) : V)), (("width" : Str), (.int (wd : Int) : V))]) = H2 at c2 o2 ⊢
    refine ⟨_, rfl, _, rfl, p, C, dx, _, rfl, o2, TR.cl, TR.nM, (by show 2 < 1000; decide), ?_⟩
    rw [stage2 kind wd most (T (bitsNs l)) 0 0]
    have c3 : But p H (upd H2 p (.ins C dx [(("kind" : Str), (.int (kind : Int) : V)), (("width" : Str), (.int (wd : Int) : V)), (("most" : Str), (.int (most : Int) : V))])) := c2.trans but_upd
    have o3 : upd H2 p (.ins C dx [(("kind" : Str), (.int (kind : Int) : V)), (("width" : Str), (.int (wd : Int) : V)), (("most" : Str), (.int (most : Int) : V))]) p = some (.ins C dx [(("kind" : Str), (.int (kind : Int) : V)), (("width" : Str), (.int (wd : Int) : V)), (("most" : Str), (.int (most : Int) : V))]) := upd_same
    generalize upd H2 p (.ins C dx [(("kind" : Str), (.int (kind : Int) : V)), (("width" : Str), (.int (wd : Int) : V)), (("most" : Str), (.int (most : Int) : V))]) = H3 at c3 o3 ⊢
    -- the bits
    refine ⟨_, rfl, c, l, rfl, nca _ c3, h256, hlen, fun H4 sm4 => ?_⟩
    refine ⟨_, rfl, p, C, dx, _, rfl, sm4 _ _ o3, TR.cl, TR.nB, (by show 3 < 1000; decide), ?_⟩
    rw [stage3 kind wd most (T (bitsNs l)) 0 0]
    have c4 : But p H (upd H4 p (.ins C dx [(("kind" : Str), (.int (kind : Int) : V)), (("width" : Str), (.int (wd : Int) : V)), (("most" : Str), (.int (most : Int) : V)), (("bits" : Str), (.str (T (bitsNs l)) : V))])) := c3.trans (sm4.but.trans but_upd)
    have o4 : upd H4 p (.ins C dx [(("kind" : Str), (.int (kind : Int) : V)), (("width" : Str), (.int (wd : Int) : V)), (("most" : Str), (.int (most : Int) : V)), (("bits" : Str), (.str (T (bitsNs l)) : V))]) p = some (.ins C dx [(("kind" : Str), (.int (kind : Int) : V)), (("width" : Str), (.int (wd : Int) : V)), (("most" : Str), (.int (most : Int) : V)), (("bits" : Str), (.str (T (bitsNs l)) : V))]) := upd_same
    generalize upd H4 p (.ins C dx [(("kind" : Str), (.int (kind : Int) : V)), (("width" : Str), (.int (wd : Int) : V)), (("most" : Str), (.int (most : Int) : V)), (("bits" : Str), (.str (T (bitsNs l)) : V))]) = H5 at c4 o4 ⊢
    refine ⟨fun σ H' => σ = [some (.ref p), some (.int (kind : Int)), some (.int (wd : Int)), some (.int (most : Int)), some (.ref c), none] ∧ But p H H' ∧ H' p = some (.ins C dx (F5 kind wd most (T (bitsNs l)))), ?_, ?_⟩
    · refine ⟨_, rfl, p, C, dx, _, rfl, o4, TR.cl, TR.nP, (by show 4 < 1000; decide), ?_⟩
      rw [stage4 kind wd most (T (bitsNs l)) 0 0]
      exact ⟨rfl, c4.trans but_upd, upd_same⟩
    rintro σ H6 ⟨rfl, c6, o6⟩
    -- the tables
    refine ⟨fun σ H' => ∃ (tl : Addr) (t : Nat → Addr), σ = [some (.ref p), some (.int (kind : Int)), some (.int (wd : Int)), some (.int (most : Int)), some (.ref c), none] ∧ But p H H' ∧ H' p = some (.ins C dx (F6 kind wd most (T (bitsNs l)) tl)) ∧ H' tl = some (.lst [.ref (t 0), .ref (t 1), .ref (t 2)]) ∧
      ∀ i, i < 3 → H' (t i) = some (.dK (tabK i)), ?_, ?_⟩
    · refine ⟨false, by rw [s2_ws, s2_wl]; rfl, fun H7 p7 e0 d0 sm7 h7 _ h70 => ?_⟩
      refine ⟨p7, _, 1, _, rfl, rfl, SqT.of h7, atI_nat (j := 1) rfl rfl, ?_⟩
      refine ⟨true, by rw [s2_bs, s2_bl]; rfl, fun H8 p8 e1 d1 sm8 h8 _ h81 => ?_⟩
      refine ⟨p8, _, 1, _, rfl, rfl, SqT.of h8, atI_nat (j := 1) rfl rfl, ?_⟩
      refine ⟨rfl, fun H9 d2 sm9 h92 => ?_⟩
      refine ⟨(by show 3 ≤ sizeLine; decide), fun tl ntl => ?_⟩
      have o9 : H9 p = some (.ins C dx (F5 kind wd most (T (bitsNs l)))) := sm9 _ _ (sm8 _ _ (sm7 _ _ o6))
      have h90 := sm9 _ _ (sm8 _ _ h70)
      have h91 := sm9 _ _ h81
      have npt : p ≠ tl := ne_of_none o9 ntl
      refine ⟨_, rfl, p, C, dx, _, rfl, (by rw [upd_ne npt]; exact o9), TR.cl, TR.nT, (by show 5 < 1000; decide), ?_⟩
      have est : putF "tables" (V.ref tl) (F5 kind wd most (T (bitsNs l))) = F6 kind wd most (T (bitsNs l)) tl := stage5 kind wd most (T (bitsNs l)) tl 0
      rw [est]
      have kp : ∀ x o, H9 x = some o → x ≠ p → upd (upd H9 tl (.lst [.ref d0, .ref d1, .ref d2])) p (.ins C dx (F6 kind wd most (T (bitsNs l)) tl)) x = some o := fun x o hx hxp => by
        rw [upd_ne hxp, upd_ne (ne_of_none hx ntl)]
        exact hx
      refine ⟨tl, fun i => match i with | 0 => d0 | 1 => d1 | _ => d2, rfl, fun x o hx ho => kp x o (sm9 _ _ (sm8 _ _ (sm7 _ _ (c6 x o hx ho)))) hx, upd_same, ?_, fun i hi => ?_⟩
      · rw [upd_ne (Ne.symm npt)]
        exact upd_same
      · match i, hi with
        | 0, _ => exact kp _ _ h90 (ne_of h90 o9 (by intro z; cases z))
        | 1, _ => exact kp _ _ h91 (ne_of h91 o9 (by intro z; cases z))
        | 2, _ => exact kp _ _ h92 (ne_of h92 o9 (by intro z; cases z))
    rintro σ H7 ⟨tl, t, rfl, c7, o7, htl, htab⟩
    -- the beginnings
    refine ⟨_, rfl, p, C, dx, _, _, rfl, o7, TR.cl, TR.nT, ?_, tl, rfl, ⟨_, SqL.of htl⟩, fun D nD => ?_⟩
    · exact (lk_past (by decide +kernel)).trans ((lk_past (by decide +kernel)).trans ((lk_past (by decide +kernel)).trans ((lk_past (by decide +kernel)).trans ((lk_past (by decide +kernel)).trans lk_here))))
    have sD : Same H7 (upd H7 D (.lst [])) := same_upd nD
    refine lc_list (K := K) (a := tl) (xs := [.ref (t 0), .ref (t 1), .ref (t 2)]) (fun i H2 => Same H7 H2 ∧ i ≤ 3 ∧ ∃ g : Nat → Addr, H2 D = some (.lst ((List.range i).map fun j => V.ref (g j))) ∧ ∀ j, j < i → ∃ kvs, H2 (g j) = some (.dK kvs) ∧ BegOf kvs (tabM j))
      ⟨sD, Nat.zero_le _, fun _ => 0, upd_same, fun j hj => absurd hj (Nat.not_lt_zero _)⟩ (fun i H2 _ ⟨s2, _⟩ => SqL.of (s2 _ _ htl)) ?_ ?_
    · rintro i x H2 hx ⟨sm2, _, g, hD, hg⟩
      have hi : i < 3 := (List.getElem?_eq_some_iff.mp hx).1
      have ex : x = .ref (t i) := by
        rw [get3 (f := fun j => V.ref (t j)) hi] at hx
        exact (Option.some.inj hx).symm
      subst ex
      refine ⟨rfl, ?_⟩
      refine tYes_of ?_
      refine ⟨_, rfl, t i, tabK i, (keyB i).map T, rfl, .inl (sm2 _ _ (htab i hi)), tabK_keys i, ?_, fun ys y pm _ ny => ?_⟩
      · rw [List.length_map]
        exact (keyB_len i).1
      obtain ⟨cs, rfl, hcl, hcm⟩ := perm_T pm
      refine ⟨y, cs, rfl, upd_same, by rw [hcl]; exact (keyB_len i).1, fun b hb => (keyB_len i).2 b ((hcm b).mp hb), fun H3 z kvs sm3 hz hk => ?_⟩
      have sm23 : Same H2 H3 := (same_upd ny).trans sm3
      have hD3 := sm23 _ _ hD
      refine ⟨_, hD3, ?_, ?_, hi, fun j => if j = i then z else g j, ?_, fun j hj => ?_⟩
      · rw [List.length_map, List.length_range, sizeLine_eq]
        omega
      · intro b o e
        rw [upd_ne (ne_of_none e nD)]
        exact sm23 _ _ (sm2 b o e)
      · refine upd_same.trans ?_
        rw [List.range_succ, List.map_append]
        congr 3
        · refine List.map_congr_left fun j hj => ?_
          rw [List.mem_range] at hj
          dsimp only
          rw [if_neg (by omega)]
        · show [V.ref z] = [V.ref (if i = i then z else g i)]
          rw [if_pos rfl]
      · by_cases hji : j = i
        · subst hji
          refine ⟨kvs, ?_, fun k => ?_⟩
          · dsimp only
            rw [if_pos rfl, upd_ne (ne_of hz hD3 (by intro z; cases z))]
            exact hz
          · rw [hk k, ← keyB_beg j k]
            exact ⟨fun ⟨b, h1, h2⟩ => ⟨b, (hcm b).mp h1, h2⟩, fun ⟨b, h1, h2⟩ => ⟨b, (hcm b).mpr h1, h2⟩⟩
        · obtain ⟨kvs', h1, h2⟩ := hg j (by omega)
          refine ⟨kvs', ?_, h2⟩
          dsimp only
          rw [if_neg hji, upd_ne (ne_of h1 hD (by intro z; cases z))]
          exact sm23 _ _ h1
    · rintro H2 ⟨sm2, _, g, hD, hg⟩
      have o2' := sm2 _ _ o7
      have nDp : D ≠ p := ne_of hD o2' (by intro z; cases z)
      refine ⟨_, rfl, p, C, dx, _, rfl, o2', TR.cl, TR.nG, (by show 6 < 1000; decide), ?_⟩
      have est : putF "begun" (V.ref D) (F6 kind wd most (T (bitsNs l)) tl) = rdF ⟨dx, tl, D, t, g, kind, wd, most, bitsNs l⟩ 0 := stage6 kind wd most (T (bitsNs l)) tl D
      rw [est]
      have kp : ∀ x o, H2 x = some o → x ≠ p → upd H2 p (.ins C dx (rdF ⟨dx, tl, D, t, g, kind, wd, most, bitsNs l⟩ 0)) x = some o := fun x o hx hxp => by
        rw [upd_ne hxp]
        exact hx
      have htl2 := sm2 _ _ htl
      refine q _ ⟨dx, tl, D, t, g, kind, wd, most, bitsNs l⟩ rfl rfl rfl rfl (fun x o hx ho => kp x o (sm2 _ _ (c7 x o hx ho)) hx)
        { le := Nat.le_refl _, suf := by rw [Nat.sub_self]; rfl, obj := by rw [Nat.sub_self]; exact upd_same, tls := kp _ _ htl2 (ne_of htl2 o2' (by intro z; cases z)), bls := kp _ _ hD nDp, tab := fun i hi => ?_, beg := fun i hi => ?_, small := ?_, w0 := w0, w1 := w1, m1 := m1 }
      · have h1 := sm2 _ _ (htab i hi)
        exact ⟨_, kp _ _ h1 (ne_of h1 o2' (by intro z; cases z)), tabK_of i⟩
      · obtain ⟨kvs, h1, h2⟩ := hg i hi
        exact ⟨kvs, kp _ _ h1 (ne_of h1 o2' (by intro z; cases z)), h2⟩
      · show (bitsNs l).length ≤ 1000000
        rw [bitsNs_len]
        omega
end
end Fax2
set_option Elab.async false
set_option linter.all false
set_option maxRecDepth 100000
set_option maxHeartbeats 4000000
namespace Fax2
open PySem PySem.Spec PyProof.Rows L2 Fax
/-- o.m() within a try: what it raises is wished for at the slots as they stand -/
def tMethX0 (C : Addr) (m : Str) (sp : Sp) (E : L2.St → XK) (ta : TE) : TE := fun σ H Q => ta σ H fun x H1 => ∃ a dx fs, x = .ref a ∧ H1 a = some (.ins C dx fs) ∧ fs.lookup m = none ∧ sp [x] H1 Q (E σ)
theorem pe_methX0 {X : Cx} {CX : CXT} {k : Nat} {f C : Addr} {fd : FuncData} {ps : List Str} {sp : Sp} {E : L2.St → XK} {m : Str} {pos apos : Pos} {o : Expr} {ta : TE} {pl : Sem Bool} (he : PE X o ta) (c : Cls X.K C) (hm : Meth X.K C m f)
    (F : FnOk X.prog X.w X.K X.mg X.base CX k f fd ps sp) (hr : Room k X.A) (hb : Binds X.K fd ps []) (hx : ∀ σ, PassesAt CX X σ (E σ))
    (ht : eval (.Call (.Attribute o m apos) [] [] pos) X.env = (do
      let ov ← eval o X.env
      standAt apos.atName
      let (f, first) ← holding [ov] (getMethod ov m pl)
      callWith pos f first (backTo pos (starEach [] X.env)) (backToKw pos (keywordEach [] X.env))) := by rfl) :
    PE X (.Call (.Attribute o m apos) [] [] pos) (tMethX0 C m sp E ta) := by
  refine ⟨fun pins s σ H Q I h => ?_⟩
  refine PySem.W.methodCall_KW (pl := pl) (thn (he.run pins s σ H _ I h) fun u s1 ⟨x, H1, I1, rx, a, dx, fs, ex, ea, l, q⟩ => ?_) ht
  subst ex
  obtain rfl : u = Value.ref a := rx
  refine getmeth_ok I1 ea c hm l ?_
  exact PySem.W.callWith_K0 (first := [.ref a]) I1.kIn hm.kp (run_fnS (us := [.ref a]) (vs := [.ref a]) F hr hb (hx σ) I1 (.cons rfl .nil) q)
/-! ### the answer -/
def ansOf (kind wd most : Nat) (l : List Nat) : List Int := match checked (rowsE kind wd most (bitsNs l)) with
  | .ok (x, _) => (x.length : Int) :: Ql31Neutral.byteInts (x.flatMap Ql31.rowBytes)
  | .error e => [-10 - (e.1 : Int), (((bitsNs l).length - e.2 : Nat) : Int)]
theorem rowB_is (r : Ql31.Row) : (Ql31Neutral.byteInts (Ql31.rowBytes r)).map V.int = natsV (img (Ql31.stride r.length) fun x => r.getD x false) := by
  rw [rowBytes_is, List.map_map]
  rfl
theorem flat_take (x : List Ql31.Row) (i : Nat) (r : Ql31.Row) (h : x[i]? = some r) : (x.take (i + 1)).flatMap Ql31.rowBytes = (x.take i).flatMap Ql31.rowBytes ++ Ql31.rowBytes r := by
  obtain ⟨hi, e⟩ := List.getElem?_eq_some_iff.mp h
  rw [List.take_succ_eq_append_getElem hi, e, List.flatMap_append]
  congr 1
  show Ql31.rowBytes r ++ [] = _
  rw [List.append_nil]
theorem flat_le (x : List Ql31.Row) (i : Nat) : ((x.take i).flatMap Ql31.rowBytes).length ≤ (x.flatMap Ql31.rowBytes).length := by
  conv => rhs; rw [← List.take_append_drop i x, List.flatMap_append, List.length_append]
  omega
def foundV (x : List Ql31.Row) (i : Nat) : List V := V.int (x.length : Int) :: (Ql31Neutral.byteInts ((x.take i).flatMap Ql31.rowBytes)).map V.int
theorem foundV_step (x : List Ql31.Row) (i : Nat) (r : Ql31.Row) (h : x[i]? = some r) : foundV x i ++ natsV (img (Ql31.stride r.length) fun x => r.getD x false) = foundV x (i + 1) := by
  unfold foundV
  rw [flat_take x i r h, ← rowB_is]
  unfold Ql31Neutral.byteInts
  rw [List.map_append, List.map_append, List.cons_append]
theorem foundV_len (x : List Ql31.Row) (i : Nat) : (foundV x i).length = ((x.take i).flatMap Ql31.rowBytes).length + 1 := by
  unfold foundV Ql31Neutral.byteInts
  rw [List.length_cons, List.length_map, List.length_map]
def spRead (K : PySem.W.Frag) : Sp := fun vs H Q _ => ∃ (c : Addr) (kind wd most : Nat) (l : List Nat), vs = [.int (kind : Int), .int (wd : Int), .int (most : Int), .ref c] ∧ SqL K H c (natsV l) ∧ (∀ n ∈ l, n < 256) ∧ l.length ≤ 100000 ∧ 0 < wd ∧ wd ≤ 16384 ∧ most ≤ 16384 ∧ (ansOf kind wd most l).length ≤ 10000000 ∧
  ∀ (H' : Hp) (p : Addr), H' p = some (.lst ((ansOf kind wd most l).map V.int)) → Q (.ref p) H'
theorem scRead : FnScope ["kind", "width", "most", "data", "rows", "error", "found", "changes"] ["kind", "width", "most", "data"] (defScope sRead) := ⟨rfl, rfl, rfl, by decide +kernel, rfl, by decide +kernel, by decide +kernel⟩
section
variable {P : Program} {w : World} {K : PySem.W.Frag} {mg : Str → Option Value} {base : Heap} {C CF fF fI : Addr}
theorem ok_read {f fP fB : Addr} {fd fdI fdP fdB : FuncData} (F : Fun K "read_page" "read_page" sRead f fd) (TX : Txt K mg) (TR : RdT K mg C) (TF : FlT K mg CF fF) (XF : XfC K CF) (te : PySem.W.exmOne K (.ref CF) (.ref CF) = some true)
    (mk : Mk K C fI) (GI : FnOk P w K mg base CX0 2 fI fdI ["self", "kind", "width", "most", "data"] (spRdI K C)) (bI : Binds K fdI ["self", "kind", "width", "most", "data"] [])
    (mP : Meth K C "page" fP) (GP : FnOk P w K mg base (L2.CX P w) 7 fP fdP ["self"] (spPage C CF)) (bP : Binds K fdP ["self"] [])
    (GB : FnOk P w K mg base CX0 2 fB fdB ["changes", "width"] spByt) (gB : mg "bytes_of" = some (.ref fB)) (kB : PySem.W.keepIn K (.ref fB) = true) (bB : Binds K fdB ["changes", "width"] []) :
    FnOk P w K mg base CX0 8 f fd ["kind", "width", "most", "data"] (spRead K) := by
  refine F.ok scRead (fun vs H Q E h => ?_) (fun cdv A outer s H vs Q E hr h => ?_)
  · obtain ⟨c, kind, wd, most, l, rfl, _⟩ := h
    rfl
  · obtain ⟨c, kind, wd, most, l, rfl, hc, h256, hlen, w0, w1, m1, hans, q⟩ := h
    have hr2 : Room 2 _ := hr.mono (by decide)
    have hr3 : Room 3 _ := hr.mono (by decide)
    refine ⟨_, pss_cons (ps_try_as (i := 5) (tb := fun W => tAsg (tMethX0 C "page" (spPage C CF) (WE W) (tMake C (spRdI K C) [] E0 (tCons (tVar 0) (tCons (tVar 1) (tCons (tVar 2) (tCons (tVar 3) tNil)))))) (gName 4))
          (ts := fun a cls d => tRet (tLst (tCons (tXf a cls d CF "number" (tVar 5)) (tCons (tXf a cls d CF "place" (tVar 5)) tNil)))) (Wout := fun _ _ _ _ => False) rfl rfl scRead.nd rfl rfl ⟨rfl, by decide, .inl TF.g⟩ takes0
          (fun W pn xe tk _ => pss_one (ps_set (i := 4) scRead.nd rfl (.inl rfl) (by exact (pe_methX0 (pe_make mk GI hr3 rfl TR.g bI .nil pass0 (pa_cons (pv 0) (pa_cons (pv 1) (pa_cons (pv 2) (pa_cons (pv 3) pa_nil))))) TR.cl mP GP hr bP (fun σ => passAt tk σ)))))
          (fun a oe cls d pn hz hf => pss_one (ps_ret (pe_lst (pa_cons (pe_xf XF TF.nN hz hf (pv 5)) (pa_cons (pe_xf XF TF.nP hz hf (pv 5)) pa_nil))))))
      (pss_cons (ps_set (i := 6) scRead.nd rfl (.inl rfl) (pe_lst (pa_cons (pe_callB call_len_seq (by rfl) TX.len PySem.boot_len (pa_cons (pv 4) pa_nil)) pa_nil)))
      (pss_cons (ps_for PassesOwn.never rfl (pi_list (pv 4)) (pg_name (i := 7) scRead.nd rfl (.inl rfl))
        (pss_one (ps_expr (pe_bm PySem.F.plainAttrs_list PySem.F.slot_list_extend PySem.F.type_list_extend mt_extend (pv 6) (pa_cons (pe_call GB hr2 rfl gB kB bB .nil pass0 (pa_cons (pv 7) (pa_cons (pv 1) pa_nil))) pa_nil)))))
      (pss_one (ps_ret (pv 6))))), ?_⟩
    refine ⟨_, rfl, _, rfl, _, rfl, _, rfl, ?_⟩
    intro x dx nx ndx ne
    have ss : Same H (upd (upd H dx (.own x)) x (.ins C dx [])) := (same_upd ndx).trans (same_upd (by rw [upd_ne (Ne.symm ne)]; exact nx))
    refine ⟨x, dx, c, kind, wd, most, l, rfl, upd_same, ss.seq hc, h256, hlen, w0, w1, m1, fun H1 e ek ew em eb bt1 hR => ⟨rfl, ?_⟩⟩
    refine ⟨x, e.dx, _, rfl, hR.obj, rdF_out _ _ _ (by decide +kernel), x, e, bitsNs l, rfl, hR, ?_⟩
    refine Fin1.of (fun rows r hz => ?_) (fun z hz => ?_)
    · intro H2 p as hp hrw
      rw [ek, ew, em] at hz
      have han : ansOf kind wd most l = (rows.length : Int) :: Ql31Neutral.byteInts (rows.flatMap Ql31.rowBytes) := by
        unfold ansOf
        rw [hz]
      have hlr : (rows.flatMap Ql31.rowBytes).length ≤ 10000000 := by
        rw [han, List.length_cons] at hans
        unfold Ql31Neutral.byteInts at hans
        rw [List.length_map] at hans
        omega
      rw [ew] at hrw
      -- found = [len(rows)]
      refine ⟨_, rfl, p, _, rfl, .inl (SqL.of hp), (by show 1 ≤ sizeLine; decide), fun o no => ?_⟩
      rw [List.length_map, hrw.len]
      have so : Same H2 (upd H2 o (.lst [.int (rows.length : Int)])) := same_upd no
      refine ⟨_, rfl, p, rfl, ⟨_, SqL.of (so _ _ hp)⟩, for_list (K := K) (a := p) (xs := as.map V.ref) (fun i σ H' => ∃ v7, σ = [some (.int (kind : Int)), some (.int (wd : Int)), some (.int (most : Int)), some (.ref c), some (.ref p), none, some (.ref o), v7] ∧ Same H2 H' ∧ H' o = some (.lst (foundV rows i)))
        ⟨none, rfl, so, upd_same⟩ (fun i σ H' _ ⟨_, _, sm, _⟩ => SqL.of (sm _ _ hp)) ?_ ?_⟩
      · rintro i y σ H' hy ⟨v7, rfl, sm, ho⟩
        have hi : i < rows.length := by
          rw [← hrw.len]
          have := (List.getElem?_eq_some_iff.mp hy).1
          simpa using this
        obtain ⟨y', h1, _, h3, h4⟩ := hrw.row i _ (List.getElem?_eq_getElem hi)
        have ey : y = .ref y' := by
          rw [List.getElem?_map, h1] at hy
          exact (Option.some.inj hy).symm
        subst ey
        refine ⟨_, rfl, .inl ⟨rfl, _, .inl (.inl ho)⟩, _, rfl, _, rfl, y', rows[i], by rw [h4]; rfl, sm _ _ h3, by omega, fun H3 b3 sm3 nb3 hb3 => ?_⟩
        have ho3 := sm3 _ _ ho
        refine ⟨o, b3, _, _, rfl, rfl, ho3, hb3, ?_, ?_⟩
        · have hs := foundV_step rows i rows[i] (List.getElem?_eq_getElem hi)
          have hl2 := congrArg List.length hs
          rw [List.length_append, foundV_len rows (i + 1)] at hl2
          have := flat_le rows (i + 1)
          rw [sizeLine_eq]
          omega
        · refine ⟨_, rfl, ?_, ?_⟩
          · intro b u hb
            rw [upd_ne (ne_of_none hb no)]
            exact sm3 _ _ (sm _ _ hb)
          · refine upd_same.trans ?_
            rw [foundV_step rows i rows[i] (List.getElem?_eq_getElem hi)]
      · rintro σ H' ⟨v7, rfl, sm, ho⟩
        rw [List.length_map, hrw.len] at ho
        refine ⟨_, rfl, q H' o ?_⟩
        rw [ho, han]
        unfold foundV
        rw [List.take_length]
        rfl
    · intro H2 d hd
      rw [ek, ew, em] at hz
      have han : ansOf kind wd most l = [-10 - (z.1 : Int), (((bitsNs l).length - z.2 : Nat) : Int)] := by
        unfold ansOf
        rw [hz]
      rw [eb] at hd
      have l1 : (fltF (-10 - (z.1 : Int)) (((bitsNs l).length - z.2 : Nat) : Int)).lookup ("number" : Str) = some (.int (-10 - (z.1 : Int))) := (lk_past (by decide +kernel)).trans lk_here
      have l2 : (fltF (-10 - (z.1 : Int)) (((bitsNs l).length - z.2 : Nat) : Int)).lookup ("place" : Str) = some (.int (((bitsNs l).length - z.2 : Nat) : Int)) := lk_here
      refine ⟨true, te, fun _ a0 _ => ?_, fun q => Bool.noConfusion q⟩
      refine ⟨_, rfl, rfl, rfl, d, _, _, rfl, hd, l1, _, rfl, rfl, rfl, d, _, _, rfl, hd, l2, (by show 2 ≤ sizeLine; decide), fun y ny => q _ y ?_⟩
      rw [han]
      exact upd_same
end
end Fax2
set_option Elab.async false
set_option linter.all false
set_option maxRecDepth 100000
set_option maxHeartbeats 4000000
namespace Fax2
open PySem PySem.Spec PyProof.Rows L2 Fax
def spFax (K : PySem.W.Frag) : Sp := fun vs H Q _ => ∃ (kind w most : Int) (a : Addr) (p : List Int), vs = [.int kind, .int w, .int most, .ref a] ∧ SqL K H a (p.map V.int) ∧ PyQl31.fax_read_asked kind w most p = true ∧ p.length ≤ 100000 ∧
  ∀ (H' : Hp) (q : Addr), H' q = some (.lst ((PyQl31.fax_read kind w most p).map V.int)) → Q (.ref q) H'
theorem scFax : FnScope ["kind", "width", "most", "data"] ["kind", "width", "most", "data"] (defScope sFax) := ⟨rfl, rfl, rfl, by decide +kernel, rfl, by decide +kernel, by decide +kernel⟩
theorem asked_is {kind w most : Int} {p : List Int} (h : PyQl31.fax_read_asked kind w most p = true) :
    (0 ≤ kind ∧ 0 ≤ w ∧ 0 ≤ most) ∧ (∀ x ∈ p, 0 ≤ x ∧ x < 256) ∧ (PyQl31.fax_read kind w most p).length ≤ 10000000 := by
  have h' : (([kind, w, most, (p.length : Int)].all (fun (z : Int) => Ql31Neutral.natural z 32) && (p.all (fun (z : Int) => Ql31Neutral.natural z 8) && (p.length : Int) == if 2 < kind ∨ w = 0 ∨ 16384 < w ∨ 16384 < most ∨ 67108864 < (p.length : Int) then 0 else (p.length : Int))) && decide ((PyQl31.fax_read kind w most p).length ≤ 10000000)) = true := h
  rw [Bool.and_eq_true, Bool.and_eq_true, Bool.and_eq_true] at h'
  obtain ⟨⟨h1, h2, _⟩, h3⟩ := h'
  refine ⟨?_, fun x hx => ?_, of_decide_eq_true h3⟩
  · rw [List.all_eq_true] at h1
    have g : ∀ z ∈ [kind, w, most, (p.length : Int)], 0 ≤ z := fun z hz => by
      have := h1 z hz
      unfold Ql31Neutral.natural at this
      rw [Bool.and_eq_true, decide_eq_true_eq] at this
      exact this.1
    exact ⟨g _ (by simp), g _ (by simp), g _ (by simp)⟩
  · have := List.all_eq_true.mp h2 x hx
    unfold Ql31Neutral.natural at this
    rw [Bool.and_eq_true, decide_eq_true_eq, decide_eq_true_eq] at this
    exact ⟨this.1, by have := this.2; omega⟩
theorem due_beyond {kind w most : Int} {p : List Int} (h : 2 < kind ∨ w = 0 ∨ 16384 < w ∨ 16384 < most) : PyQl31.fax_read kind w most p = [-1] := by
  show (if 2 < kind ∨ w = 0 ∨ (16384 : Int) < w ∨ (16384 : Int) < most ∨ (67108864 : Int) < (p.length : Int) then [-1] else _) = _
  rw [if_pos (by omega)]
theorem due_else {kind w most : Nat} {p : List Int} (h : ¬ (2 < (kind : Int) ∨ (w : Int) = 0 ∨ 16384 < (w : Int) ∨ 16384 < (most : Int))) (hp : ∀ x ∈ p, 0 ≤ x ∧ x < 256) (hl : p.length ≤ 100000) :
    PyQl31.fax_read kind w most p = ansOf kind w most (p.map Int.toNat) := by
  have e : PyQl31.fax_read kind w most p = if 2 < (kind : Int) ∨ (w : Int) = 0 ∨ (16384 : Int) < (w : Int) ∨ (16384 : Int) < (most : Int) ∨ (67108864 : Int) < (p.length : Int) then [-1] else
    (match Ql31.read (kind : Int).toNat (w : Int).toNat (most : Int).toNat (Ql31Neutral.octets p) with
    | .ok r => (r.length : Int) :: Ql31Neutral.byteInts (r.flatMap Ql31.rowBytes)
    | .error e => [-10 - (e.1 : Int), (e.2 : Int)]) := rfl
  rw [e, if_neg (by omega), Int.toNat_natCast, Int.toNat_natCast, Int.toNat_natCast, read_is, bitsFrom_octets p hp]
  unfold ansOf
  cases checked (rowsE kind w most (bitsNs (p.map Int.toNat))) with
  | ok x => rfl
  | error z => rfl
section
variable {P : Program} {w : World} {K : PySem.W.Frag} {mg : Str → Option Value} {base : Heap}
theorem ok_fax {f fW : Addr} {fd fdW : FuncData} (F : Fun K "fax_read" "fax_read" sFax f fd) (TX : Txt K mg)
    (GW : FnOk P w K mg base CX0 8 fW fdW ["kind", "width", "most", "data"] (spRead K)) (gW : mg "read_page" = some (.ref fW)) (kW : PySem.W.keepIn K (.ref fW) = true) (bW : Binds K fdW ["kind", "width", "most", "data"] []) :
    FnOk P w K mg base CX0 9 f fd ["kind", "width", "most", "data"] (spFax K) := by
  refine F.ok scFax (fun vs H Q E h => ?_) (fun cdv A outer s H vs Q E hr h => ?_)
  · obtain ⟨kind, w, most, a, p, rfl, _⟩ := h
    rfl
  · obtain ⟨kind, wd, most, a, p, rfl, hS, hask, hp, q⟩ := h
    obtain ⟨tms, mms⟩ := TX.mostSide
    obtain ⟨tby, mby⟩ := TX.beyond
    obtain ⟨⟨p1, p2, p3⟩, hb, hl⟩ := asked_is hask
    refine ⟨_, Evl.pss_cut (ps_if (PW.pt (pw_or (pt_cmpR op_gt (pv 0) pe_int (nomark _)) (pw_or (pt_not (pt_chain op_le op_le pe_int (pv 1) (pe_glob rfl mms (rel_int _ _)))) (pw_or1 (pt_cmpR op_gt (pv 2) (pe_glob rfl mms (rel_int _ _)) (nomark _))))))
        (pss_one (ps_ret (pe_lst (pa_cons (pe_glob rfl mby (rel_int _ _)) pa_nil)))) pss_nil)
      (pss_one (ps_ret (pe_call GW hr rfl gW kW bW .nil pass0 (pa_cons (pv 0) (pa_cons (pv 1) (pa_cons (pv 2) (pa_cons (pv 3) pa_nil))))))), ?_⟩
    refine ⟨fun σ H' => H' = H ∧ ¬ (2 < kind ∨ wd = 0 ∨ 16384 < wd ∨ 16384 < most) ∧ σ = [some (.int kind), some (.int wd), some (.int most), some (.ref a)], ?_, ?_⟩
    · have bad : (2 < kind ∨ wd = 0 ∨ 16384 < wd ∨ 16384 < most) → ∀ x, H x = none → Q (.ref x) (upd H x (.lst [.int (-1)])) := fun h x hx => q _ x (by rw [due_beyond h]; exact upd_same)
      refine ⟨_, rfl, _, _, rfl, rfl, _, rfl, ?_⟩
      by_cases c1 : 2 < kind
      · exact if_yes c1 (iteT ⟨by show 1 ≤ sizeLine; decide, fun x hx => bad (.inl c1) x hx⟩)
      refine if_no c1 ?_
      refine ⟨_, rfl, _, _, rfl, rfl, _, rfl, chain2 (y := wd) rfl (fun c3 => ⟨_, rfl, ?_⟩) (fun c3 => ⟨_, rfl, ?_⟩)⟩
      · refine iteF ?_
        refine ⟨_, rfl, _, _, rfl, rfl, _, rfl, ?_⟩
        by_cases c4 : 16384 < most
        · exact if_yes c4 ⟨by show 1 ≤ sizeLine; decide, fun x hx => bad (.inr (.inr (.inr c4))) x hx⟩
        · exact if_no c4 ⟨rfl, by omega, rfl⟩
      · refine iteT ?_
        exact iteT ⟨by show 1 ≤ sizeLine; decide, fun x hx => bad (by omega) x hx⟩
    · rintro σ H' ⟨rfl, hok, rfl⟩
      obtain ⟨kind, rfl⟩ : ∃ z : Nat, kind = (z : Int) := ⟨kind.toNat, by omega⟩
      obtain ⟨wd, rfl⟩ : ∃ z : Nat, wd = (z : Int) := ⟨wd.toNat, by omega⟩
      obtain ⟨most, rfl⟩ : ∃ z : Nat, most = (z : Int) := ⟨most.toNat, by omega⟩
      have epn : p.map V.int = natsV (p.map Int.toNat) := by
        show p.map V.int = (p.map Int.toNat).map _
        rw [List.map_map]
        refine List.map_congr_left fun x hx => ?_
        have := hb x hx
        show V.int x = V.int ((x.toNat : Nat) : Int)
        rw [Int.toNat_of_nonneg this.1]
      have hdue := due_else hok hb hp
      rw [hdue] at hl q
      refine ⟨_, rfl, _, rfl, _, rfl, _, rfl, a, kind, wd, most, p.map Int.toNat, rfl, by rw [← epn]; exact hS, ?_, by rw [List.length_map]; exact hp, by omega, by omega, by omega, hl, q⟩
      intro x hx
      obtain ⟨z, hz, rfl⟩ := List.mem_map.mp hx
      have := hb z hz
      omega
end
end Fax2
set_option Elab.async false
set_option linter.all false
set_option maxRecDepth 100000
set_option maxHeartbeats 8000000
namespace Fax2
open PySem PySem.Spec PyProof.Rows L2 Fax
open PySem.W (Codec)
/-- an error of the class at S is what an except clause of S names -/
theorem exm_self {K : PySem.W.Frag} {S : Addr} (h1 : PySem.W.subIn K (.ref S) (.type "BaseException") = some true) (h2 : PySem.W.isClsIn K S = true) (h3 : PySem.W.typeIn K (.ref S) = some (.type "type")) (h4 : PySem.W.subIn K (.ref S) (.ref S) = some true) :
    PySem.W.exmOne K (.ref S) (.ref S) = some true := by
  have e1 : (PySem.W.subIn K (.ref S) (.type "BaseException") == some true) = true := by rw [h1] <;> rfl
  have e2 : ((PySem.W.clsIn K S).isSome && PySem.W.typeIn K (.ref S) == some (.type "type")) = true := by
    have h2' : (PySem.W.clsIn K S).isSome = true := h2
    rw [h2', h3] <;> rfl
  show (if (PySem.W.subIn K (.ref S) (.type "BaseException") == some true) = true then (if ((PySem.W.clsIn K S).isSome && PySem.W.typeIn K (.ref S) == some (.type "type")) = true then PySem.W.subIn K (.ref S) (.ref S) else none) else none) = some true
  rw [if_pos e1, if_pos e2]
  exact h4
theorem all_mk {P : Program} {w : World} {K : PySem.W.Frag} {h : Heap} {mg : Str → Option Value} {fa CA CR CF aS : Addr} {f1 f2 f3 f4 f5 f6 f7 f8 f9 f10 f11 f12 f13 f14 f15 f16 f17 f18 f19 f20 f21 f22 f23 f24 f25 f26 f27 f28 : Addr} {xnm xq : Str} {xN : Addr} {xbs : List Value} {xsn : List Str} {xsub : List Value} {xab : Bool} {xcol : Option Bool} {xdd : Option Addr} {xm0 xm1 xm2 xm3 xm5 : Option Value} (X : K.In h) (G : h.Ns mainGlobals mg) (hfa : mg "fax_read" = some (.ref fa))
    {odS od1 an1 od2 an2 od3 an3 od4 an4 od5 an5 od6 an6 od7 an7 od8 an8 od9 an9 od10 an10 od11 an11 od12 an12 od13 an13 od14 an14 od15 an15 od16 an16 od17 an17 od18 an18 od19 an19 od20 an20 od21 an21 od22 an22 od23 an23 od24 an24 od25 an25 od26 an26 od27 an27 od28 an28 : Option Addr} {slS sl1 sl2 sl3 sl4 sl5 sl6 sl7 sl8 sl9 sl10 sl11 sl12 sl13 sl14 sl15 sl16 sl17 sl18 sl19 sl20 sl21 sl22 sl23 sl24 sl25 sl26 sl27 sl28 : Array (Option Value)} {oc1 kV1 dc1 pm1 cd1 ct1 oc2 kV2 dc2 pm2 cd2 ct2 oc3 kV3 dc3 pm3 cd3 ct3 oc4 kV4 dc4 pm4 cd4 ct4 oc5 kV5 dc5 pm5 cd5 ct5 oc6 kV6 dc6 pm6 cd6 ct6 oc7 kV7 dc7 pm7 cd7 ct7 oc8 kV8 dc8 pm8 cd8 ct8 oc9 kV9 dc9 pm9 cd9 ct9 oc10 kV10 dc10 pm10 cd10 ct10 oc11 kV11 dc11 pm11 cd11 ct11 oc12 kV12 dc12 pm12 cd12 ct12 oc13 kV13 dc13 pm13 cd13 ct13 oc14 kV14 dc14 pm14 cd14 ct14 oc15 kV15 dc15 pm15 cd15 ct15 oc16 kV16 dc16 pm16 cd16 ct16 oc17 kV17 dc17 pm17 cd17 ct17 oc18 kV18 dc18 pm18 cd18 ct18 oc19 kV19 dc19 pm19 cd19 ct19 oc20 kV20 dc20 pm20 cd20 ct20 oc21 kV21 dc21 pm21 cd21 ct21 oc22 kV22 dc22 pm22 cd22 ct22 oc23 kV23 dc23 pm23 cd23 ct23 oc24 kV24 dc24 pm24 cd24 ct24 oc25 kV25 dc25 pm25 cd25 ct25 oc26 kV26 dc26 pm26 cd26 ct26 oc27 kV27 dc27 pm27 cd27 ct27 oc28 kV28 dc28 pm28 cd28 ct28 : Value} {tbo tws twl tbs tbl tle tps tac tst tnc tnl tne tcu tmo ttm tmr ten tms tby tS1 tS2 tS3 tS4 tS5 tS6 tS7 : Tok} {nS : Nat}
    (gCA : PySem.W.nsIn K mainGlobals "Above" = some (some (.ref CA)))
    (pgCA : PySem.W.plainGet K CA Str.empty = true)
    (hdCA : PySem.W.hasDictIn K CA = true)
    (poCA : PySem.W.plainOver K CA = true)
    (saCA : PySem.W.findIn K (.ref CA) "__setattr__" = some (some (.builtin "object.__setattr__")))
    (mkCA : PySem.W.makesIn K CA = true)
    (kcCA : PySem.W.keepIn K (.ref CA) = true)
    (noCAchanges : PySem.W.findIn K (.ref CA) "changes" = some none)
    (noCAwidth : PySem.W.findIn K (.ref CA) "width" = some none)
    (noCAspot : PySem.W.findIn K (.ref CA) "spot" = some none)
    (gCR : PySem.W.nsIn K mainGlobals "Reader" = some (some (.ref CR)))
    (pgCR : PySem.W.plainGet K CR Str.empty = true)
    (hdCR : PySem.W.hasDictIn K CR = true)
    (poCR : PySem.W.plainOver K CR = true)
    (saCR : PySem.W.findIn K (.ref CR) "__setattr__" = some (some (.builtin "object.__setattr__")))
    (mkCR : PySem.W.makesIn K CR = true)
    (kcCR : PySem.W.keepIn K (.ref CR) = true)
    (noCRkind : PySem.W.findIn K (.ref CR) "kind" = some none)
    (noCRwidth : PySem.W.findIn K (.ref CR) "width" = some none)
    (noCRmost : PySem.W.findIn K (.ref CR) "most" = some none)
    (noCRbits : PySem.W.findIn K (.ref CR) "bits" = some none)
    (noCRplace : PySem.W.findIn K (.ref CR) "place" = some none)
    (noCRtables : PySem.W.findIn K (.ref CR) "tables" = some none)
    (noCRbegun : PySem.W.findIn K (.ref CR) "begun" = some none)
    (gCF : PySem.W.nsIn K mainGlobals "Fault" = some (some (.ref CF)))
    (xL : K.lookup CF = some (excClassObj xnm xq CF xN xbs [.type "ValueError", .type "Exception", .type "BaseException", .type "object"] true xsn xsub xab xcol xdd xm0 xm1 xm2 xm3 xm5 "ValueError.__new__"))
    (saCF : PySem.W.findIn K (.ref CF) "__setattr__" = some (some (.builtin "object.__setattr__")))
    (gaCF : PySem.W.findIn K (.ref CF) "__getattribute__" = some (some (.builtin "BaseException.__getattribute__")))
    (ggCF : PySem.W.findIn K (.ref CF) "__getattr__" = some none)
    (nbCF : PySem.W.findIn K (.ref CF) "number" = some none)
    (npCF : PySem.W.findIn K (.ref CF) "place" = some none)
    (kCF : PySem.W.keepIn K (.ref CF) = true)
    (eCF : PySem.W.subIn K (.ref CF) (.type "BaseException") = some true)
    (tCF : PySem.W.typeIn K (.ref CF) = some (.type "type"))
    (hCF : PySem.W.hasDictIn K CF = true)
    (iCF : PySem.W.isClsIn K CF = true)
    (sCF : PySem.W.subIn K (.ref CF) (.ref CF) = some true)
    (a1 : PySem.W.nsIn K mainGlobals "tables_of" = some (some (.ref f1)))
    (l1 : K.lookup f1 = some ⟨oc1, od1, .func (PySem.W.fnOf "tables_of" "tables_of" (defArgs sTab) (defBody sTab) (defScope sTab) .none kV1 dc1 pm1 an1 cd1 ct1), sl1⟩)
    (c1 : PySem.W.codeIn K cd1 "tables_of" = true)
    (k1 : PySem.W.keepIn K (.ref f1) = true)
    (a2 : PySem.W.nsIn K mainGlobals "ways_by_code" = some (some (.ref f2)))
    (l2 : K.lookup f2 = some ⟨oc2, od2, .func (PySem.W.fnOf "ways_by_code" "ways_by_code" (defArgs sWays) (defBody sWays) (defScope sWays) .none kV2 dc2 pm2 an2 cd2 ct2), sl2⟩)
    (c2 : PySem.W.codeIn K cd2 "ways_by_code" = true)
    (k2 : PySem.W.keepIn K (.ref f2) = true)
    (a3 : PySem.W.nsIn K mainGlobals "beginnings" = some (some (.ref f3)))
    (l3 : K.lookup f3 = some ⟨oc3, od3, .func (PySem.W.fnOf "beginnings" "beginnings" (defArgs sBeg) (defBody sBeg) (defScope sBeg) .none kV3 dc3 pm3 an3 cd3 ct3), sl3⟩)
    (c3 : PySem.W.codeIn K cd3 "beginnings" = true)
    (k3 : PySem.W.keepIn K (.ref f3) = true)
    (a4 : PySem.W.nsIn K mainGlobals "blacken" = some (some (.ref f4)))
    (l4 : K.lookup f4 = some ⟨oc4, od4, .func (PySem.W.fnOf "blacken" "blacken" (defArgs sBlk) (defBody sBlk) (defScope sBlk) .none kV4 dc4 pm4 an4 cd4 ct4), sl4⟩)
    (c4 : PySem.W.codeIn K cd4 "blacken" = true)
    (k4 : PySem.W.keepIn K (.ref f4) = true)
    (a5 : PySem.W.nsIn K mainGlobals "bytes_of" = some (some (.ref f5)))
    (l5 : K.lookup f5 = some ⟨oc5, od5, .func (PySem.W.fnOf "bytes_of" "bytes_of" (defArgs sByt) (defBody sByt) (defScope sByt) .none kV5 dc5 pm5 an5 cd5 ct5), sl5⟩)
    (c5 : PySem.W.codeIn K cd5 "bytes_of" = true)
    (k5 : PySem.W.keepIn K (.ref f5) = true)
    (a6 : PySem.W.nsIn K mainGlobals "changed" = some (some (.ref f6)))
    (l6 : K.lookup f6 = some ⟨oc6, od6, .func (PySem.W.fnOf "changed" "changed" (defArgs sChd) (defBody sChd) (defScope sChd) .none kV6 dc6 pm6 an6 cd6 ct6), sl6⟩)
    (c6 : PySem.W.codeIn K cd6 "changed" = true)
    (k6 : PySem.W.keepIn K (.ref f6) = true)
    (a7 : PySem.W.findIn K (.ref CA) "__init__" = some (some (.ref f7)))
    (i7 : PySem.W.isFn K (.ref f7) = true)
    (l7 : K.lookup f7 = some ⟨oc7, od7, .func (PySem.W.fnOf "__init__" "Above.__init__" (defArgs sAbI) (defBody sAbI) (defScope sAbI) .none kV7 dc7 pm7 an7 cd7 ct7), sl7⟩)
    (c7 : PySem.W.codeIn K cd7 "Above.__init__" = true)
    (k7 : PySem.W.keepIn K (.ref f7) = true)
    (a8 : PySem.W.findIn K (.ref CA) "at" = some (some (.ref f8)))
    (i8 : PySem.W.isFn K (.ref f8) = true)
    (l8 : K.lookup f8 = some ⟨oc8, od8, .func (PySem.W.fnOf "at" "Above.at" (defArgs sAt) (defBody sAt) (defScope sAt) .none kV8 dc8 pm8 an8 cd8 ct8), sl8⟩)
    (c8 : PySem.W.codeIn K cd8 "Above.at" = true)
    (k8 : PySem.W.keepIn K (.ref f8) = true)
    (a9 : PySem.W.findIn K (.ref CA) "both" = some (some (.ref f9)))
    (i9 : PySem.W.isFn K (.ref f9) = true)
    (l9 : K.lookup f9 = some ⟨oc9, od9, .func (PySem.W.fnOf "both" "Above.both" (defArgs sBoth) (defBody sBoth) (defScope sBoth) .none kV9 dc9 pm9 an9 cd9 ct9), sl9⟩)
    (c9 : PySem.W.codeIn K cd9 "Above.both" = true)
    (k9 : PySem.W.keepIn K (.ref f9) = true)
    (a10 : PySem.W.findIn K (.ref CF) "__init__" = some (some (.ref f10)))
    (ty10 : PySem.W.typeIn K (.ref f10) = some (.type "function"))
    (l10 : K.lookup f10 = some ⟨oc10, od10, .func (PySem.W.fnOf "__init__" "Fault.__init__" (defArgs sFlI) (defBody sFlI) (defScope sFlI) .none kV10 dc10 pm10 an10 cd10 ct10), sl10⟩)
    (c10 : PySem.W.codeIn K cd10 "Fault.__init__" = true)
    (k10 : PySem.W.keepIn K (.ref f10) = true)
    (a11 : PySem.W.nsIn K mainGlobals "bits_of" = some (some (.ref f11)))
    (l11 : K.lookup f11 = some ⟨oc11, od11, .func (PySem.W.fnOf "bits_of" "bits_of" (defArgs sBits) (defBody sBits) (defScope sBits) .none kV11 dc11 pm11 an11 cd11 ct11), sl11⟩)
    (c11 : PySem.W.codeIn K cd11 "bits_of" = true)
    (k11 : PySem.W.keepIn K (.ref f11) = true)
    (a12 : PySem.W.findIn K (.ref CR) "__init__" = some (some (.ref f12)))
    (i12 : PySem.W.isFn K (.ref f12) = true)
    (l12 : K.lookup f12 = some ⟨oc12, od12, .func (PySem.W.fnOf "__init__" "Reader.__init__" (defArgs sRdI) (defBody sRdI) (defScope sRdI) .none kV12 dc12 pm12 an12 cd12 ct12), sl12⟩)
    (c12 : PySem.W.codeIn K cd12 "Reader.__init__" = true)
    (k12 : PySem.W.keepIn K (.ref f12) = true)
    (a13 : PySem.W.findIn K (.ref CR) "code" = some (some (.ref f13)))
    (i13 : PySem.W.isFn K (.ref f13) = true)
    (l13 : K.lookup f13 = some ⟨oc13, od13, .func (PySem.W.fnOf "code" "Reader.code" (defArgs sCode) (defBody sCode) (defScope sCode) .none kV13 dc13 pm13 an13 cd13 ct13), sl13⟩)
    (c13 : PySem.W.codeIn K cd13 "Reader.code" = true)
    (k13 : PySem.W.keepIn K (.ref f13) = true)
    (a14 : PySem.W.findIn K (.ref CR) "run" = some (some (.ref f14)))
    (i14 : PySem.W.isFn K (.ref f14) = true)
    (l14 : K.lookup f14 = some ⟨oc14, od14, .func (PySem.W.fnOf "run" "Reader.run" (defArgs sRun) (defBody sRun) (defScope sRun) .none kV14 dc14 pm14 an14 cd14 ct14), sl14⟩)
    (c14 : PySem.W.codeIn K cd14 "Reader.run" = true)
    (k14 : PySem.W.keepIn K (.ref f14) = true)
    (a15 : PySem.W.findIn K (.ref CR) "row_alone" = some (some (.ref f15)))
    (i15 : PySem.W.isFn K (.ref f15) = true)
    (l15 : K.lookup f15 = some ⟨oc15, od15, .func (PySem.W.fnOf "row_alone" "Reader.row_alone" (defArgs sAlone) (defBody sAlone) (defScope sAlone) .none kV15 dc15 pm15 an15 cd15 ct15), sl15⟩)
    (c15 : PySem.W.codeIn K cd15 "Reader.row_alone" = true)
    (k15 : PySem.W.keepIn K (.ref f15) = true)
    (a16 : PySem.W.findIn K (.ref CR) "row_by" = some (some (.ref f16)))
    (i16 : PySem.W.isFn K (.ref f16) = true)
    (l16 : K.lookup f16 = some ⟨oc16, od16, .func (PySem.W.fnOf "row_by" "Reader.row_by" (defArgs sBy) (defBody sBy) (defScope sBy) .none kV16 dc16 pm16 an16 cd16 ct16), sl16⟩)
    (c16 : PySem.W.codeIn K cd16 "Reader.row_by" = true)
    (k16 : PySem.W.keepIn K (.ref f16) = true)
    (a17 : PySem.W.findIn K (.ref CR) "is_end_next" = some (some (.ref f17)))
    (i17 : PySem.W.isFn K (.ref f17) = true)
    (l17 : K.lookup f17 = some ⟨oc17, od17, .func (PySem.W.fnOf "is_end_next" "Reader.is_end_next" (defArgs sNext) (defBody sNext) (defScope sNext) .none kV17 dc17 pm17 an17 cd17 ct17), sl17⟩)
    (c17 : PySem.W.codeIn K cd17 "Reader.is_end_next" = true)
    (k17 : PySem.W.keepIn K (.ref f17) = true)
    (a18 : PySem.W.findIn K (.ref CR) "line_end" = some (some (.ref f18)))
    (i18 : PySem.W.isFn K (.ref f18) = true)
    (l18 : K.lookup f18 = some ⟨oc18, od18, .func (PySem.W.fnOf "line_end" "Reader.line_end" (defArgs sLend) (defBody sLend) (defScope sLend) .none kV18 dc18 pm18 an18 cd18 ct18), sl18⟩)
    (c18 : PySem.W.codeIn K cd18 "Reader.line_end" = true)
    (k18 : PySem.W.keepIn K (.ref f18) = true)
    (a19 : PySem.W.findIn K (.ref CR) "whole_end" = some (some (.ref f19)))
    (i19 : PySem.W.isFn K (.ref f19) = true)
    (l19 : K.lookup f19 = some ⟨oc19, od19, .func (PySem.W.fnOf "whole_end" "Reader.whole_end" (defArgs sWhole) (defBody sWhole) (defScope sWhole) .none kV19 dc19 pm19 an19 cd19 ct19), sl19⟩)
    (c19 : PySem.W.codeIn K cd19 "Reader.whole_end" = true)
    (k19 : PySem.W.keepIn K (.ref f19) = true)
    (a20 : PySem.W.findIn K (.ref CR) "one_bit" = some (some (.ref f20)))
    (i20 : PySem.W.isFn K (.ref f20) = true)
    (l20 : K.lookup f20 = some ⟨oc20, od20, .func (PySem.W.fnOf "one_bit" "Reader.one_bit" (defArgs sOne) (defBody sOne) (defScope sOne) .none kV20 dc20 pm20 an20 cd20 ct20), sl20⟩)
    (c20 : PySem.W.codeIn K cd20 "Reader.one_bit" = true)
    (k20 : PySem.W.keepIn K (.ref f20) = true)
    (a21 : PySem.W.findIn K (.ref CR) "due_one" = some (some (.ref f21)))
    (i21 : PySem.W.isFn K (.ref f21) = true)
    (l21 : K.lookup f21 = some ⟨oc21, od21, .func (PySem.W.fnOf "due_one" "Reader.due_one" (defArgs sDue) (defBody sDue) (defScope sDue) .none kV21 dc21 pm21 an21 cd21 ct21), sl21⟩)
    (c21 : PySem.W.codeIn K cd21 "Reader.due_one" = true)
    (k21 : PySem.W.keepIn K (.ref f21) = true)
    (a22 : PySem.W.findIn K (.ref CR) "page_end" = some (some (.ref f22)))
    (i22 : PySem.W.isFn K (.ref f22) = true)
    (l22 : K.lookup f22 = some ⟨oc22, od22, .func (PySem.W.fnOf "page_end" "Reader.page_end" (defArgs sPend) (defBody sPend) (defScope sPend) .none kV22 dc22 pm22 an22 cd22 ct22), sl22⟩)
    (c22 : PySem.W.codeIn K cd22 "Reader.page_end" = true)
    (k22 : PySem.W.keepIn K (.ref f22) = true)
    (a23 : PySem.W.findIn K (.ref CR) "lines" = some (some (.ref f23)))
    (i23 : PySem.W.isFn K (.ref f23) = true)
    (l23 : K.lookup f23 = some ⟨oc23, od23, .func (PySem.W.fnOf "lines" "Reader.lines" (defArgs sLines) (defBody sLines) (defScope sLines) .none kV23 dc23 pm23 an23 cd23 ct23), sl23⟩)
    (c23 : PySem.W.codeIn K cd23 "Reader.lines" = true)
    (k23 : PySem.W.keepIn K (.ref f23) = true)
    (a24 : PySem.W.findIn K (.ref CR) "plain_lines" = some (some (.ref f24)))
    (i24 : PySem.W.isFn K (.ref f24) = true)
    (l24 : K.lookup f24 = some ⟨oc24, od24, .func (PySem.W.fnOf "plain_lines" "Reader.plain_lines" (defArgs sPlain) (defBody sPlain) (defScope sPlain) .none kV24 dc24 pm24 an24 cd24 ct24), sl24⟩)
    (c24 : PySem.W.codeIn K cd24 "Reader.plain_lines" = true)
    (k24 : PySem.W.keepIn K (.ref f24) = true)
    (a25 : PySem.W.findIn K (.ref CR) "check_rest" = some (some (.ref f25)))
    (i25 : PySem.W.isFn K (.ref f25) = true)
    (l25 : K.lookup f25 = some ⟨oc25, od25, .func (PySem.W.fnOf "check_rest" "Reader.check_rest" (defArgs sRest) (defBody sRest) (defScope sRest) .none kV25 dc25 pm25 an25 cd25 ct25), sl25⟩)
    (c25 : PySem.W.codeIn K cd25 "Reader.check_rest" = true)
    (k25 : PySem.W.keepIn K (.ref f25) = true)
    (a26 : PySem.W.findIn K (.ref CR) "page" = some (some (.ref f26)))
    (i26 : PySem.W.isFn K (.ref f26) = true)
    (l26 : K.lookup f26 = some ⟨oc26, od26, .func (PySem.W.fnOf "page" "Reader.page" (defArgs sPage) (defBody sPage) (defScope sPage) .none kV26 dc26 pm26 an26 cd26 ct26), sl26⟩)
    (c26 : PySem.W.codeIn K cd26 "Reader.page" = true)
    (k26 : PySem.W.keepIn K (.ref f26) = true)
    (a27 : PySem.W.nsIn K mainGlobals "read_page" = some (some (.ref f27)))
    (l27 : K.lookup f27 = some ⟨oc27, od27, .func (PySem.W.fnOf "read_page" "read_page" (defArgs sRead) (defBody sRead) (defScope sRead) .none kV27 dc27 pm27 an27 cd27 ct27), sl27⟩)
    (c27 : PySem.W.codeIn K cd27 "read_page" = true)
    (k27 : PySem.W.keepIn K (.ref f27) = true)
    (a28 : PySem.W.nsIn K mainGlobals "fax_read" = some (some (.ref f28)))
    (l28 : K.lookup f28 = some ⟨oc28, od28, .func (PySem.W.fnOf "fax_read" "fax_read" (defArgs sFax) (defBody sFax) (defScope sFax) .none kV28 dc28 pm28 an28 cd28 ct28), sl28⟩)
    (c28 : PySem.W.codeIn K cd28 "fax_read" = true)
    (k28 : PySem.W.keepIn K (.ref f28) = true)
    (gbo : PySem.W.nsIn K mainGlobals "BOTH_LONG" = some (some (.str (strAt top2 5) tbo)))
    (gws : PySem.W.nsIn K mainGlobals "WHITE_SHORT" = some (some (.str (strAt top2 1) tws)))
    (gwl : PySem.W.nsIn K mainGlobals "WHITE_LONG" = some (some (.str (strAt top2 2) twl)))
    (gbs : PySem.W.nsIn K mainGlobals "BLACK_SHORT" = some (some (.str (strAt top2 3) tbs)))
    (gbl : PySem.W.nsIn K mainGlobals "BLACK_LONG" = some (some (.str (strAt top2 4) tbl)))
    (gle : PySem.W.nsIn K mainGlobals "LINE_END" = some (some (.str ("000000000001") tle)))
    (gps : PySem.W.nsIn K mainGlobals "PASS" = some (some (.str ("0001") tps)))
    (gac : PySem.W.nsIn K mainGlobals "ACROSS" = some (some (.str ("001") tac)))
    (gst : PySem.W.nsIn K mainGlobals "STEP" = some (some (.int 64 tst)))
    (gnc : PySem.W.nsIn K mainGlobals "NO_CODE" = some (some (.int (-11) tnc)))
    (gnl : PySem.W.nsIn K mainGlobals "NOT_LET" = some (some (.int (-12) tnl)))
    (gne : PySem.W.nsIn K mainGlobals "NO_END" = some (some (.int (-13) tne)))
    (gcu : PySem.W.nsIn K mainGlobals "CUT" = some (some (.int (-14) tcu)))
    (gmo : PySem.W.nsIn K mainGlobals "MORE" = some (some (.int (-15) tmo)))
    (gtm : PySem.W.nsIn K mainGlobals "TOO_MANY" = some (some (.int (-16) ttm)))
    (gmr : PySem.W.nsIn K mainGlobals "MORE_RUNS" = some (some (.int 3 tmr)))
    (gen : PySem.W.nsIn K mainGlobals "ENDS" = some (some (.int 6 ten)))
    (gms : PySem.W.nsIn K mainGlobals "MOST_SIDE" = some (some (.int 16384 tms)))
    (gby : PySem.W.nsIn K mainGlobals "BEYOND" = some (some (.int (-1) tby)))
    (gxe : PySem.W.nsIn K mainGlobals "enumerate" = some none)
    (gxl : PySem.W.nsIn K mainGlobals "len" = some none)
    (gxr : PySem.W.nsIn K mainGlobals "range" = some none)
    (gxm : PySem.W.nsIn K mainGlobals "max" = some none)
    (gxs : PySem.W.nsIn K mainGlobals "sorted" = some none)
    (gS : PySem.W.nsIn K mainGlobals "STRAIGHT" = some (some (.ref aS)))
    (lS : K.lookup aS = some ⟨.type "tuple", odS, .seq #[.str "0000010" tS1, .str "000010" tS2, .str "010" tS3, .str "1" tS4, .str "011" tS5, .str "000011" tS6, .str "0000011" tS7] nS, slS⟩) :
    ∃ fd : FuncData, (∀ (s : Shared) (us : List Value), us.length = (["kind", "width", "most", "data"] : List Str).length → BindsTo s fd ⟨us, []⟩ ((["kind", "width", "most", "data"] : List Str).zip us)) ∧ ∀ base : Heap, K.In base → base.Ns mainGlobals mg → FnOk P w K mg base CX0 9 fa fd ["kind", "width", "most", "data"] (spFax K) := by
  have e := hfa.symm.trans (PySem.W.mg_of X G a28)
  cases e
  have TX : Txt K mg := ⟨PySem.W.mg_none_of X G gxe, PySem.W.mg_none_of X G gxl, PySem.W.mg_none_of X G gxr, PySem.W.mg_none_of X G gxm, PySem.W.mg_none_of X G gxs, ⟨_, PySem.W.mg_of X G gbo⟩, ⟨_, PySem.W.mg_of X G gws⟩, ⟨_, PySem.W.mg_of X G gwl⟩, ⟨_, PySem.W.mg_of X G gbs⟩, ⟨_, PySem.W.mg_of X G gbl⟩, ⟨_, PySem.W.mg_of X G gle⟩, ⟨_, PySem.W.mg_of X G gps⟩, ⟨_, PySem.W.mg_of X G gac⟩, ⟨_, PySem.W.mg_of X G gst⟩, ⟨_, PySem.W.mg_of X G gnc⟩, ⟨_, PySem.W.mg_of X G gnl⟩, ⟨_, PySem.W.mg_of X G gne⟩, ⟨_, PySem.W.mg_of X G gcu⟩, ⟨_, PySem.W.mg_of X G gmo⟩, ⟨_, PySem.W.mg_of X G gtm⟩, ⟨_, PySem.W.mg_of X G gmr⟩, ⟨_, PySem.W.mg_of X G gen⟩, ⟨_, PySem.W.mg_of X G gms⟩, ⟨_, PySem.W.mg_of X G gby⟩⟩
  have TS : Straight K mg := ⟨aS, PySem.W.mg_of X G gS, fun H => .inr ⟨_, _, _, lS, rfl, rfl, by show 7 ≤ sizeLine; decide, .cons ⟨_, rfl⟩ (.cons ⟨_, rfl⟩ (.cons ⟨_, rfl⟩ (.cons ⟨_, rfl⟩ (.cons ⟨_, rfl⟩ (.cons ⟨_, rfl⟩ (.cons ⟨_, rfl⟩ .nil))))))⟩⟩
  have TA : AbT K mg CA f7 f8 f9 := ⟨⟨pgCA, hdCA, poCA, saCA⟩, noCAchanges, noCAwidth, noCAspot, PySem.W.mg_of X G gCA, ⟨mkCA, a7, i7, kcCA⟩, ⟨a8, i8, k8⟩, ⟨a9, i9, k9⟩⟩
  have TR : RdT K mg CR := ⟨⟨pgCR, hdCR, poCR, saCR⟩, noCRkind, noCRwidth, noCRmost, noCRbits, noCRplace, noCRtables, noCRbegun, PySem.W.mg_of X G gCR⟩
  have TF : FlT K mg CF f10 := ⟨⟨⟨xnm, xq, xN, xbs, _, xsn, xsub, xab, xcol, xdd, xm0, xm1, xm2, xm3, xm5, xL, by decide +kernel⟩, saCF, eCF, tCF, kCF⟩, nbCF, npCF, a10, ty10, PySem.W.mg_of X G gCF⟩
  have XF : XfC K CF := ⟨gaCF, ggCF, eCF, hCF⟩
  have F1 := fun_mk (st := sTab) l1 c1 k1
  have b1 := F1.binds (ps := ["short", "long"]) fun _ _ _ _ _ _ us hl => match us, hl with | [_, _], _ => rfl
  have F2 := fun_mk (st := sWays) l2 c2 k2
  have b2 := F2.binds (ps := []) fun _ _ _ _ _ _ us hl => match us, hl with | [], _ => rfl
  have F3 := fun_mk (st := sBeg) l3 c3 k3
  have b3 := F3.binds (ps := ["codes"]) fun _ _ _ _ _ _ us hl => match us, hl with | [_], _ => rfl
  have F4 := fun_mk (st := sBlk) l4 c4 k4
  have b4 := F4.binds (ps := ["row", "begin", "end"]) fun _ _ _ _ _ _ us hl => match us, hl with | [_, _, _], _ => rfl
  have F5 := fun_mk (st := sByt) l5 c5 k5
  have b5 := F5.binds (ps := ["changes", "width"]) fun _ _ _ _ _ _ us hl => match us, hl with | [_, _], _ => rfl
  have F6 := fun_mk (st := sChd) l6 c6 k6
  have b6 := F6.binds (ps := ["runs", "width"]) fun _ _ _ _ _ _ us hl => match us, hl with | [_, _], _ => rfl
  have F7 := fun_mk (st := sAbI) l7 c7 k7
  have b7 := F7.binds (ps := ["self", "changes", "width"]) fun _ _ _ _ _ _ us hl => match us, hl with | [_, _, _], _ => rfl
  have F8 := fun_mk (st := sAt) l8 c8 k8
  have b8 := F8.binds (ps := ["self", "spot"]) fun _ _ _ _ _ _ us hl => match us, hl with | [_, _], _ => rfl
  have F9 := fun_mk (st := sBoth) l9 c9 k9
  have b9 := F9.binds (ps := ["self", "place", "colour"]) fun _ _ _ _ _ _ us hl => match us, hl with | [_, _, _], _ => rfl
  have F10 := fun_mk (st := sFlI) l10 c10 k10
  have b10 := F10.binds (ps := ["self", "number", "place"]) fun _ _ _ _ _ _ us hl => match us, hl with | [_, _, _], _ => rfl
  have F11 := fun_mk (st := sBits) l11 c11 k11
  have b11 := F11.binds (ps := ["data"]) fun _ _ _ _ _ _ us hl => match us, hl with | [_], _ => rfl
  have F12 := fun_mk (st := sRdI) l12 c12 k12
  have b12 := F12.binds (ps := ["self", "kind", "width", "most", "data"]) fun _ _ _ _ _ _ us hl => match us, hl with | [_, _, _, _, _], _ => rfl
  have M12 : Meth K CR "__init__" f12 := ⟨a12, i12, k12⟩
  have F13 := fun_mk (st := sCode) l13 c13 k13
  have b13 := F13.binds (ps := ["self", "number"]) fun _ _ _ _ _ _ us hl => match us, hl with | [_, _], _ => rfl
  have M13 : Meth K CR "code" f13 := ⟨a13, i13, k13⟩
  have F14 := fun_mk (st := sRun) l14 c14 k14
  have b14 := F14.binds (ps := ["self", "colour", "begin"]) fun _ _ _ _ _ _ us hl => match us, hl with | [_, _, _], _ => rfl
  have M14 : Meth K CR "run" f14 := ⟨a14, i14, k14⟩
  have F15 := fun_mk (st := sAlone) l15 c15 k15
  have b15 := F15.binds (ps := ["self"]) fun _ _ _ _ _ _ us hl => match us, hl with | [_], _ => rfl
  have M15 : Meth K CR "row_alone" f15 := ⟨a15, i15, k15⟩
  have F16 := fun_mk (st := sBy) l16 c16 k16
  have b16 := F16.binds (ps := ["self", "before"]) fun _ _ _ _ _ _ us hl => match us, hl with | [_, _], _ => rfl
  have M16 : Meth K CR "row_by" f16 := ⟨a16, i16, k16⟩
  have F17 := fun_mk (st := sNext) l17 c17 k17
  have b17 := F17.binds (ps := ["self", "many"]) fun _ _ _ _ _ _ us hl => match us, hl with | [_, _], _ => rfl
  have M17 : Meth K CR "is_end_next" f17 := ⟨a17, i17, k17⟩
  have F18 := fun_mk (st := sLend) l18 c18 k18
  have b18 := F18.binds (ps := ["self"]) fun _ _ _ _ _ _ us hl => match us, hl with | [_], _ => rfl
  have M18 : Meth K CR "line_end" f18 := ⟨a18, i18, k18⟩
  have F19 := fun_mk (st := sWhole) l19 c19 k19
  have b19 := F19.binds (ps := ["self"]) fun _ _ _ _ _ _ us hl => match us, hl with | [_], _ => rfl
  have M19 : Meth K CR "whole_end" f19 := ⟨a19, i19, k19⟩
  have F20 := fun_mk (st := sOne) l20 c20 k20
  have b20 := F20.binds (ps := ["self"]) fun _ _ _ _ _ _ us hl => match us, hl with | [_], _ => rfl
  have M20 : Meth K CR "one_bit" f20 := ⟨a20, i20, k20⟩
  have F21 := fun_mk (st := sDue) l21 c21 k21
  have b21 := F21.binds (ps := ["self"]) fun _ _ _ _ _ _ us hl => match us, hl with | [_], _ => rfl
  have M21 : Meth K CR "due_one" f21 := ⟨a21, i21, k21⟩
  have F22 := fun_mk (st := sPend) l22 c22 k22
  have b22 := F22.binds (ps := ["self"]) fun _ _ _ _ _ _ us hl => match us, hl with | [_], _ => rfl
  have M22 : Meth K CR "page_end" f22 := ⟨a22, i22, k22⟩
  have F23 := fun_mk (st := sLines) l23 c23 k23
  have b23 := F23.binds (ps := ["self"]) fun _ _ _ _ _ _ us hl => match us, hl with | [_], _ => rfl
  have M23 : Meth K CR "lines" f23 := ⟨a23, i23, k23⟩
  have F24 := fun_mk (st := sPlain) l24 c24 k24
  have b24 := F24.binds (ps := ["self"]) fun _ _ _ _ _ _ us hl => match us, hl with | [_], _ => rfl
  have M24 : Meth K CR "plain_lines" f24 := ⟨a24, i24, k24⟩
  have F25 := fun_mk (st := sRest) l25 c25 k25
  have b25 := F25.binds (ps := ["self"]) fun _ _ _ _ _ _ us hl => match us, hl with | [_], _ => rfl
  have M25 : Meth K CR "check_rest" f25 := ⟨a25, i25, k25⟩
  have F26 := fun_mk (st := sPage) l26 c26 k26
  have b26 := F26.binds (ps := ["self"]) fun _ _ _ _ _ _ us hl => match us, hl with | [_], _ => rfl
  have M26 : Meth K CR "page" f26 := ⟨a26, i26, k26⟩
  have F27 := fun_mk (st := sRead) l27 c27 k27
  have b27 := F27.binds (ps := ["kind", "width", "most", "data"]) fun _ _ _ _ _ _ us hl => match us, hl with | [_, _, _, _], _ => rfl
  have F28 := fun_mk (st := sFax) l28 c28 k28
  refine ⟨PySem.W.fnOf "fax_read" "fax_read" (defArgs sFax) (defBody sFax) (defScope sFax) .none kV28 dc28 pm28 an28 cd28 ct28, fun s us hu => match us, hu with | [_, _, _, _], _ => .of_eq rfl, fun base _ _ => ?_⟩
  have G1 : FnOk P w K mg base CX0 1 f1 _ ["short", "long"] spTab := ok_tab F1 TX
  have G2 : FnOk P w K mg base CX0 1 f2 _ [] spWays := ok_ways F2 TX TS
  have G3 : FnOk P w K mg base CX0 1 f3 _ ["codes"] spBeg := ok_beg F3 TX
  have G4 : FnOk P w K mg base CX0 1 f4 _ ["row", "begin", "end"] spBlk := ok_blk F4
  have G5 : FnOk P w K mg base CX0 2 f5 _ ["changes", "width"] spByt := ok_byt F5 TX G4 (PySem.W.mg_of X G a4) k4 b4
  have G6 : FnOk P w K mg base CX0 1 f6 _ ["runs", "width"] (spChd K) := ok_chd F6 TX
  have G7 : FnOk P w K mg base CX0 1 f7 _ ["self", "changes", "width"] (spAbI CA) := ok_abI F7 TA
  have G8 : FnOk P w K mg base CX0 1 f8 _ ["self", "spot"] (spAt CA) := ok_at F8 TX TA
  have G9 : FnOk P w K mg base CX0 2 f9 _ ["self", "place", "colour"] (spBoth CA) := ok_both F9 TX TA G8 b8
  have G10 : FnOk P w K mg base CX0 1 f10 _ ["self", "number", "place"] (spFlI K CF) := ok_flI F10 TF
  have G11 : FnOk P w K mg base CX0 1 f11 _ ["data"] (spBits K) := ok_bits F11 TX
  have G12 : FnOk P w K mg base CX0 2 f12 _ ["self", "kind", "width", "most", "data"] (spRdI K CR) := ok_rdI F12 TX TR G11 (PySem.W.mg_of X G a11) k11 b11 G1 (PySem.W.mg_of X G a1) k1 b1 G2 (PySem.W.mg_of X G a2) k2 b2 G3 (PySem.W.mg_of X G a3) k3 b3
  have G13 : FnOk P w K mg base (L2.CX P w) 3 f13 _ ["self", "number"] (spCode CR CF) := ok_code F13 TX TR TF G10 b10
  have G14 : FnOk P w K mg base (L2.CX P w) 4 f14 _ ["self", "colour", "begin"] (spRun CR CF) := ok_run F14 TX TR TF G10 b10 M13 G13 b13
  have G15 : FnOk P w K mg base (L2.CX P w) 5 f15 _ ["self"] (spAlone CR CF) := ok_alone F15 TX TR TF G10 b10 M14 G14 b14 G6 (PySem.W.mg_of X G a6) k6 b6
  have G16 : FnOk P w K mg base (L2.CX P w) 5 f16 _ ["self", "before"] (spBy CR CF) := ok_by F16 TX TR TF TA G10 b10 M14 G14 b14 M13 G13 b13 G7 b7 G9 b9 G6 (PySem.W.mg_of X G a6) k6 b6
  have G17 : FnOk P w K mg base CX0 1 f17 _ ["self", "many"] (spNext CR) := ok_next F17 TX TR
  have G18 : FnOk P w K mg base (L2.CX P w) 3 f18 _ ["self"] (spLend CR CF) := ok_lend F18 TX TR TF G10 b10
  have G19 : FnOk P w K mg base (L2.CX P w) 3 f19 _ ["self"] (spWhole CR CF) := ok_whole F19 TX TR TF G10 b10
  have G20 : FnOk P w K mg base (L2.CX P w) 3 f20 _ ["self"] (spOne CR CF) := ok_one F20 TX TR TF G10 b10
  have G21 : FnOk P w K mg base (L2.CX P w) 4 f21 _ ["self"] (spDue CR CF) := ok_due F21 TX TR TF G10 b10 M20 G20 b20
  have G22 : FnOk P w K mg base (L2.CX P w) 5 f22 _ ["self"] (spPend CR CF) := ok_pend F22 TX TR M19 G19 b19 M21 G21 b21
  have G23 : FnOk P w K mg base (L2.CX P w) 6 f23 _ ["self"] (spLines CR CF) := ok_lines F23 TX TR TF G10 b10 M18 G18 b18 M20 G20 b20 M17 G17 b17 M22 G22 b22 M15 G15 b15 M16 G16 b16
  have G24 : FnOk P w K mg base (L2.CX P w) 6 f24 _ ["self"] (spPlain CR CF) := ok_plain F24 TX TR TF G10 b10 M17 G17 b17 M16 G16 b16
  have G25 : FnOk P w K mg base (L2.CX P w) 3 f25 _ ["self"] (spRest CR CF) := ok_rest F25 TX TR TF G10 b10
  have G26 : FnOk P w K mg base (L2.CX P w) 7 f26 _ ["self"] (spPage CR CF) := ok_page F26 TX TR M24 G24 b24 M23 G23 b23 M25 G25 b25
  have G27 : FnOk P w K mg base CX0 8 f27 _ ["kind", "width", "most", "data"] (spRead K) := ok_read F27 TX TR TF XF (exm_self eCF iCF tCF sCF) ⟨mkCR, a12, i12, kcCR⟩ G12 b12 M26 G26 b26 G5 (PySem.W.mg_of X G a5) k5 b5
  exact ok_fax F28 TX G27 (PySem.W.mg_of X G a27) k27 b27
theorem and_of {a b : Bool} (h : (a && b) = true) : a = true ∧ b = true := by simpa using h
theorem len_of {l : List Int} (h : PySem.W.Codec.inList 0 100000 (PySem.W.Codec.inInt 0 255) l = true) : l.length ≤ 100000 := by
  have h1 : PySem.W.Codec.inNat 0 100000 l.length = true := (and_of (show (PySem.W.Codec.inNat 0 100000 l.length && _) = true from h)).1
  exact of_decide_eq_true (and_of h1).2
end Fax2
open PySem PySem.W PyProof.Rows
set_option maxRecDepth 100000 in
set_option maxHeartbeats 8000000 in
theorem PySem.Challenge.cw_faxpages_s02_fax_read_holds : PySem.Challenge.rw_faxpages_s02_fax_read.Holds := by
  have said := Fax.said2
  w_on; k_headS; (case hw => exact ⟨[.int 3, .int 0, .int 0, .list []], by decide +kernel, by decide +kernel⟩)
  k_fillS
  refine L2.walk_specK (r := PySem.Challenge.rw_faxpages_s02_fax_read) (k := 9) (CX := L2.CX0) (ps := ["kind", "width", "most", "data"]) (sp := Fax2.spFax) Fax.said2 rfl rfl ⟨rfl, by decide, by decide⟩ (fun w h Y => PySem.W.kIn_of Y) ?F ?S (fun _ _ _ _ z => z)
  case F =>
    intro w mg fa h Y KX G hmg
    refine' Fax2.all_mk KX G hmg ?gCA ?pgCA ?hdCA ?poCA ?saCA ?mkCA ?kcCA ?noCAchanges ?noCAwidth ?noCAspot ?gCR ?pgCR ?hdCR ?poCR ?saCR ?mkCR ?kcCR ?noCRkind ?noCRwidth ?noCRmost ?noCRbits ?noCRplace ?noCRtables ?noCRbegun ?gCF ?xL ?saCF ?gaCF ?ggCF ?nbCF ?npCF ?kCF ?eCF ?tCF ?hCF ?iCF ?sCF ?a1 ?l1 ?c1 ?k1 ?a2 ?l2 ?c2 ?k2 ?a3 ?l3 ?c3 ?k3 ?a4 ?l4 ?c4 ?k4 ?a5 ?l5 ?c5 ?k5 ?a6 ?l6 ?c6 ?k6 ?a7 ?i7 ?l7 ?c7 ?k7 ?a8 ?i8 ?l8 ?c8 ?k8 ?a9 ?i9 ?l9 ?c9 ?k9 ?a10 ?ty10 ?l10 ?c10 ?k10 ?a11 ?l11 ?c11 ?k11 ?a12 ?i12 ?l12 ?c12 ?k12 ?a13 ?i13 ?l13 ?c13 ?k13 ?a14 ?i14 ?l14 ?c14 ?k14 ?a15 ?i15 ?l15 ?c15 ?k15 ?a16 ?i16 ?l16 ?c16 ?k16 ?a17 ?i17 ?l17 ?c17 ?k17 ?a18 ?i18 ?l18 ?c18 ?k18 ?a19 ?i19 ?l19 ?c19 ?k19 ?a20 ?i20 ?l20 ?c20 ?k20 ?a21 ?i21 ?l21 ?c21 ?k21 ?a22 ?i22 ?l22 ?c22 ?k22 ?a23 ?i23 ?l23 ?c23 ?k23 ?a24 ?i24 ?l24 ?c24 ?k24 ?a25 ?i25 ?l25 ?c25 ?k25 ?a26 ?i26 ?l26 ?c26 ?k26 ?a27 ?l27 ?c27 ?k27 ?a28 ?l28 ?c28 ?k28 ?gbo ?gws ?gwl ?gbs ?gbl ?gle ?gps ?gac ?gst ?gnc ?gnl ?gne ?gcu ?gmo ?gtm ?gmr ?gen ?gms ?gby ?gxe ?gxl ?gxr ?gxm ?gxs ?gS ?lS
    (case gCA => k_is)
    (case pgCA => k_is)
    (case hdCA => k_is)
    (case poCA => k_is)
    (case saCA => k_is)
    (case mkCA => k_is)
    (case kcCA => k_is)
    (case noCAchanges => k_is)
    (case noCAwidth => k_is)
    (case noCAspot => k_is)
    (case gCR => k_is)
    (case pgCR => k_is)
    (case hdCR => k_is)
    (case poCR => k_is)
    (case saCR => k_is)
    (case mkCR => k_is)
    (case kcCR => k_is)
    (case noCRkind => k_is)
    (case noCRwidth => k_is)
    (case noCRmost => k_is)
    (case noCRbits => k_is)
    (case noCRplace => k_is)
    (case noCRtables => k_is)
    (case noCRbegun => k_is)
    (case gCF => k_is)
    (case xL => k_is)
    (case saCF => k_is)
    (case gaCF => k_is)
    (case ggCF => k_is)
    (case nbCF => k_is)
    (case npCF => k_is)
    (case kCF => k_is)
    (case eCF => k_is)
    (case tCF => k_is)
    (case hCF => k_is)
    (case iCF => k_is)
    (case sCF => first | rfl | k_is)
    (case a1 => k_is)
    (case l1 => k_is)
    (case c1 => k_is)
    (case k1 => k_is)
    (case a2 => k_is)
    (case l2 => k_is)
    (case c2 => k_is)
    (case k2 => k_is)
    (case a3 => k_is)
    (case l3 => k_is)
    (case c3 => k_is)
    (case k3 => k_is)
    (case a4 => k_is)
    (case l4 => k_is)
    (case c4 => k_is)
    (case k4 => k_is)
    (case a5 => k_is)
    (case l5 => k_is)
    (case c5 => k_is)
    (case k5 => k_is)
    (case a6 => k_is)
    (case l6 => k_is)
    (case c6 => k_is)
    (case k6 => k_is)
    (case a7 => k_is)
    (case i7 => k_is)
    (case l7 => k_is)
    (case c7 => k_is)
    (case k7 => k_is)
    (case a8 => k_is)
    (case i8 => k_is)
    (case l8 => k_is)
    (case c8 => k_is)
    (case k8 => k_is)
    (case a9 => k_is)
    (case i9 => k_is)
    (case l9 => k_is)
    (case c9 => k_is)
    (case k9 => k_is)
    (case a10 => k_is)
    (case ty10 => k_is)
    (case l10 => k_is)
    (case c10 => k_is)
    (case k10 => k_is)
    (case a11 => k_is)
    (case l11 => k_is)
    (case c11 => k_is)
    (case k11 => k_is)
    (case a12 => k_is)
    (case i12 => k_is)
    (case l12 => k_is)
    (case c12 => k_is)
    (case k12 => k_is)
    (case a13 => k_is)
    (case i13 => k_is)
    (case l13 => k_is)
    (case c13 => k_is)
    (case k13 => k_is)
    (case a14 => k_is)
    (case i14 => k_is)
    (case l14 => k_is)
    (case c14 => k_is)
    (case k14 => k_is)
    (case a15 => k_is)
    (case i15 => k_is)
    (case l15 => k_is)
    (case c15 => k_is)
    (case k15 => k_is)
    (case a16 => k_is)
    (case i16 => k_is)
    (case l16 => k_is)
    (case c16 => k_is)
    (case k16 => k_is)
    (case a17 => k_is)
    (case i17 => k_is)
    (case l17 => k_is)
    (case c17 => k_is)
    (case k17 => k_is)
    (case a18 => k_is)
    (case i18 => k_is)
    (case l18 => k_is)
    (case c18 => k_is)
    (case k18 => k_is)
    (case a19 => k_is)
    (case i19 => k_is)
    (case l19 => k_is)
    (case c19 => k_is)
    (case k19 => k_is)
    (case a20 => k_is)
    (case i20 => k_is)
    (case l20 => k_is)
    (case c20 => k_is)
    (case k20 => k_is)
    (case a21 => k_is)
    (case i21 => k_is)
    (case l21 => k_is)
    (case c21 => k_is)
    (case k21 => k_is)
    (case a22 => k_is)
    (case i22 => k_is)
    (case l22 => k_is)
    (case c22 => k_is)
    (case k22 => k_is)
    (case a23 => k_is)
    (case i23 => k_is)
    (case l23 => k_is)
    (case c23 => k_is)
    (case k23 => k_is)
    (case a24 => k_is)
    (case i24 => k_is)
    (case l24 => k_is)
    (case c24 => k_is)
    (case k24 => k_is)
    (case a25 => k_is)
    (case i25 => k_is)
    (case l25 => k_is)
    (case c25 => k_is)
    (case k25 => k_is)
    (case a26 => k_is)
    (case i26 => k_is)
    (case l26 => k_is)
    (case c26 => k_is)
    (case k26 => k_is)
    (case a27 => k_is)
    (case l27 => k_is)
    (case c27 => k_is)
    (case k27 => k_is)
    (case a28 => k_is)
    (case l28 => k_is)
    (case c28 => k_is)
    (case k28 => k_is)
    (case gbo => k_is)
    (case gws => k_is)
    (case gwl => k_is)
    (case gbs => k_is)
    (case gbl => k_is)
    (case gle => k_is)
    (case gps => k_is)
    (case gac => k_is)
    (case gst => k_is)
    (case gnc => k_is)
    (case gnl => k_is)
    (case gne => k_is)
    (case gcu => k_is)
    (case gmo => k_is)
    (case gtm => k_is)
    (case gmr => k_is)
    (case gen => k_is)
    (case gms => k_is)
    (case gby => k_is)
    (case gxe => k_is)
    (case gxl => k_is)
    (case gxr => k_is)
    (case gxm => k_is)
    (case gxs => k_is)
    (case gS => k_is)
    (case lS => k_is)
  case S =>
    intro K H xs a hO hwi hask hx
    cases hx with
    | cons h1 hx => cases hx with
    | cons h2 hx => cases hx with
    | cons h3 hx => cases hx with
    | cons h4 hx =>
      cases hx; cases h1; cases h2; cases h3
      cases h4 with
      | lst hs ha =>
        have e := L2.ints_dw a.2.2.2.1 _ ha
        subst e
        have hw := Fax2.and_of (show (PySem.W.Codec.inInt 0 4294967295 a.1 && (PySem.W.Codec.inInt 0 4294967295 a.2.1 && (PySem.W.Codec.inInt 0 4294967295 a.2.2.1 && (PySem.W.Codec.inList 0 100000 (PySem.W.Codec.inInt 0 255) a.2.2.2.1 && true)))) = true from hwi)
        have hl := Fax2.len_of (Fax2.and_of (Fax2.and_of (Fax2.and_of hw.2).2).2).1
        exact ⟨a.1, a.2.1, a.2.2.1, _, a.2.2.2.1, rfl, hs, hask, hl, fun H' p hp => .lst (L2.SqL.of hp) (L2.dw_ints _)⟩
#print axioms PySem.Challenge.cw_faxpages_s02_fax_read_holds
