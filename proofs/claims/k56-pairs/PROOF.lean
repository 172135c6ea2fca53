import PyProof.Rows.All
import Wide.All
import OpenK.AllK
import Wide.FinOn
import KE.KStateDown
import Lean
import HandS.ForMost
import HandS.Exc
import HandS.More
import HandS.WordsExc
import HandS.Defaults
import HandS.Head0
import HandS.Head1
import HandS.Head2
import HandS.HeadEnd
import HandS.HeadHook1
import HandS.HeadHook2
import PySem.Challenge.RW_wholepoll_k56_whole_pairs_kept
import HandS.Conv
import HandS.SetFor
import HandS.IsInst
import HandS.Style
import KE.KTupSum
import KE.KRevSl
import HandS.SortOrd
import HandS.SortRule
import HandS.TupSets
import HandS.NamedTupSort
import KE.KSortTupAny
import KE.GoesMore
import HandS.Iter
section
set_option Elab.async false
set_option maxRecDepth 100000
namespace Wp
/-! ### matrices, the strongest ways -/
abbrev Mat := Nat → Nat → Int
/-- one stage of the in-place loops: by = b -/
def stg (b : Nat) (M : Mat) : Mat := fun i j => if i ≠ j ∧ i ≠ b ∧ j ≠ b then max (M i j) (min (M i b) (M b j)) else M i j
def fw : Nat → Mat → Mat
  | 0, M => M
  | k + 1, M => stg k (fw k M)
/-- the strengths of leads over n hands -/
def stren (n : Nat) (L : Mat) : Mat := fun i j => if i = j then 0 else fw n L i j
theorem stg_ne {b : Nat} {M : Mat} {i j : Nat} (h : i ≠ j ∧ i ≠ b ∧ j ≠ b) : stg b M i j = max (M i j) (min (M i b) (M b j)) := by
  unfold stg; rw [if_pos h]
theorem stg_row {b : Nat} {M : Mat} {j : Nat} : stg b M b j = M b j := by
  unfold stg; rw [if_neg (fun h => h.2.1 rfl)]
theorem stg_col {b : Nat} {M : Mat} {i : Nat} : stg b M i b = M i b := by
  unfold stg; rw [if_neg (fun h => h.2.2 rfl)]
theorem stg_ge (b : Nat) (M : Mat) (i j : Nat) : M i j ≤ stg b M i j := by
  unfold stg; split <;> omega
theorem fw_ge (L : Mat) (i j : Nat) : ∀ k, L i j ≤ fw k L i j
  | 0 => Int.le_refl _
  | k + 1 => Int.le_trans (fw_ge L i j k) (stg_ge k (fw k L) i j)
/-- no way is stronger than its parts -/
def Tri (k : Nat) (M : Mat) : Prop := ∀ x j y, j < k → x ≠ j → j ≠ y → x ≠ y → min (M x j) (M j y) ≤ M x y
theorem tri_stg {k : Nat} {M : Mat} (h : Tri k M) : Tri (k + 1) (stg k M) := by
  intro x j y hj h1 h2 h3
  by_cases e : j = k
  · subst e
    rw [stg_col, stg_row, stg_ne ⟨h3, h1, fun q => h2 q.symm⟩]
    omega
  · have hj' : j < k := by omega
    have t1 := h x j y hj' h1 h2 h3
    by_cases ex : x = k
    · subst ex
      rw [stg_row, stg_row, stg_ne ⟨h2, e, fun q => h3 q.symm⟩]
      omega
    · by_cases ey : y = k
      · subst ey
        rw [stg_col, stg_col, stg_ne ⟨h1, ex, e⟩]
        omega
      · rw [stg_ne ⟨h1, ex, e⟩, stg_ne ⟨h2, e, ey⟩, stg_ne ⟨h3, ex, ey⟩]
        have t2 := h x j k hj' h1 e ex
        have t3 := h k j y hj' (fun q => e q.symm) h2 (fun q => ey q.symm)
        omega
theorem tri_fw (L : Mat) : ∀ k, Tri k (fw k L)
  | 0 => fun _ _ _ h => absurd h (Nat.not_lt_zero _)
  | k + 1 => tri_stg (tri_fw L k)
/-- a cut -/
theorem cut_fw {L : Mat} (S : Nat → Bool) (h : ∀ y x, S y = false → S x = true → L y x < 0) : ∀ k y x, S y = false → S x = true → fw k L y x < 0
  | 0, y, x, hy, hx => h y x hy hx
  | k + 1, y, x, hy, hx => by
    have ih := cut_fw S h k
    have h0 := ih y x hy hx
    show stg k (fw k L) y x < 0
    unfold stg
    split
    · cases hk : S k with
      | true => have := ih y k hy hk; omega
      | false => have := ih k x hk hx; omega
    · exact h0
theorem fw_congr {n : Nat} {L L' : Mat} (h : ∀ i j, i < n → j < n → L i j = L' i j) : ∀ k, k ≤ n → ∀ i j, i < n → j < n → fw k L i j = fw k L' i j
  | 0, _, i, j, hi, hj => h i j hi hj
  | k + 1, hk, i, j, hi, hj => by
    have ih := fw_congr h k (by omega)
    show stg k (fw k L) i j = stg k (fw k L') i j
    unfold stg
    rw [ih i j hi hj, ih i k hi (by omega), ih k j (by omega) hj]
theorem fw_tr (L : Mat) : ∀ k i j, fw k (fun i j => L j i) i j = fw k L j i
  | 0, _, _ => rfl
  | k + 1, i, j => by
    have ih := fw_tr L k
    show stg k (fw k fun i j => L j i) i j = stg k (fw k L) j i
    unfold stg
    rw [ih i j, ih i k, ih k j]
    by_cases c : i ≠ j ∧ i ≠ k ∧ j ≠ k
    · rw [if_pos c, if_pos ⟨fun q => c.1 q.symm, c.2.2, c.2.1⟩, Int.min_comm]
    · rw [if_neg c, if_neg fun q => c ⟨fun z => q.1 z.symm, q.2.2, q.2.1⟩]
theorem stren_tr {n : Nat} {L L' : Mat} (h : ∀ i j, i < n → j < n → L' i j = L j i) {i j : Nat} (hi : i < n) (hj : j < n) : stren n L' i j = stren n L j i := by
  unfold stren
  by_cases e : i = j
  · rw [if_pos e, if_pos e.symm]
  · rw [if_neg e, if_neg fun q => e q.symm, fw_congr (L' := fun i j => L j i) (fun a b ha hb => h a b ha hb) n (Nat.le_refl n) i j hi hj, fw_tr]
/-- a hand that is put ahead: N the ways past it -/
structure Rsd (h : Nat) (N M M' : Mat) : Prop where
  a1 : ∀ y, y ≠ h → M h y ≤ M' h y
  a2 : ∀ y, y ≠ h → M' y h ≤ M y h
  n1 : ∀ x y, x ≠ h → y ≠ h → N x y ≤ M x y
  n2 : ∀ x y, x ≠ h → y ≠ h → N x y ≤ M' x y
  c1 : ∀ x y, x ≠ h → y ≠ h → x ≠ y → M x y ≤ max (N x y) (min (M x h) (M h y))
  c2 : ∀ x y, x ≠ h → y ≠ h → x ≠ y → M' x y ≤ max (N x y) (min (M' x h) (M' h y))
theorem rsd_own {h : Nat} {N M M' : Mat} (r : Rsd h N M M') : Rsd h N (stg h M) (stg h M') := by
  obtain ⟨a1, a2, n1, n2, c1, c2⟩ := r
  refine ⟨fun y hy => by rw [stg_row, stg_row]; exact a1 y hy, fun y hy => by rw [stg_col, stg_col]; exact a2 y hy, fun x y hx hy => Int.le_trans (n1 x y hx hy) (stg_ge _ _ _ _),
    fun x y hx hy => Int.le_trans (n2 x y hx hy) (stg_ge _ _ _ _), fun x y hx hy e => ?_, fun x y hx hy e => ?_⟩
  · rw [stg_ne ⟨e, hx, hy⟩, stg_col, stg_row]
    have := c1 x y hx hy e
    omega
  · rw [stg_ne ⟨e, hx, hy⟩, stg_col, stg_row]
    have := c2 x y hx hy e
    omega
theorem mm_ok {xy xk ky xh hy kh hk nxy nxk nky : Int} (b1 : xy ≤ max nxy (min xh hy)) (b2 : xk ≤ max nxk (min xh hk)) (b3 : ky ≤ max nky (min kh hy)) (b4 : nxk ≤ xk) (b5 : nky ≤ ky) :
    max xy (min xk ky) ≤ max (max nxy (min nxk nky)) (min (max xh (min xk kh)) (max hy (min hk ky))) := by
  have c1 : xy ≤ nxy ∨ (xy ≤ xh ∧ xy ≤ hy) := by omega
  have c2 : xk ≤ nxk ∨ (xk ≤ xh ∧ xk ≤ hk) := by omega
  have c3 : ky ≤ nky ∨ (ky ≤ kh ∧ ky ≤ hy) := by omega
  refine Int.max_le.mpr ⟨?_, ?_⟩
  · rcases c1 with c | ⟨c, d⟩
    · exact Int.le_trans c (Int.le_trans (Int.le_max_left _ _) (Int.le_max_left _ _))
    · exact Int.le_trans (Int.le_min.mpr ⟨Int.le_trans c (Int.le_max_left _ _), Int.le_trans d (Int.le_max_left _ _)⟩) (Int.le_max_right _ _)
  · generalize hm : min xk ky = m
    have m1 : m ≤ xk := by omega
    have m2 : m ≤ ky := by omega
    clear hm b1 b2 b3 b4 b5
    rcases c2 with c | ⟨c, d⟩
    · rcases c3 with c' | ⟨c', d'⟩
      · exact Int.le_trans (Int.le_min.mpr ⟨Int.le_trans m1 c, Int.le_trans m2 c'⟩) (Int.le_trans (Int.le_max_right _ _) (Int.le_max_left _ _))
      · exact Int.le_trans (Int.le_min.mpr ⟨Int.le_trans (Int.le_min.mpr ⟨m1, Int.le_trans m2 c'⟩) (Int.le_max_right _ _), Int.le_trans (Int.le_trans m2 d') (Int.le_max_left _ _)⟩) (Int.le_max_right _ _)
    · have q1 : m ≤ max xh (min xk kh) := Int.le_trans (Int.le_trans m1 c) (Int.le_max_left _ _)
      rcases c3 with c' | ⟨c', d'⟩
      · exact Int.le_trans (Int.le_min.mpr ⟨q1, Int.le_trans (Int.le_min.mpr ⟨Int.le_trans m1 d, m2⟩) (Int.le_max_right _ _)⟩) (Int.le_max_right _ _)
      · exact Int.le_trans (Int.le_min.mpr ⟨q1, Int.le_trans (Int.le_trans m2 d') (Int.le_max_left _ _)⟩) (Int.le_max_right _ _)
theorem rsd_oth {h k : Nat} {N M M' : Mat} (hk : k ≠ h) (r : Rsd h N M M') : Rsd h (stg k N) (stg k M) (stg k M') := by
  obtain ⟨a1, a2, n1, n2, c1, c2⟩ := r
  refine ⟨fun y hy => ?_, fun y hy => ?_, fun x y hx hy => ?_, fun x y hx hy => ?_, fun x y hx hy e => ?_, fun x y hx hy e => ?_⟩
  · by_cases ey : y = k
    · subst ey
      rw [stg_col, stg_col]; exact a1 y hy
    · rw [stg_ne ⟨fun q => hy q.symm, fun q => hk q.symm, ey⟩, stg_ne ⟨fun q => hy q.symm, fun q => hk q.symm, ey⟩]
      have e1 := a1 y hy
      have e2 := a1 k hk
      have e3 := c1 k y hk hy (fun q => ey q.symm)
      have e4 := n2 k y hk hy
      omega
  · by_cases ey : y = k
    · subst ey
      rw [stg_row, stg_row]; exact a2 y hy
    · rw [stg_ne ⟨hy, ey, fun q => hk q.symm⟩, stg_ne ⟨hy, ey, fun q => hk q.symm⟩]
      have e1 := a2 y hy
      have e2 := a2 k hk
      have e3 := c2 y k hy hk ey
      have e4 := n1 y k hy hk
      omega
  · unfold stg
    have := n1 x y hx hy
    have := n1 x k hx hk
    have := n1 k y hk hy
    split <;> omega
  · unfold stg
    have := n2 x y hx hy
    have := n2 x k hx hk
    have := n2 k y hk hy
    split <;> omega
  · by_cases ex : x = k
    · subst ex
      rw [stg_row, stg_row, stg_row]
      have u := stg_ge x M h y
      have := c1 x y hx hy e
      omega
    · by_cases ey : y = k
      · subst ey
        rw [stg_col, stg_col, stg_col]
        have u := stg_ge y M x h
        have := c1 x y hx hy e
        omega
      · rw [stg_ne ⟨e, ex, ey⟩, stg_ne ⟨e, ex, ey⟩, stg_ne ⟨hx, ex, fun q => hk q.symm⟩, stg_ne ⟨fun q => hy q.symm, fun q => hk q.symm, ey⟩]
        exact mm_ok (c1 x y hx hy e) (c1 x k hx hk ex) (c1 k y hk hy (fun q => ey q.symm)) (n1 x k hx hk) (n1 k y hk hy)
  · by_cases ex : x = k
    · subst ex
      rw [stg_row, stg_row, stg_row]
      have u := stg_ge x M' h y
      have := c2 x y hx hy e
      omega
    · by_cases ey : y = k
      · subst ey
        rw [stg_col, stg_col, stg_col]
        have u := stg_ge y M' x h
        have := c2 x y hx hy e
        omega
      · rw [stg_ne ⟨e, ex, ey⟩, stg_ne ⟨e, ex, ey⟩, stg_ne ⟨hx, ex, fun q => hk q.symm⟩, stg_ne ⟨fun q => hy q.symm, fun q => hk q.symm, ey⟩]
        exact mm_ok (c2 x y hx hy e) (c2 x k hx hk ex) (c2 k y hk hy (fun q => ey q.symm)) (n2 x k hx hk) (n2 k y hk hy)
theorem rsd_fw {h : Nat} {L L' : Mat} (h1 : ∀ y, y ≠ h → L h y ≤ L' h y) (h2 : ∀ y, y ≠ h → L' y h ≤ L y h) (h3 : ∀ x y, x ≠ h → y ≠ h → L' x y = L x y) : ∀ k, ∃ N, Rsd h N (fw k L) (fw k L')
  | 0 => ⟨L, h1, h2, fun _ _ _ _ => Int.le_refl _, fun x y hx hy => by show L x y ≤ L' x y; rw [h3 x y hx hy]; exact Int.le_refl _, fun x y _ _ _ => by show L x y ≤ _; omega,
      fun x y hx hy _ => by show L' x y ≤ _; rw [h3 x y hx hy]; omega⟩
  | k + 1 => by
    obtain ⟨N, r⟩ := rsd_fw h1 h2 h3 k
    by_cases e : k = h
    · subst e
      exact ⟨N, rsd_own r⟩
    · exact ⟨_, rsd_oth e r⟩
/-- an unbeaten hand that is put farther ahead stays unbeaten -/
theorem raise_ok {n h : Nat} {L L' : Mat} (h1 : ∀ y, y ≠ h → L h y ≤ L' h y) (h2 : ∀ y, y ≠ h → L' y h ≤ L y h) (h3 : ∀ x y, x ≠ h → y ≠ h → L' x y = L x y) {y : Nat} (e : stren n L y h ≤ stren n L h y) :
    stren n L' y h ≤ stren n L' h y := by
  by_cases q : y = h
  · subst q
    exact Int.le_refl _
  · obtain ⟨N, r⟩ := rsd_fw h1 h2 h3 n
    have b1 := r.a1 y q
    have b2 := r.a2 y q
    unfold stren at e ⊢
    rw [if_neg q, if_neg fun z => q z.symm] at e ⊢
    omega

/-! ### beating, picks -/
def unb (S : Mat) (l : List Nat) : List Nat := l.filter fun x => l.all fun y => decide (S y x ≤ S x y)
theorem mem_unb {S : Mat} {l : List Nat} {x : Nat} : x ∈ unb S l ↔ x ∈ l ∧ ∀ y ∈ l, S y x ≤ S x y := by
  unfold unb
  rw [List.mem_filter, List.all_eq_true]
  simp
theorem beat_trans {n : Nat} {L : Mat} {x y z : Nat} (hx : x < n) (hy : y < n) (hz : z < n) (a : stren n L y x < stren n L x y) (b : stren n L z y < stren n L y z) : stren n L z x < stren n L x z := by
  have e1 : x ≠ y := fun q => by subst q; exact absurd a (Int.lt_irrefl _)
  have e2 : y ≠ z := fun q => by subst q; exact absurd b (Int.lt_irrefl _)
  have e3 : x ≠ z := fun q => by subst q; omega
  have T := tri_fw L n
  unfold stren at a b ⊢
  rw [if_neg e1, if_neg e1.symm] at a
  rw [if_neg e2, if_neg e2.symm] at b
  rw [if_neg e3, if_neg e3.symm]
  have t1 := T x y z hy e1 e2 e3
  have t2 := T z y x hy e2.symm e1.symm e3.symm
  have t3 := T x z y hz e3 e2.symm e1
  have t4 := T y z x hz e2 e3.symm e1.symm
  have t5 := T y x z hx e1.symm e3 e2
  have t6 := T z x y hx e3.symm e1 e2.symm
  omega
theorem top_of {R : Nat → Nat → Prop} (hi : ∀ x, ¬ R x x) : ∀ (l : List Nat), (∀ x ∈ l, ∀ y ∈ l, ∀ z ∈ l, R x y → R y z → R x z) → l ≠ [] → ∃ x ∈ l, ∀ y ∈ l, ¬ R y x
  | [], _, h => absurd rfl h
  | [a], _, _ => ⟨a, List.mem_cons_self, fun y hy => by rw [List.mem_singleton.mp hy]; exact hi a⟩
  | a :: b :: r, ht, _ => by
    obtain ⟨x, hx, hu⟩ := top_of hi (b :: r) (fun x hx y hy z hz => ht x (List.mem_cons_of_mem _ hx) y (List.mem_cons_of_mem _ hy) z (List.mem_cons_of_mem _ hz)) (by simp)
    by_cases e : R a x
    · refine ⟨a, List.mem_cons_self, fun y hy q => ?_⟩
      rcases List.mem_cons.mp hy with rfl | hy
      · exact hi _ q
      · exact hu y hy (ht y (List.mem_cons_of_mem _ hy) a List.mem_cons_self x (List.mem_cons_of_mem _ hx) q e)
    · refine ⟨x, List.mem_cons_of_mem _ hx, fun y hy => ?_⟩
      rcases List.mem_cons.mp hy with rfl | hy
      · exact e
      · exact hu y hy
theorem unb_some {n : Nat} {L : Mat} {l : List Nat} (hl : ∀ x ∈ l, x < n) (h : l ≠ []) : unb (stren n L) l ≠ [] := by
  obtain ⟨x, hx, hu⟩ := top_of (R := fun y x => stren n L x y < stren n L y x) (fun x => Int.lt_irrefl _) l (fun x hx y hy z hz a b => beat_trans (hl x hx) (hl y hy) (hl z hz) a b) h
  have hm : x ∈ unb (stren n L) l := mem_unb.mpr ⟨hx, fun y hy => by have := hu y hy; omega⟩
  intro e
  rw [e] at hm
  cases hm
/-- what is left behind i picks; the i-th pick -/
def lf (S : Mat) (lots : List Nat) : Nat → List Nat
  | 0 => lots
  | i + 1 => (lf S lots i).erase ((unb S (lf S lots i)).headD 0)
def pick (S : Mat) (lots : List Nat) (i : Nat) : Nat := (unb S (lf S lots i)).headD 0
def picks (S : Mat) (lots : List Nat) (k : Nat) : List Nat := (List.range k).map (pick S lots)
theorem picks_len (S : Mat) (lots : List Nat) (k : Nat) : (picks S lots k).length = k := by unfold picks; rw [List.length_map, List.length_range]
theorem picks_succ (S : Mat) (lots : List Nat) (k : Nat) : picks S lots (k + 1) = picks S lots k ++ [pick S lots k] := by
  unfold picks; rw [List.range_succ, List.map_append]; rfl
theorem picks_take (S : Mat) (lots : List Nat) {j k : Nat} (h : j ≤ k) : (picks S lots k).take j = picks S lots j := by
  unfold picks; rw [← List.map_take, List.take_range, Nat.min_eq_left h]
section
variable {n : Nat} {L : Mat} {lots : List Nat}
theorem lf_sub (S : Mat) (lots : List Nat) : ∀ i x, x ∈ lf S lots i → x ∈ lots
  | 0, _, h => h
  | i + 1, x, h => lf_sub S lots i x (List.mem_of_mem_erase h)
theorem pick_mem (hl : ∀ x ∈ lots, x < n) {i : Nat} (h : lf (stren n L) lots i ≠ []) : pick (stren n L) lots i ∈ unb (stren n L) (lf (stren n L) lots i) := by
  have e := unb_some (L := L) (fun x hx => hl x (lf_sub _ _ i x hx)) h
  unfold pick
  cases q : unb (stren n L) (lf (stren n L) lots i) with
  | nil => exact absurd q e
  | cons a r => exact List.mem_cons_self
theorem pick_in (hl : ∀ x ∈ lots, x < n) {i : Nat} (h : lf (stren n L) lots i ≠ []) : pick (stren n L) lots i ∈ lf (stren n L) lots i := (mem_unb.mp (pick_mem hl h)).1
theorem lf_len (hl : ∀ x ∈ lots, x < n) : ∀ i, i ≤ lots.length → (lf (stren n L) lots i).length = lots.length - i
  | 0, _ => rfl
  | i + 1, h => by
    have ih := lf_len hl i (by omega)
    have ne : lf (stren n L) lots i ≠ [] := fun e => by rw [e] at ih; simp at ih; omega
    show ((lf (stren n L) lots i).erase (pick (stren n L) lots i)).length = _
    rw [List.length_erase_of_mem (pick_in hl ne), ih]
    omega
theorem lf_ne (hl : ∀ x ∈ lots, x < n) {i : Nat} (h : i < lots.length) : lf (stren n L) lots i ≠ [] := fun e => by
  have ih := lf_len (L := L) hl i (by omega)
  rw [e] at ih
  simp at ih
  omega
theorem lf_perm (hl : ∀ x ∈ lots, x < n) : ∀ i, i ≤ lots.length → lots.Perm (picks (stren n L) lots i ++ lf (stren n L) lots i)
  | 0, _ => List.Perm.refl _
  | i + 1, h => by
    have ih := lf_perm hl i (by omega)
    have q := List.perm_cons_erase (pick_in (L := L) hl (lf_ne hl (show i < lots.length by omega)))
    rw [picks_succ, List.append_assoc]
    exact ih.trans (List.Perm.append_left _ q)
theorem picks_perm (hl : ∀ x ∈ lots, x < n) : (picks (stren n L) lots lots.length).Perm lots := by
  have a := lf_perm (L := L) hl lots.length (Nat.le_refl _)
  have b := lf_len (L := L) hl lots.length (Nat.le_refl _)
  have c : lf (stren n L) lots lots.length = [] := List.eq_nil_of_length_eq_zero (by rw [b]; omega)
  rw [c, List.append_nil] at a
  exact a.symm
/-- a set that leads over all outside is picked first: I the set's test, m how many -/
theorem first_in (hl : ∀ x ∈ lots, x < n) (I : Nat → Bool) (hI : ∀ x y, x < n → y < n → I x = true → I y = false → 0 < L x y) (an : ∀ x y, L x y = - L y x) (i : Nat) (hi : i < (lots.filter I).length) : I (pick (stren n L) lots i) = true := by
  have hle : (lots.filter I).length ≤ lots.length := List.length_filter_le _ _
  have hlt : i < lots.length := by omega
  have ne := lf_ne (L := L) hl hlt
  have pm := (lf_perm (L := L) hl i (by omega)).filter I
  have pl := pm.length_eq
  rw [List.filter_append, List.length_append] at pl
  have p2 : ((picks (stren n L) lots i).filter I).length ≤ i := by
    have := List.length_filter_le I (picks (stren n L) lots i)
    rw [picks_len] at this
    exact this
  have p3 : (lf (stren n L) lots i).filter I ≠ [] := fun e => by rw [e] at pl; simp at pl; omega
  obtain ⟨x, hx⟩ := List.exists_mem_of_ne_nil _ p3
  obtain ⟨hx1, hx2⟩ := List.mem_filter.mp hx
  obtain ⟨hy1, hy2⟩ := mem_unb.mp (pick_mem (L := L) hl ne)
  cases hI2 : I (pick (stren n L) lots i) with
  | true => rfl
  | false =>
    have b := hy2 x hx1
    have lx := hl x (lf_sub _ _ i x hx1)
    have ly := hl _ (lf_sub _ _ i _ hy1)
    generalize pick (stren n L) lots i = y at *
    have exy : x ≠ y := fun q => by rw [q, hI2] at hx2; cases hx2
    have c := cut_fw (L := fun a b => if a < n ∧ b < n then L a b else -1) I (fun y x h1 h2 => by
      show (if y < n ∧ x < n then L y x else -1) < 0
      split
      · rename_i w
        have := hI x y w.2 w.1 h2 h1
        have := an y x
        omega
      · omega) n y x hI2 hx2
    rw [fw_congr (L' := L) (fun i j a b => if_pos ⟨a, b⟩) n (Nat.le_refl n) y x ly lx] at c
    have d := fw_ge L x y n
    have e := hI x y lx ly hx2 hI2
    unfold stren at b
    rw [if_neg exy, if_neg exy.symm] at b
    omega
end
/-- of no ballots the lots pick -/
theorem unb_zero {S : Mat} (h : ∀ i j, S i j = 0) (l : List Nat) : unb S l = l := by
  unfold unb
  rw [List.filter_eq_self]
  intro x _
  simp [h]
theorem lf_zero {S : Mat} (h : ∀ i j, S i j = 0) (lots : List Nat) : ∀ i, lf S lots i = lots.drop i
  | 0 => rfl
  | i + 1 => by
    show (lf S lots i).erase ((unb S (lf S lots i)).headD 0) = _
    rw [unb_zero h, lf_zero h lots i]
    cases e : lots.drop i with
    | nil =>
      have : lots.drop (i + 1) = (lots.drop i).drop 1 := by rw [List.drop_drop]
      rw [this, e]; rfl
    | cons a r =>
      have : lots.drop (i + 1) = (lots.drop i).drop 1 := by rw [List.drop_drop]
      rw [this, e]
      simp
theorem picks_zero {S : Mat} (h : ∀ i j, S i j = 0) (lots : List Nat) : picks S lots lots.length = lots := by
  refine List.ext_getElem? fun i => ?_
  unfold picks
  by_cases hi : i < lots.length
  · rw [List.getElem?_map, List.getElem?_range hi, Option.map_some]
    unfold pick
    rw [unb_zero h, lf_zero h, List.headD_eq_head?_getD, List.head?_drop, List.getElem?_eq_getElem hi]
    rfl
  · rw [List.getElem?_eq_none (by rw [List.length_map, List.length_range]; omega), List.getElem?_eq_none (by omega)]
theorem fw_zero {L : Mat} (h : ∀ i j, L i j = 0) : ∀ k i j, fw k L i j = 0
  | 0, i, j => h i j
  | k + 1, i, j => by
    have ih := fw_zero h k
    show stg k (fw k L) i j = 0
    unfold stg
    rw [ih, ih, ih]
    split <;> rfl
theorem stren_zero {n : Nat} {L : Mat} (h : ∀ i j, L i j = 0) (i j : Nat) : stren n L i j = 0 := by
  unfold stren
  rw [fw_zero h]
  split <;> rfl
end Wp
end
section
set_option Elab.async false
set_option maxRecDepth 100000
set_option linter.all false
namespace Wp
/-! ### slips -/
def rkR : List Nat → Nat → Nat
  | [], _ => 0
  | t :: r, h => if t.testBit h = true then r.length + 1 else rkR r h
/-- a hand's rank: 1 for the first tier, 0 unranked -/
def rk (s : List Nat) (h : Nat) : Nat := rkR s.reverse h
theorem rk_snoc (l : List Nat) (t h : Nat) : rk (l ++ [t]) h = if t.testBit h = true then l.length + 1 else rk l h := by
  unfold rk
  rw [List.reverse_append]
  show (if t.testBit h = true then l.reverse.length + 1 else _) = _
  rw [List.length_reverse]
  rfl
def place (n : Nat) (s : List Nat) (h : Nat) : Nat := if rk s h = 0 then n + 1 else rk s h
structure SlipOk (n : Nat) (s : List Nat) : Prop where
  pos : ∀ t ∈ s, 0 < t
  lt : ∀ t ∈ s, t < 2 ^ n
  dis : s.Pairwise fun a b => a &&& b = 0
theorem bit_dis {a b : Nat} (h : a &&& b = 0) {i : Nat} (ha : a.testBit i = true) : b.testBit i = false := by
  have e : (a &&& b).testBit i = false := by rw [h]; exact Nat.zero_testBit i
  rw [Nat.testBit_and, ha] at e
  simpa using e
theorem dis_bit {a b : Nat} (h : ∀ i, a.testBit i = true → b.testBit i = false) : a &&& b = 0 := by
  refine Nat.eq_of_testBit_eq fun i => ?_
  rw [Nat.testBit_and, Nat.zero_testBit]
  cases e : a.testBit i with
  | true => rw [h i e]; rfl
  | false => rfl
theorem dis_comm {a b : Nat} (h : a &&& b = 0) : b &&& a = 0 := by rw [Nat.and_comm]; exact h
/-- x ahead of y -/
def ltS : List Nat → Nat → Nat → Bool
  | [], _, _ => false
  | t :: r, x, y => if t.testBit x = true then !t.testBit y else if t.testBit y = true then false else ltS r x y
theorem ltS_app (x y : Nat) : ∀ a b : List Nat, ltS (a ++ b) x y = if (a.any fun t => t.testBit x || t.testBit y) = true then ltS a x y else ltS b x y
  | [], b => rfl
  | t :: a, b => by
    rw [List.cons_append, List.any_cons]
    show (if t.testBit x = true then !t.testBit y else if t.testBit y = true then false else ltS (a ++ b) x y) = if _ = true then (if t.testBit x = true then !t.testBit y else if t.testBit y = true then false else ltS a x y) else ltS b x y
    rw [ltS_app x y a b]
    cases t.testBit x <;> cases t.testBit y <;> simp
theorem rkR_le (h : Nat) : ∀ r : List Nat, rkR r h ≤ r.length
  | [] => Nat.le_refl _
  | t :: r => by
    unfold rkR
    have := rkR_le h r
    split <;> simp <;> omega
theorem rkR_zero (h : Nat) : ∀ r : List Nat, rkR r h = 0 ↔ ∀ t ∈ r, t.testBit h = false
  | [] => by simp [rkR]
  | t :: r => by
    unfold rkR
    have := rkR_zero h r
    cases e : t.testBit h with
    | true => simp [e]
    | false => simp [e, this]
theorem lt_rk (x y : Nat) : ∀ r : List Nat, r.Pairwise (fun a b => a &&& b = 0) → (ltS r.reverse x y = true ↔ rkR r x ≠ 0 ∧ (rkR r y = 0 ∨ rkR r x < rkR r y))
  | [], _ => by simp [ltS, rkR]
  | t :: r, hd => by
    obtain ⟨h1, h2⟩ := List.pairwise_cons.mp hd
    have ih := lt_rk x y r h2
    have lx := rkR_le x r
    have ly := rkR_le y r
    have zx := rkR_zero x r
    have zy := rkR_zero y r
    rw [List.reverse_cons, ltS_app]
    have fx : t.testBit x = true → rkR r x = 0 := fun e => zx.mpr fun u hu => bit_dis (h1 u hu) e
    have fy : t.testBit y = true → rkR r y = 0 := fun e => zy.mpr fun u hu => bit_dis (h1 u hu) e
    have anyB : (r.reverse.any fun t => t.testBit x || t.testBit y) = true ↔ (rkR r x ≠ 0 ∨ rkR r y ≠ 0) := by
      rw [List.any_eq_true]
      constructor
      · rintro ⟨u, hu, e⟩
        have hu := List.mem_reverse.mp hu
        rcases Bool.or_eq_true_iff.mp e with e | e
        · exact .inl fun z => by rw [zx.mp z u hu] at e; cases e
        · exact .inr fun z => by rw [zy.mp z u hu] at e; cases e
      · intro e
        refine Classical.byContradiction fun no => ?_
        have a1 : ∀ u ∈ r, u.testBit x = false ∧ u.testBit y = false := fun u hu => by
          have z : ¬ ((u.testBit x || u.testBit y) = true) := fun q => no ⟨u, List.mem_reverse.mpr hu, q⟩
          revert z
          cases u.testBit x <;> cases u.testBit y <;> simp
        rcases e with e | e
        · exact e (zx.mpr fun u hu => (a1 u hu).1)
        · exact e (zy.mpr fun u hu => (a1 u hu).2)
    unfold rkR
    generalize rkR r x = X at *
    generalize rkR r y = Y at *
    by_cases c : (r.reverse.any fun t => t.testBit x || t.testBit y) = true
    · rw [if_pos c, ih]
      have c' := anyB.mp c
      cases ex : t.testBit x with
      | true =>
        have := fx ex
        cases ey : t.testBit y with
        | true => have := fy ey; simp; omega
        | false => simp; omega
      | false =>
        cases ey : t.testBit y with
        | true => have := fy ey; simp; omega
        | false => simp
    · rw [if_neg c]
      have c' : ¬ (X ≠ 0 ∨ Y ≠ 0) := fun z => c (anyB.mpr z)
      unfold ltS ltS
      cases ex : t.testBit x <;> cases ey : t.testBit y <;> simp <;> omega
/-! masks below 32 -/
def pc (m : Nat) : Nat := ((List.range 5).filter m.testBit).length
theorem pc_add : ∀ a, a < 32 → ∀ b, b < 32 → a &&& b = 0 → a + b < 32 ∧ pc (a + b) = pc a + pc b ∧ ∀ h, h < 5 → (a + b).testBit h = (a.testBit h || b.testBit h) := by decide +kernel
theorem pc_pos : ∀ a, a < 32 → 0 < a → 0 < pc a := by decide +kernel
theorem pc_le : ∀ n, n ≤ 5 → ∀ a, a < 32 → a < 2 ^ n → pc a ≤ n := by decide +kernel
theorem pow32 {n : Nat} (h : n ≤ 5) : 2 ^ n ≤ 32 := Nat.pow_le_pow_right (by decide) h
theorem big_bit {m i n : Nat} (h : m < 2 ^ n) (hi : n ≤ i) : m.testBit i = false := Nat.testBit_lt_two_pow (Nat.lt_of_lt_of_le h (Nat.pow_le_pow_right (by decide) hi))
theorem lt_of_bits {m n : Nat} (h : ∀ i, n ≤ i → m.testBit i = false) : m < 2 ^ n := Nat.lt_pow_two_of_testBit m h
section
variable {n : Nat} {s : List Nat}
theorem sum_ok (hn : n ≤ 5) : ∀ {s : List Nat}, SlipOk n s → s.sum < 32 ∧ s.length ≤ pc s.sum ∧ ∀ h, s.sum.testBit h = s.any fun t => t.testBit h
  | [], _ => ⟨by decide, by decide, fun h => by simp⟩
  | t :: r, ok => by
    have okr : SlipOk n r := ⟨fun u hu => ok.pos u (List.mem_cons_of_mem _ hu), fun u hu => ok.lt u (List.mem_cons_of_mem _ hu), (List.pairwise_cons.mp ok.dis).2⟩
    obtain ⟨i1, i2, i3⟩ := sum_ok hn okr
    have ht : t < 32 := Nat.lt_of_lt_of_le (ok.lt t List.mem_cons_self) (pow32 hn)
    have d : t &&& r.sum = 0 := dis_bit fun i e => by
      rw [i3, List.any_eq_false]
      intro u hu
      rw [bit_dis ((List.pairwise_cons.mp ok.dis).1 u hu) e]
      exact Bool.false_ne_true
    obtain ⟨a1, a2, a3⟩ := pc_add t ht r.sum i1 d
    have hp := pc_pos t ht (ok.pos t List.mem_cons_self)
    rw [List.sum_cons]
    refine ⟨a1, by rw [a2, List.length_cons]; omega, fun h => ?_⟩
    rw [List.any_cons, ← i3 h]
    by_cases hh : h < 5
    · exact a3 h hh
    · rw [big_bit (n := 5) a1 (by omega), big_bit (n := 5) ht (by omega), big_bit (n := 5) i1 (by omega)]; rfl
theorem sum_lt (hn : n ≤ 5) (ok : SlipOk n s) : s.sum < 2 ^ n := lt_of_bits fun i hi => by
  rw [(sum_ok hn ok).2.2 i, List.any_eq_false]
  intro t ht
  rw [big_bit (ok.lt t ht) hi]
  exact Bool.false_ne_true
theorem slip_len (hn : n ≤ 5) (ok : SlipOk n s) : s.length ≤ n := by
  obtain ⟨a, b, _⟩ := sum_ok hn ok
  exact Nat.le_trans b (pc_le n hn _ a (sum_lt hn ok))
theorem place_lt (hn : n ≤ 5) (ok : SlipOk n s) (x y : Nat) : place n s x < place n s y ↔ ltS s x y = true := by
  have d : s.reverse.Pairwise (fun a b => a &&& b = 0) := List.pairwise_reverse.mpr (ok.dis.imp fun h => dis_comm h)
  have e := lt_rk x y s.reverse d
  rw [List.reverse_reverse] at e
  have l := slip_len hn ok
  have lx := rkR_le x s.reverse
  have ly := rkR_le y s.reverse
  rw [List.length_reverse] at lx ly
  rw [e]
  unfold place rk
  split <;> split <;> omega
/-! zero tiers -/
theorem ltS_pos (x y : Nat) : ∀ l : List Nat, ltS (l.filter fun t => decide (0 < t)) x y = ltS l x y
  | [] => rfl
  | t :: r => by
    rw [List.filter_cons]
    have ih := ltS_pos x y r
    by_cases h : 0 < t
    · rw [if_pos (decide_eq_true h)]
      unfold ltS
      rw [ih]
    · rw [if_neg (by simpa using h), ih]
      have : t = 0 := by omega
      subst this
      simp [ltS]
/-! a ballot turned round -/
def turned (n : Nat) (s : List Nat) : List Nat := ((2 ^ n - 1 - s.sum) :: s.reverse).filter fun t => decide (0 < t)
theorem rest_bit (hn : n ≤ 5) (ok : SlipOk n s) (h : Nat) : (2 ^ n - 1 - s.sum).testBit h = (decide (h < n) && !(s.any fun t => t.testBit h)) := by
  have l := sum_lt hn ok
  rw [show 2 ^ n - 1 - s.sum = 2 ^ n - (s.sum + 1) by omega, Nat.testBit_two_pow_sub_succ l, (sum_ok hn ok).2.2]
theorem ltS_none {x y : Nat} : ∀ {l : List Nat}, (∀ t ∈ l, t.testBit x = false) → ltS l x y = false
  | [], _ => rfl
  | t :: r, h => by
    unfold ltS
    rw [h t List.mem_cons_self, ltS_none fun u hu => h u (List.mem_cons_of_mem _ hu)]
    simp
theorem ltS_only {x y : Nat} : ∀ {l : List Nat}, (∀ t ∈ l, t.testBit y = false) → (∃ t ∈ l, t.testBit x = true) → ltS l x y = true
  | [], _, ⟨_, h, _⟩ => by cases h
  | t :: r, h, ⟨u, hu, e⟩ => by
    unfold ltS
    rw [h t List.mem_cons_self]
    cases ex : t.testBit x with
    | true => simp
    | false =>
      simp only [Bool.false_eq_true, if_false]
      refine ltS_only (fun v hv => h v (List.mem_cons_of_mem _ hv)) ?_
      rcases List.mem_cons.mp hu with rfl | hu
      · rw [ex] at e; cases e
      · exact ⟨u, hu, e⟩
theorem ltS_rev {x y : Nat} : ∀ {s : List Nat}, s.Pairwise (fun a b => a &&& b = 0) → (∃ t ∈ s, t.testBit x = true) → (∃ t ∈ s, t.testBit y = true) → ltS s.reverse x y = ltS s y x
  | [], _, ⟨_, h, _⟩, _ => by cases h
  | t :: r, hd, hx, hy => by
    obtain ⟨h1, h2⟩ := List.pairwise_cons.mp hd
    rw [List.reverse_cons, ltS_app]
    have nx : t.testBit x = true → ∀ u ∈ r, u.testBit x = false := fun e u hu => bit_dis (h1 u hu) e
    have ny : t.testBit y = true → ∀ u ∈ r, u.testBit y = false := fun e u hu => bit_dis (h1 u hu) e
    have gx : t.testBit x = false → ∃ u ∈ r, u.testBit x = true := fun e => by
      obtain ⟨u, hu, q⟩ := hx
      rcases List.mem_cons.mp hu with rfl | hu
      · rw [e] at q; cases q
      · exact ⟨u, hu, q⟩
    have gy : t.testBit y = false → ∃ u ∈ r, u.testBit y = true := fun e => by
      obtain ⟨u, hu, q⟩ := hy
      rcases List.mem_cons.mp hu with rfl | hu
      · rw [e] at q; cases q
      · exact ⟨u, hu, q⟩
    have someX : (∃ u ∈ r, u.testBit x = true) → (r.reverse.any fun t => t.testBit x || t.testBit y) = true := fun ⟨u, hu, e⟩ => List.any_eq_true.mpr ⟨u, List.mem_reverse.mpr hu, by rw [e]; rfl⟩
    have someY : (∃ u ∈ r, u.testBit y = true) → (r.reverse.any fun t => t.testBit x || t.testBit y) = true := fun ⟨u, hu, e⟩ => List.any_eq_true.mpr ⟨u, List.mem_reverse.mpr hu, by rw [e, Bool.or_true]⟩
    cases ex : t.testBit x with
    | true =>
      cases ey : t.testBit y with
      | true =>
        have no : ¬ (r.reverse.any fun t => t.testBit x || t.testBit y) = true := fun q => by
          obtain ⟨u, hu, e⟩ := List.any_eq_true.mp q
          have hu := List.mem_reverse.mp hu
          rw [nx ex u hu, ny ey u hu] at e
          cases e
        rw [if_neg no]
        unfold ltS
        rw [ex, ey]
        simp
      | false =>
        rw [if_pos (someY (gy ey)), ltS_none fun u hu => nx ex u (List.mem_reverse.mp hu)]
        unfold ltS
        rw [ey, ex]
        simp
    | false =>
      cases ey : t.testBit y with
      | true =>
        obtain ⟨u, hu, e⟩ := gx ex
        rw [if_pos (someX (gx ex)), ltS_only (fun u hu => ny ey u (List.mem_reverse.mp hu)) ⟨u, List.mem_reverse.mpr hu, e⟩]
        unfold ltS
        rw [ey, ex]
        simp
      | false =>
        rw [if_pos (someX (gx ex)), ltS_rev h2 (gx ex) (gy ey)]
        conv => rhs; unfold ltS
        rw [ey, ex]
        simp
theorem turned_lt (hn : n ≤ 5) (ok : SlipOk n s) {x y : Nat} (hx : x < n) (hy : y < n) : ltS (turned n s) x y = ltS s y x := by
  unfold turned
  rw [ltS_pos]
  conv => lhs; unfold ltS
  rw [rest_bit hn ok, rest_bit hn ok, decide_eq_true hx, decide_eq_true hy]
  cases ax : s.any fun t => t.testBit x with
  | false =>
    have zx : ∀ t ∈ s, t.testBit x = false := fun t ht => by simpa using List.any_eq_false.mp ax t ht
    cases ay : s.any fun t => t.testBit y with
    | false =>
      have zy : ∀ t ∈ s, t.testBit y = false := fun t ht => by simpa using List.any_eq_false.mp ay t ht
      rw [ltS_none zy]; simp
    | true =>
      obtain ⟨u, hu, e⟩ := List.any_eq_true.mp ay
      rw [ltS_only zx ⟨u, hu, e⟩]; simp
  | true =>
    cases ay : s.any fun t => t.testBit y with
    | false =>
      have zy : ∀ t ∈ s, t.testBit y = false := fun t ht => by simpa using List.any_eq_false.mp ay t ht
      rw [ltS_none zy]; simp
    | true =>
      obtain ⟨u, hu, e⟩ := List.any_eq_true.mp ax
      obtain ⟨v, hv, e'⟩ := List.any_eq_true.mp ay
      rw [ltS_rev ok.dis ⟨u, hu, e⟩ ⟨v, hv, e'⟩]; simp
theorem turned_ok (hn : n ≤ 5) (ok : SlipOk n s) : SlipOk n (turned n s) := by
  have hp := Nat.two_pow_pos n
  refine ⟨fun t ht => by simpa using (List.mem_filter.mp ht).2, fun t ht => ?_, ?_⟩
  · rcases List.mem_cons.mp (List.mem_filter.mp ht).1 with rfl | h
    · omega
    · exact ok.lt t (List.mem_reverse.mp h)
  · refine List.Pairwise.filter _ (List.pairwise_cons.mpr ⟨fun u hu => ?_, List.pairwise_reverse.mpr (ok.dis.imp fun h => dis_comm h)⟩)
    refine dis_bit fun i e => ?_
    rw [rest_bit hn ok] at e
    have e2 : (s.any fun t => t.testBit i) = false := by
      revert e
      cases (s.any fun t => t.testBit i) <;> simp
    simpa using List.any_eq_false.mp e2 u (List.mem_reverse.mp hu)
theorem turned_place (hn : n ≤ 5) (ok : SlipOk n s) {x y : Nat} (hx : x < n) (hy : y < n) : place n (turned n s) x < place n (turned n s) y ↔ place n s y < place n s x := by
  rw [place_lt hn (turned_ok hn ok), place_lt hn ok, turned_lt hn ok hx hy]
/-! a hand put ahead -/
def clr (h t : Nat) : Nat := t - (t &&& 2 ^ h)
def ahead (h : Nat) (s : List Nat) : List Nat := (2 ^ h :: s.map (clr h)).filter fun t => decide (0 < t)
theorem clr_bit' : ∀ t, t < 32 → ∀ h, h < 5 → clr h t < 32 ∧ ∀ i, i < 5 → (clr h t).testBit i = (t.testBit i && !decide (i = h)) := by decide +kernel
theorem clr_bit {h t : Nat} (ht : t < 32) (hh : h < 5) (i : Nat) : (clr h t).testBit i = (t.testBit i && !decide (i = h)) := by
  obtain ⟨a, b⟩ := clr_bit' t ht h hh
  by_cases hi : i < 5
  · exact b i hi
  · rw [big_bit (n := 5) a (by omega), big_bit (n := 5) ht (by omega)]; rfl
theorem two_bit (h i : Nat) : (2 ^ h).testBit i = decide (h = i) := Nat.testBit_two_pow
theorem ahead_ok (hn : n ≤ 5) {h : Nat} (hh : h < n) (ok : SlipOk n s) : SlipOk n (ahead h s) := by
  have b5 : ∀ t ∈ s, t < 32 := fun t ht => Nat.lt_of_lt_of_le (ok.lt t ht) (pow32 hn)
  refine ⟨fun t ht => by simpa using (List.mem_filter.mp ht).2, fun t ht => ?_, ?_⟩
  · rcases List.mem_cons.mp (List.mem_filter.mp ht).1 with rfl | q
    · exact Nat.pow_lt_pow_right (by decide) hh
    · obtain ⟨u, hu, rfl⟩ := List.mem_map.mp q
      exact Nat.lt_of_le_of_lt (Nat.sub_le _ _) (ok.lt u hu)
  · refine List.Pairwise.filter _ (List.pairwise_cons.mpr ⟨fun u hu => ?_, List.pairwise_map.mpr (ok.dis.imp_of_mem fun {a b} ha hb q => ?_)⟩)
    · obtain ⟨v, hv, rfl⟩ := List.mem_map.mp hu
      refine dis_bit fun i e => ?_
      rw [two_bit] at e
      have : h = i := of_decide_eq_true e
      subst this
      rw [clr_bit (b5 v hv) (by omega)]
      simp
    · refine dis_bit fun i e => ?_
      rw [clr_bit (b5 a ha) (by omega)] at e
      rw [clr_bit (b5 b hb) (by omega), bit_dis q (by revert e; cases a.testBit i <;> simp)]
      rfl
theorem ahead_lt (hn : n ≤ 5) {h : Nat} (hh : h < n) (ok : SlipOk n s) {x y : Nat} (hx : x ≠ h) (hy : y ≠ h) : ltS (ahead h s) x y = ltS s x y := by
  have b5 : ∀ t ∈ s, t < 32 := fun t ht => Nat.lt_of_lt_of_le (ok.lt t ht) (pow32 hn)
  unfold ahead
  rw [ltS_pos]
  conv => lhs; unfold ltS
  rw [two_bit, two_bit, decide_eq_false (fun q => hx q.symm), decide_eq_false (fun q => hy q.symm)]
  simp only [Bool.false_eq_true, if_false]
  clear ok
  induction s with
  | nil => rfl
  | cons t r ih =>
    rw [List.map_cons]
    unfold ltS
    rw [clr_bit (b5 t List.mem_cons_self) (by omega), clr_bit (b5 t List.mem_cons_self) (by omega), decide_eq_false hx, decide_eq_false hy, ih fun u hu => b5 u (List.mem_cons_of_mem _ hu)]
    simp
theorem ahead_first (h : Nat) (s : List Nat) {y : Nat} (hy : y ≠ h) : ltS (ahead h s) h y = true ∧ ltS (ahead h s) y h = false := by
  unfold ahead
  rw [ltS_pos, ltS_pos]
  unfold ltS
  rw [two_bit, two_bit, decide_eq_true rfl, decide_eq_false (fun q => hy q.symm)]
  simp
end
/-! ### lines -/
abbrev Line := List Nat × Int
def wsum (g : List Nat → Int) (L : List Line) : Int := (L.map fun l => g l.1 * l.2).sum
theorem wsum_nil (g : List Nat → Int) : wsum g [] = 0 := rfl
theorem wsum_cons (g : List Nat → Int) (l : Line) (L : List Line) : wsum g (l :: L) = g l.1 * l.2 + wsum g L := by unfold wsum; rw [List.map_cons, List.sum_cons]
theorem wsum_app (g : List Nat → Int) (a b : List Line) : wsum g (a ++ b) = wsum g a + wsum g b := by unfold wsum; rw [List.map_append, List.sum_append]
theorem wsum_perm (g : List Nat → Int) {a b : List Line} (h : a.Perm b) : wsum g a = wsum g b := by
  induction h with
  | nil => rfl
  | cons x _ ih => rw [wsum_cons, wsum_cons, ih]
  | swap x y l => rw [wsum_cons, wsum_cons, wsum_cons, wsum_cons]; omega
  | trans _ _ h1 h2 => exact h1.trans h2
def gOv (n x y : Nat) (s : List Nat) : Int := if place n s x < place n s y then 1 else 0
def ov (n : Nat) (L : List Line) : Mat := fun x y => wsum (gOv n x y) L
def ld (M : Mat) : Mat := fun x y => M x y - M y x
theorem ld_anti (M : Mat) (x y : Nat) : ld M x y = - ld M y x := by unfold ld; omega
def LinesOk (n : Nat) (L : List Line) : Prop := ∀ l ∈ L, SlipOk n l.1 ∧ 0 ≤ l.2
/-- what putting lines together gives -/
structure Tog (L L' : List Line) : Prop where
  sum : ∀ g, wsum g L' = wsum g L
  ok : ∀ n, LinesOk n L → LinesOk n L'
  len : L'.length ≤ L.length
theorem Tog.ov {n : Nat} {L L' : List Line} (t : Tog L L') : ov n L' = ov n L := by
  funext x y
  exact t.sum _
theorem turned_ov {n : Nat} (hn : n ≤ 5) {x y : Nat} (hx : x < n) (hy : y < n) : ∀ {L : List Line}, LinesOk n L → wsum (gOv n x y) (L.map fun l => (turned n l.1, l.2)) = wsum (gOv n y x) L
  | [], _ => rfl
  | l :: L, ok => by
    rw [List.map_cons, wsum_cons, wsum_cons, turned_ov hn hx hy fun u hu => ok u (List.mem_cons_of_mem _ hu)]
    have e : gOv n x y (turned n l.1) = gOv n y x l.1 := by
      unfold gOv
      by_cases c : place n l.1 y < place n l.1 x
      · rw [if_pos c, if_pos ((turned_place hn (ok l List.mem_cons_self).1 hx hy).mpr c)]
      · rw [if_neg c, if_neg fun q => c ((turned_place hn (ok l List.mem_cons_self).1 hx hy).mp q)]
    rw [e]
theorem turned_lines {n : Nat} (hn : n ≤ 5) {L : List Line} (ok : LinesOk n L) : LinesOk n (L.map fun l => (turned n l.1, l.2)) := fun l hl => by
  obtain ⟨u, hu, rfl⟩ := List.mem_map.mp hl
  exact ⟨turned_ok hn (ok u hu).1, (ok u hu).2⟩
/-- each turned round: beaten by whom it beat -/
theorem turned_stren {n : Nat} (hn : n ≤ 5) {L L' : List Line} (ok : LinesOk n L) (t : Tog (L.map fun l => (turned n l.1, l.2)) L') {x y : Nat} (hx : x < n) (hy : y < n) :
    stren n (ld (ov n L')) x y = stren n (ld (ov n L)) y x := by
  refine stren_tr (fun i j hi hj => ?_) hx hy
  unfold ld
  rw [t.ov]
  unfold ov
  rw [turned_ov hn hi hj ok, turned_ov hn hj hi ok]
/-- some of the lines with the hand ahead -/
inductive Rz (h : Nat) : List Line → List Line → Prop
  | nil : Rz h [] []
  | same {l : Line} {a b : List Line} : Rz h a b → Rz h (l :: a) (l :: b)
  | put {l : Line} {a b : List Line} : Rz h a b → Rz h (l :: a) ((ahead h l.1, l.2) :: b)
theorem Rz.snocS {h : Nat} {a b : List Line} (r : Rz h a b) (l : Line) : Rz h (a ++ [l]) (b ++ [l]) := by
  induction r with
  | nil => exact .same .nil
  | same _ ih => exact .same ih
  | put _ ih => exact .put ih
theorem Rz.snocP {h : Nat} {a b : List Line} (r : Rz h a b) (l : Line) : Rz h (a ++ [l]) (b ++ [(ahead h l.1, l.2)]) := by
  induction r with
  | nil => exact .put .nil
  | same _ ih => exact .same ih
  | put _ ih => exact .put ih
theorem Rz.len {h : Nat} {a b : List Line} (r : Rz h a b) : b.length = a.length := by
  induction r with
  | nil => rfl
  | same _ ih => rw [List.length_cons, List.length_cons, ih]
  | put _ ih => rw [List.length_cons, List.length_cons, ih]
theorem Rz.ok {n h : Nat} (hn : n ≤ 5) (hh : h < n) {a b : List Line} (r : Rz h a b) : LinesOk n a → LinesOk n b := by
  induction r with
  | nil => exact id
  | @same l a b _ ih =>
    intro o u hu
    rcases List.mem_cons.mp hu with rfl | hu
    · exact o _ List.mem_cons_self
    · exact ih (fun v hv => o v (List.mem_cons_of_mem _ hv)) u hu
  | @put l a b _ ih =>
    intro o u hu
    rcases List.mem_cons.mp hu with rfl | hu
    · exact ⟨ahead_ok hn hh (o l List.mem_cons_self).1, (o l List.mem_cons_self).2⟩
    · exact ih (fun v hv => o v (List.mem_cons_of_mem _ hv)) u hu
theorem gOv_lt {n : Nat} (hn : n ≤ 5) {s : List Nat} (ok : SlipOk n s) (x y : Nat) : gOv n x y s = if ltS s x y = true then 1 else 0 := by
  unfold gOv
  by_cases c : ltS s x y = true
  · rw [if_pos c, if_pos ((place_lt hn ok x y).mpr c)]
  · rw [if_neg c, if_neg fun q => c ((place_lt hn ok x y).mp q)]
theorem Rz.ovs {n h : Nat} (hn : n ≤ 5) (hh : h < n) {a b : List Line} (r : Rz h a b) : LinesOk n a → ∀ x y, (x ≠ h → y ≠ h → wsum (gOv n x y) b = wsum (gOv n x y) a) ∧
    (y ≠ h → wsum (gOv n h y) a ≤ wsum (gOv n h y) b) ∧ (y ≠ h → wsum (gOv n y h) b ≤ wsum (gOv n y h) a) := by
  induction r with
  | nil => exact fun _ x y => ⟨fun _ _ => rfl, fun _ => Int.le_refl _, fun _ => Int.le_refl _⟩
  | @same l a b _ ih =>
    intro o x y
    obtain ⟨i1, i2, i3⟩ := ih (fun v hv => o v (List.mem_cons_of_mem _ hv)) x y
    simp only [wsum_cons]
    exact ⟨fun p q => by rw [i1 p q], fun p => by have := i2 p; omega, fun p => by have := i3 p; omega⟩
  | @put l a b _ ih =>
    intro o x y
    obtain ⟨i1, i2, i3⟩ := ih (fun v hv => o v (List.mem_cons_of_mem _ hv)) x y
    obtain ⟨ok, pos⟩ := o l List.mem_cons_self
    have ok' := ahead_ok hn hh ok
    simp only [wsum_cons]
    refine ⟨fun p q => ?_, fun p => ?_, fun p => ?_⟩
    · rw [i1 p q, gOv_lt hn ok', gOv_lt hn ok, ahead_lt hn hh ok p q]
    · have := i2 p
      rw [gOv_lt hn ok', gOv_lt hn ok, (ahead_first h l.1 p).1, if_pos rfl]
      split <;> omega
    · have := i3 p
      rw [gOv_lt hn ok', gOv_lt hn ok, (ahead_first h l.1 p).2, if_neg (by decide)]
      split <;> omega
theorem raised_unb {n h : Nat} (hn : n ≤ 5) (hh : h < n) {L Lz L' : List Line} (ok : LinesOk n L) (r : Rz h L Lz) (t : Tog Lz L') (hu : h ∈ unb (stren n (ld (ov n L))) (List.range n)) : h ∈ unb (stren n (ld (ov n L'))) (List.range n) := by
  obtain ⟨m, q⟩ := mem_unb.mp hu
  refine mem_unb.mpr ⟨m, fun y hy => raise_ok (L := ld (ov n L)) (fun z hz => ?_) (fun z hz => ?_) (fun x z hx hz => ?_) (q y hy)⟩
  · unfold ld
    rw [t.ov]
    obtain ⟨_, a, b⟩ := r.ovs hn hh ok 0 z
    have a := a hz
    have b := b hz
    unfold ov
    omega
  · unfold ld
    rw [t.ov]
    obtain ⟨_, a, b⟩ := r.ovs hn hh ok 0 z
    have a := a hz
    have b := b hz
    unfold ov
    omega
  · unfold ld
    rw [t.ov]
    unfold ov
    rw [(r.ovs hn hh ok x z).1 hx hz, (r.ovs hn hh ok z x).1 hz hx]
/-! ### lines put together -/
def addL (M : List Line) (s : List Nat) (k : Int) : List Line := if s ∈ M.map (·.1) then M.map (fun l => if l.1 = s then (l.1, l.2 + k) else l) else M ++ [(s, k)]
def getL (M : List Line) (s : List Nat) : Int := ((M.find? fun l => decide (l.1 = s)).map (·.2)).getD 0
theorem map_none {s : List Nat} {k : Int} : ∀ {M : List Line}, s ∉ M.map (·.1) → M.map (fun l => if l.1 = s then (l.1, l.2 + k) else l) = M
  | [], _ => rfl
  | l :: M, h => by
    rw [List.map_cons, List.mem_cons, not_or] at h
    rw [List.map_cons, if_neg (fun q => h.1 q.symm), map_none h.2]
theorem wsum_hit {s : List Nat} {k : Int} (g : List Nat → Int) : ∀ {M : List Line}, (M.map (·.1)).Nodup → s ∈ M.map (·.1) → wsum g (M.map (fun l => if l.1 = s then (l.1, l.2 + k) else l)) = wsum g M + g s * k
  | [], _, h => by cases h
  | l :: M, nd, h => by
    rw [List.map_cons] at nd h
    obtain ⟨n1, n2⟩ := List.nodup_cons.mp nd
    rw [List.map_cons, wsum_cons, wsum_cons]
    by_cases e : l.1 = s
    · subst e
      rw [if_pos rfl, map_none n1]
      show g l.1 * (l.2 + k) + wsum g M = g l.1 * l.2 + wsum g M + g l.1 * k
      rw [Int.mul_add]
      omega
    · rw [if_neg e, wsum_hit g n2 (by
        rcases List.mem_cons.mp h with q | q
        · exact absurd q.symm e
        · exact q)]
      omega
theorem wsum_add (g : List Nat → Int) {M : List Line} {s : List Nat} {k : Int} (nd : (M.map (·.1)).Nodup) : wsum g (addL M s k) = wsum g M + g s * k := by
  unfold addL
  split
  · rename_i h
    exact wsum_hit g nd h
  · rw [wsum_app, wsum_cons, wsum_nil]
    show wsum g M + (g s * k + 0) = _
    omega
theorem keys_hit {s : List Nat} {k : Int} (M : List Line) : (M.map (fun l => if l.1 = s then (l.1, l.2 + k) else l)).map (·.1) = M.map (·.1) := by
  rw [List.map_map]
  refine List.map_congr_left fun l _ => ?_
  show (if l.1 = s then (l.1, l.2 + k) else l).1 = l.1
  split <;> rfl
theorem nodup_add {M : List Line} {s : List Nat} {k : Int} (nd : (M.map (·.1)).Nodup) : ((addL M s k).map (·.1)).Nodup := by
  unfold addL
  split
  · rw [keys_hit]; exact nd
  · rename_i h
    rw [List.map_append]
    refine List.nodup_append.mpr ⟨nd, by simp, fun a ha b hb => ?_⟩
    have : b = s := by simpa using hb
    subst this
    exact fun q => h (q ▸ ha)
theorem len_add (M : List Line) (s : List Nat) (k : Int) : (addL M s k).length ≤ M.length + 1 := by
  unfold addL
  split
  · rw [List.length_map]; omega
  · rw [List.length_append]; simp
theorem ok_add {n : Nat} {M : List Line} {s : List Nat} {k : Int} (hM : LinesOk n M) (hs : SlipOk n s) (hk : 0 ≤ k) : LinesOk n (addL M s k) := by
  intro l hl
  unfold addL at hl
  split at hl
  · obtain ⟨u, hu, rfl⟩ := List.mem_map.mp hl
    have := hM u hu
    split
    · exact ⟨this.1, by show 0 ≤ u.2 + k; omega⟩
    · exact this
  · rcases List.mem_append.mp hl with h | h
    · exact hM l h
    · have : l = (s, k) := by simpa using h
      subst this
      exact ⟨hs, hk⟩
/-- the dict behind the lines -/
def dictOf : List Line → List Line := fun L => L.foldl (fun M l => addL M l.1 l.2) []
theorem dictOf_snoc (L : List Line) (l : Line) : dictOf (L ++ [l]) = addL (dictOf L) l.1 l.2 := by
  unfold dictOf; rw [List.foldl_append]; rfl
theorem dict_facts : ∀ (r : List Line), ((dictOf r.reverse).map (·.1)).Nodup ∧ (∀ g, wsum g (dictOf r.reverse) = wsum g r.reverse) ∧ (dictOf r.reverse).length ≤ r.length ∧ ∀ n, LinesOk n r.reverse → LinesOk n (dictOf r.reverse)
  | [] => ⟨List.nodup_nil, fun _ => rfl, Nat.le_refl _, fun _ h => h⟩
  | l :: r => by
    obtain ⟨a, b, c, d⟩ := dict_facts r
    rw [List.reverse_cons, dictOf_snoc]
    refine ⟨nodup_add a, fun g => ?_, ?_, fun n h => ?_⟩
    · rw [wsum_add g a, b, wsum_app, wsum_cons, wsum_nil]; omega
    · have := len_add (dictOf r.reverse) l.1 l.2
      rw [List.length_cons]; omega
    · have h2 := h l (List.mem_append_right _ (List.mem_singleton.mpr rfl))
      exact ok_add (d n fun u hu => h u (List.mem_append_left _ hu)) h2.1 h2.2
theorem dict_nodup (L : List Line) : ((dictOf L).map (·.1)).Nodup := by
  have := (dict_facts L.reverse).1
  rwa [List.reverse_reverse] at this
theorem find_mem {M : List Line} (nd : (M.map (·.1)).Nodup) : ∀ {l : Line}, l ∈ M → getL M l.1 = l.2 := by
  induction M with
  | nil => intro l h; cases h
  | cons a M ih =>
    intro l h
    rw [List.map_cons] at nd
    obtain ⟨n1, n2⟩ := List.nodup_cons.mp nd
    unfold getL
    rw [List.find?_cons]
    by_cases e : a.1 = l.1
    · rw [decide_eq_true e]
      rcases List.mem_cons.mp h with q | q
      · rw [q]; rfl
      · exact absurd (e ▸ List.mem_map.mpr ⟨l, q, rfl⟩) n1
    · rw [decide_eq_false e]
      rcases List.mem_cons.mp h with q | q
      · exact absurd (by rw [q]) e
      · exact ih n2 q
theorem dict_tog (L : List Line) {ks : List (List Nat)} (h : ks.Perm ((dictOf L).map (·.1))) : Tog L (ks.map fun s => (s, getL (dictOf L) s)) := by
  obtain ⟨a, b, c, d⟩ := dict_facts L.reverse
  rw [List.reverse_reverse] at a b d
  rw [List.reverse_reverse, List.length_reverse] at c
  have p : (ks.map fun s => (s, getL (dictOf L) s)).Perm (dictOf L) := by
    refine (h.map _).trans ?_
    rw [List.map_map]
    have : (dictOf L).map ((fun s => (s, getL (dictOf L) s)) ∘ fun x => x.1) = dictOf L := by
      conv => rhs; rw [← List.map_id (dictOf L)]
      refine List.map_congr_left fun l hl => ?_
      show (l.1, getL (dictOf L) l.1) = l
      rw [find_mem a hl]
    rw [this]
  exact ⟨fun g => (wsum_perm g p).trans (b g), fun n o l hl => d n o l (p.mem_iff.mp hl), by rw [p.length_eq]; exact c⟩
end Wp
end
section
set_option Elab.async false
set_option linter.all false
set_option maxRecDepth 100000
set_option maxHeartbeats 0
namespace Wp
open PySem PySem.Spec PyProof.Rows L2
/-! ### the text by places -/
def tp (i : Nat) : Stmt := PySem.Challenge.pw_wholepoll_k56_whole_pairs_kept.main.body.getD i (.Pass ⟨0, 0, 0, 0⟩)
abbrev s_holds : Stmt := tp 1
abbrev s_with_one : Stmt := tp 2
abbrev s_is_whole : Stmt := tp 7
abbrev s_ranks_of : Stmt := tp 9
abbrev s_places_of : Stmt := tp 11
abbrev s_overs : Stmt := tp 12
abbrev s_leads_of : Stmt := tp 13
abbrev s_strength : Stmt := tp 14
abbrev s_way_by : Stmt := tp 15
abbrev s_cut_by : Stmt := tp 16
abbrev s_lots_of : Stmt := tp 20
abbrev way_s_init : Stmt := inClass (tp 21) 0
abbrev way_s_outcome : Stmt := inClass (tp 21) 4
abbrev s_unbeaten_of : Stmt := tp 23
abbrev s_picks_due : Stmt := tp 24
abbrev pairs_s_beats : Stmt := inClass (tp 25) 0
abbrev pairs_s_unbeaten : Stmt := inClass (tp 25) 1
abbrev pairs_s_counted : Stmt := inClass (tp 25) 2
abbrev pairs_s_told_by : Stmt := inClass (tp 25) 3
abbrev s_law_bag : Stmt := tp 27
abbrev s_law_take : Stmt := tp 28
abbrev s_law_one : Stmt := tp 29
abbrev s_law_alike : Stmt := tp 30
abbrev s_law_mixed : Stmt := tp 31
abbrev s_law_slip : Stmt := tp 32
abbrev s_law_lines : Stmt := tp 33
abbrev s_law_together : Stmt := tp 34
abbrev s_law_members : Stmt := tp 35
abbrev s_law_turned : Stmt := tp 36
abbrev s_law_put_ahead : Stmt := tp 37
abbrev s_law_set_first : Stmt := tp 38
abbrev s_law_seats_right : Stmt := tp 39
abbrev s_law_turned_right : Stmt := tp 40
abbrev s_law_raised_right : Stmt := tp 41
abbrev s_law : Stmt := tp 42
/-! ### the head: facts by names -/
def d_s_holds : He.DefD := ⟨("holds", none), "holds", "holds", defArgs s_holds, defBody s_holds, defScope s_holds, [], []⟩
def d_s_with_one : He.DefD := ⟨("with_one", none), "with_one", "with_one", defArgs s_with_one, defBody s_with_one, defScope s_with_one, [], []⟩
def d_s_is_whole : He.DefD := ⟨("is_whole", none), "is_whole", "is_whole", defArgs s_is_whole, defBody s_is_whole, defScope s_is_whole, [], []⟩
def d_s_ranks_of : He.DefD := ⟨("ranks_of", none), "ranks_of", "ranks_of", defArgs s_ranks_of, defBody s_ranks_of, defScope s_ranks_of, [], []⟩
def d_s_places_of : He.DefD := ⟨("places_of", none), "places_of", "places_of", defArgs s_places_of, defBody s_places_of, defScope s_places_of, [], []⟩
def d_s_overs : He.DefD := ⟨("overs", none), "overs", "overs", defArgs s_overs, defBody s_overs, defScope s_overs, [], []⟩
def d_s_leads_of : He.DefD := ⟨("leads_of", none), "leads_of", "leads_of", defArgs s_leads_of, defBody s_leads_of, defScope s_leads_of, [], []⟩
def d_s_strength : He.DefD := ⟨("strength", none), "strength", "strength", defArgs s_strength, defBody s_strength, defScope s_strength, [], []⟩
def d_s_way_by : He.DefD := ⟨("way_by", none), "way_by", "way_by", defArgs s_way_by, defBody s_way_by, defScope s_way_by, [], []⟩
def d_s_cut_by : He.DefD := ⟨("cut_by", none), "cut_by", "cut_by", defArgs s_cut_by, defBody s_cut_by, defScope s_cut_by, [], []⟩
def d_s_lots_of : He.DefD := ⟨("lots_of", none), "lots_of", "lots_of", defArgs s_lots_of, defBody s_lots_of, defScope s_lots_of, [], []⟩
def d_way_s_init : He.DefD := ⟨("Pairs", some "__init__"), "__init__", "Way.__init__", defArgs way_s_init, defBody way_s_init, defScope way_s_init, [.non], []⟩
def d_way_s_outcome : He.DefD := ⟨("Pairs", some "outcome"), "outcome", "Way.outcome", defArgs way_s_outcome, defBody way_s_outcome, defScope way_s_outcome, [], []⟩
def d_s_unbeaten_of : He.DefD := ⟨("unbeaten_of", none), "unbeaten_of", "unbeaten_of", defArgs s_unbeaten_of, defBody s_unbeaten_of, defScope s_unbeaten_of, [], []⟩
def d_s_picks_due : He.DefD := ⟨("picks_due", none), "picks_due", "picks_due", defArgs s_picks_due, defBody s_picks_due, defScope s_picks_due, [], []⟩
def d_pairs_s_beats : He.DefD := ⟨("Pairs", some "beats"), "beats", "Pairs.beats", defArgs pairs_s_beats, defBody pairs_s_beats, defScope pairs_s_beats, [], []⟩
def d_pairs_s_unbeaten : He.DefD := ⟨("Pairs", some "unbeaten"), "unbeaten", "Pairs.unbeaten", defArgs pairs_s_unbeaten, defBody pairs_s_unbeaten, defScope pairs_s_unbeaten, [], []⟩
def d_pairs_s_counted : He.DefD := ⟨("Pairs", some "counted"), "counted", "Pairs.counted", defArgs pairs_s_counted, defBody pairs_s_counted, defScope pairs_s_counted, [], []⟩
def d_pairs_s_told_by : He.DefD := ⟨("Pairs", some "told_by"), "told_by", "Pairs.told_by", defArgs pairs_s_told_by, defBody pairs_s_told_by, defScope pairs_s_told_by, [], []⟩
def d_s_law_bag : He.DefD := ⟨("_law_bag", none), "_law_bag", "_law_bag", defArgs s_law_bag, defBody s_law_bag, defScope s_law_bag, [], []⟩
def d_s_law_take : He.DefD := ⟨("_law_take", none), "_law_take", "_law_take", defArgs s_law_take, defBody s_law_take, defScope s_law_take, [], []⟩
def d_s_law_one : He.DefD := ⟨("_law_one", none), "_law_one", "_law_one", defArgs s_law_one, defBody s_law_one, defScope s_law_one, [], []⟩
def d_s_law_alike : He.DefD := ⟨("_law_alike", none), "_law_alike", "_law_alike", defArgs s_law_alike, defBody s_law_alike, defScope s_law_alike, [], []⟩
def d_s_law_mixed : He.DefD := ⟨("_law_mixed", none), "_law_mixed", "_law_mixed", defArgs s_law_mixed, defBody s_law_mixed, defScope s_law_mixed, [], []⟩
def d_s_law_slip : He.DefD := ⟨("_law_slip", none), "_law_slip", "_law_slip", defArgs s_law_slip, defBody s_law_slip, defScope s_law_slip, [], []⟩
def d_s_law_lines : He.DefD := ⟨("_law_lines", none), "_law_lines", "_law_lines", defArgs s_law_lines, defBody s_law_lines, defScope s_law_lines, [], []⟩
def d_s_law_together : He.DefD := ⟨("_law_together", none), "_law_together", "_law_together", defArgs s_law_together, defBody s_law_together, defScope s_law_together, [], []⟩
def d_s_law_members : He.DefD := ⟨("_law_members", none), "_law_members", "_law_members", defArgs s_law_members, defBody s_law_members, defScope s_law_members, [], []⟩
def d_s_law_turned : He.DefD := ⟨("_law_turned", none), "_law_turned", "_law_turned", defArgs s_law_turned, defBody s_law_turned, defScope s_law_turned, [], []⟩
def d_s_law_put_ahead : He.DefD := ⟨("_law_put_ahead", none), "_law_put_ahead", "_law_put_ahead", defArgs s_law_put_ahead, defBody s_law_put_ahead, defScope s_law_put_ahead, [], []⟩
def d_s_law_set_first : He.DefD := ⟨("_law_set_first", none), "_law_set_first", "_law_set_first", defArgs s_law_set_first, defBody s_law_set_first, defScope s_law_set_first, [], []⟩
def d_s_law_seats_right : He.DefD := ⟨("_law_seats_right", none), "_law_seats_right", "_law_seats_right", defArgs s_law_seats_right, defBody s_law_seats_right, defScope s_law_seats_right, [], []⟩
def d_s_law_turned_right : He.DefD := ⟨("_law_turned_right", none), "_law_turned_right", "_law_turned_right", defArgs s_law_turned_right, defBody s_law_turned_right, defScope s_law_turned_right, [], []⟩
def d_s_law_raised_right : He.DefD := ⟨("_law_raised_right", none), "_law_raised_right", "_law_raised_right", defArgs s_law_raised_right, defBody s_law_raised_right, defScope s_law_raised_right, [], []⟩
def d_s_law : He.DefD := ⟨("law", none), "law", "law", defArgs s_law, defBody s_law, defScope s_law, [], []⟩
def fnL0 : List He.DefD := [d_s_holds, d_s_with_one, d_s_is_whole, d_s_ranks_of, d_s_places_of, d_s_overs, d_s_leads_of, d_s_strength, d_s_way_by, d_s_cut_by, d_s_lots_of, d_way_s_init]
def fnL1 : List He.DefD := [d_way_s_outcome, d_s_unbeaten_of, d_s_picks_due, d_pairs_s_beats, d_pairs_s_unbeaten, d_pairs_s_counted, d_pairs_s_told_by, d_s_law_bag, d_s_law_take, d_s_law_one, d_s_law_alike, d_s_law_mixed]
def fnL2 : List He.DefD := [d_s_law_slip, d_s_law_lines, d_s_law_together, d_s_law_members, d_s_law_turned, d_s_law_put_ahead, d_s_law_set_first, d_s_law_seats_right, d_s_law_turned_right, d_s_law_raised_right, d_s_law]
def fnL : List He.DefD := fnL0 ++ (fnL1 ++ fnL2)
def faL0 : List He.Fa := [.glo "holds", .glo "with_one", .glo "is_whole", .glo "ranks_of", .glo "places_of", .glo "overs", .glo "leads_of", .glo "strength", .glo "way_by", .glo "cut_by", .glo "lots_of", .glo "unbeaten_of", .glo "picks_due", .glo "_law_bag", .glo "_law_take"]
def faL1 : List He.Fa := [.glo "_law_one", .glo "_law_alike", .glo "_law_mixed", .glo "_law_slip", .glo "_law_lines", .glo "_law_together", .glo "_law_members", .glo "_law_turned", .glo "_law_put_ahead", .glo "_law_set_first", .glo "_law_seats_right", .glo "_law_turned_right", .glo "_law_raised_right", .glo "law", .glo "Pairs"]
def faL2 : List He.Fa := [.free "len", .free "range", .free "enumerate", .free "list", .free "tuple", .free "int", .free "min", .free "max", .free "all", .free "abs", .free "sum", .free "sorted", .free "repr", .free "isinstance", .free "bool"]
def faL3 : List He.Fa := [.int "MOST_HANDS" 12, .int "MOST_SEATS" 60, .cls "Pairs", .noat "Pairs" "hands", .noat "Pairs" "seats", .noat "Pairs" "lots", .mkr "Pairs", .meth "Pairs" "beats", .meth "Pairs" "unbeaten", .meth "Pairs" "counted", .meth "Pairs" "told_by", .meth "Pairs" "outcome"]
def faL : List He.Fa := faL0 ++ (faL1 ++ (faL2 ++ faL3))
def looseL0 : List Str := ["__name__", "holds", "with_one", "PollError", "NoWay", "is_whole", "ranks_of", "places_of", "overs", "leads_of"]
def looseL1 : List Str := ["strength", "way_by", "cut_by", "MOST_HANDS", "MOST_SEATS", "lots_of", "Way", "unbeaten_of", "picks_due", "Pairs"]
def looseL2 : List Str := ["_law_bag", "_law_take", "_law_one", "_law_alike", "_law_mixed", "_law_slip", "_law_lines", "_law_together", "_law_members", "_law_turned"]
def looseL3 : List Str := ["_law_put_ahead", "_law_set_first", "_law_seats_right", "_law_turned_right", "_law_raised_right"]
def looseL : List Str := looseL0 ++ (looseL1 ++ (looseL2 ++ looseL3))
abbrev Rw : PySem.W.OpenRow := PySem.W.OpenLaw.row PySem.Challenge.rw_wholepoll_k56_whole_pairs_kept
abbrev hk : PySem.W.Hook := He.hookD 5 faL fnL
def ob (s : PySem.W.SharedT) : He.AlD := He.obsDG 5 faL fnL (HandSHeadRun.getT s)
theorem ob_eq (s : PySem.W.SharedT) : ob s = hk.obs s.abs := He.obsDG_eq (HandSHeadRun.getT_eq s)
theorem run (w : World) : HandSHeadRun.RunEq Rw (PySem.W.view Rw.prog [42]) hk ob 6000 looseL w := by
  intro os
  kernel_rfl
end Wp
open PySem PySem.W PySem.Calls PyProof.Rows
theorem hd_k56 (call : WalkO (view Wp.Rw.prog [42]) Wp.looseL (XL (view Wp.Rw.prog [42]) []) Wp.hk.says Wp.Rw.toRowW (HandSHeadRun.topDef Wp.Rw.prog 42) [] fun f vs => PySem.call f vs) : PySem.Challenge.rw_wholepoll_k56_whole_pairs_kept.Holds := by
  w_on; o_law
  refine HandSHeadRun.head_any (r := Wp.Rw) (q := view Wp.Rw.prog [42]) (H := Wp.hk) (ob := Wp.ob) (M := 6000) (loose := Wp.looseL) (d := HandSHeadRun.topDef Wp.Rw.prog 42) (kwd := []) Wp.ob_eq
    (by kernel_rfl) (fun s => by kernel_rfl) Wp.run (by kernel_rfl) (by kernel_rfl) (by kernel_rfl) (by rfl) (by first | assumption | decide +kernel) (by decide +kernel) ⟨rfl, rfl, rfl, rfl, rfl, by decide +kernel⟩ ?hw call
  case hw => w_witness2
end
section
set_option Elab.async false
set_option linter.all false
set_option maxRecDepth 100000
set_option maxHeartbeats 4000000
namespace Wp
open PySem PySem.Spec PyProof.Rows L2
section
variable {X : Cx}
/-! ### xs[i] by values, for xs[i] op= e -/
theorem gt_list : PGet X (rIxL X.K) := by
  intro pins s σ H o i ov iv Q I ro ri h
  obtain ⟨p, xs, k, z, rfl, rfl, hq, he, q⟩ := h
  cases ro
  obtain ⟨t, rfl⟩ := ri
  obtain ⟨its, r, pl, hz⟩ := I.list hq
  obtain ⟨j, g1, g2, g3, g4, g5⟩ := atI_get he
  obtain ⟨w, ew, rw'⟩ := r.get g2
  have hl := r.length
  have hn := line63
  have hw : EP X pins σ Q w s := ⟨z, H, I, rw', q⟩
  by_cases c : 0 ≤ k
  · rw [seqIndex_of c g5] at g1
    have e : k.toNat = j := Option.some.inj g1
    refine wpAny_getItem_list pl.isList c (by omega) ?_ hw
    rw [e]; simpa using ew
  · rw [seqIndex_neg (by omega) g4] at g1
    have e : (k + (xs.length : Int)).toNat = j := Option.some.inj g1
    refine wpAny_getItem_list_neg pl.isList (by omega) (by rw [List.size_toArray]; omega) (by omega) ?_ hw
    rw [List.size_toArray, ← hl, e]; simpa using ew
/-! ### repr of a list of plain data, of a truth (where nothing is being shown) -/
theorem cr_reprL (hg : X.A.guards = some []) (hu : X.A.units + 64 < cLine) : CallR X (.builtin "repr") (fun xs H Q =>
    ∃ x ds, xs = [x] ∧ Dp X.K H x (.list ds) ∧ (PyData.list ds).showable = true ∧ (PyData.list ds).hasDict = false ∧ (PyData.list ds).depth ≤ 60 ∧ (PyData.list ds).shown.length ≤ sizeLine ∧ Q (.str (PyData.list ds).shown) H) := by
  intro pins s σ H xs us Q I r h
  obtain ⟨x, ds, rfl, hd, c1, c2, c3, c4, q⟩ := h
  obtain ⟨u, rfl, rx⟩ := vals1 r
  obtain ⟨as, rd⟩ := Dp.reads I (.list ds) x u hd rx
  obtain ⟨a, rfl⟩ := isRef_of_reads rd rfl
  exact repr_of_reads' rd c1 (PyData.noDict_hsm c2) hg (by omega) (fun _ _ e => e) (fun h' u tk hk => ⟨.str _, H, I.kept (t' := tk) hk, ⟨_, rfl⟩, q⟩) c4
theorem cr_reprB : CallR X (.builtin "repr") (fun xs H Q => ∃ b : Bool, xs = [.bl b] ∧ Q (.str (if b then "True" else "False")) H) := by
  intro pins s σ H xs us Q I r h
  obtain ⟨b, rfl, q⟩ := h
  obtain ⟨u, rfl, rx⟩ := vals1 r
  cases rx
  exact PySem.P.repr_of_bool ⟨.str _, H, I.tok _, ⟨_, rfl⟩, q⟩
/-! ### sum of a tuple of ints -/
theorem cr_sumT (hc : X.calm = true) : CallR X (.builtin "sum") (fun xs H Q => ∃ (a : Addr) (ns : List Int), xs = [V.ref a] ∧ SqT X.K H a (ns.map V.int) ∧ Q (.int ns.sum) H) := by
  intro pins s σ H vs us Q I r h
  obtain ⟨a, ns, rfl, hs, q⟩ := h
  obtain ⟨its, rv, hl, _⟩ := I.tuple hs
  rw [Vals.ref1 r]
  have hi := rv.ints
  obtain ⟨zs, e⟩ := hi.allInts.items
  have hn : numsOf (intItems zs).toList = ns := by rw [← e]; exact hi.numsOf
  rw [nums_intItems] at hn
  rw [e] at hl
  obtain ⟨o, ho, hcl, n, hd⟩ := hl
  refine PySem.W.ktm_sumG (I.ok.hd hc) ⟨o, ho, hcl, n, hd⟩ fun h' tk t' hk => ?_
  rw [preSum_eq, List.take_of_length_le (by simp), hn]
  exact ⟨.int _, H, I.kept hk, ⟨_, rfl⟩, q⟩
end
end Wp
end
section
set_option Elab.async false
set_option linter.all false
set_option maxRecDepth 100000
set_option maxHeartbeats 4000000
namespace Wp
open PySem PySem.Spec PyProof.Rows L2
/-! ### t[::-1], t a tuple -/
theorem cut_back {prog : Program} {w : World} {A : Around} {E : Value → Shared → Prop} {s : Shared} {sl : Addr} {vk : Value} {n : Nat} {Q : Int × Int × Nat → Shared → Prop} (hs : s.heap.IsSliceOf sl .none .none vk) (pk : IsPart vk (some (-1)))
    (h : Q ((n : Int) - 1, -1, n) s) : wpAny (model prog w) A (Builtin.Slice.sliceApplied (.ref sl) (pure (n : Int))) Q E s := by
  obtain ⟨ob, hob, _, hfs⟩ := id hs
  unfold Builtin.Slice.sliceApplied Builtin.Slice.sliceFields
  refine wpAny_bind (wpAny_bind (wpAny_field hob hfs (x := Value.none) rfl (wpAny_bind (wpAny_field hob hfs (x := Value.none) rfl (wpAny_bind (wpAny_field hob hfs (x := vk) rfl (wpAny_pure ?_)))))))
  refine wpAny_bind (HT.slicePart_ pk ?_)
  show wpAny _ _ (if ((-1 : Int) == 0) = true then _ else _) _ _ s
  rw [if_neg (by decide)]
  refine wpAny_bind (slicePart_none (wpAny_bind (slicePart_none (wpAny_bind (wpAny_pure ?_)))))
  have e : Builtin.Slice.slicePlaces ((n : Int) - 1) (-1) (-1) = n := by
    unfold Builtin.Slice.slicePlaces
    rw [if_neg (by decide)]
    by_cases c : (n : Int) - 1 > -1
    · rw [if_pos c, show (- -1 : Int) = 1 by decide, Int.ediv_one]
      omega
    · rw [if_neg c]
      omega
  show wpAny _ _ (pure ((n : Int) - 1, (-1 : Int), Builtin.Slice.slicePlaces ((n : Int) - 1) (-1) (-1))) _ _ s
  rw [e]
  exact wpAny_pure h
theorem fm_congr {α β : Type} {f g : α → Option β} : ∀ {l : List α}, (∀ x ∈ l, f x = g x) → l.filterMap f = l.filterMap g
  | [], _ => rfl
  | a :: l, h => by
    have ih := fm_congr (l := l) fun x hx => h x (List.mem_cons_of_mem _ hx)
    rw [List.filterMap_cons, List.filterMap_cons, h a List.mem_cons_self, ih]
theorem pick_back (xs : Array Value) : ((List.range xs.size).filterMap fun (m : Nat) => xs[((xs.size : Int) - 1 + (m : Int) * -1).toNat]?).toArray = xs.toList.reverse.toArray := by
  have e : ((List.range xs.size).filterMap fun (m : Nat) => xs[((xs.size : Int) - 1 + (m : Int) * -1).toNat]?) = ((List.range xs.size).map fun k => xs.size - 1 - k).filterMap (xs[·]?) := by
    rw [List.filterMap_map]
    refine fm_congr fun m hm => ?_
    have hm := List.mem_range.mp hm
    show xs[_]? = xs[xs.size - 1 - m]?
    rw [show ((xs.size : Int) - 1 + (m : Int) * -1).toNat = xs.size - 1 - m by omega]
  rw [e, PySem.W.krv_range, List.filterMap_reverse, PySem.W.krv_all]
theorem getT_back {prog : Program} {w : World} {A : Around} {E : Value → Shared → Prop} {s : Shared} {t sl : Addr} {items : Array Value} {vk : Value} {Q : Value → Shared → Prop} (ht : IsTup s.heap t items) (hs : s.heap.IsSliceOf sl .none .none vk) (pk : IsPart vk (some (-1)))
    (h : Q (.ref s.heap.objs.size) { s with heap := s.heap.push { cls := .type "tuple", data := .seq items.toList.reverse.toArray } }) (hz : items.size ≤ sizeLine) : wpAny (model prog w) A (getItem (.ref t) (.ref sl)) Q E s := by
  have hsz : sizeOk (.seq items.toList.reverse.toArray) := by
    show items.toList.reverse.toArray.size ≤ sizeLine
    rw [List.size_toArray, List.length_reverse, Array.length_toList]
    exact hz
  obtain ⟨ob, hob, hcb, _⟩ := id hs
  have hT : s.TypeIs (.ref sl) "slice" := ⟨ob, hob, hcb⟩
  unfold getItem
  try with_reducible refine wpAny_holding ?_
  first | refine wpAny_bind (wpAny_pure ?_) | skip
  refine wpAny_bind (wpAny_sequenceKey ht.typeIs (by decide) ?_)
  refine wpAny_bind (wpAny_callSpecial?_slot (name := Str.ofString "__getitem__") ht.typeIs slot_tuple_getitem (wpAny_call_entry slot_tuple_getitem ht.typeIs entry_tuple_getitem ?_ (args_tuple_getitem _ _)))
  show wpAny _ _ (Builtin.Tuple.tupleItemsOf (.ref t) >>= _) _ _ s
  refine wpAny_bind (tupleItemsOf_ ht (wpAny_bind (wpAny_typeOf hT ?_)))
  rw [if_pos (by decide)]
  refine wpAny_bind (cut_back hs pk ?_)
  have no : ¬ (((items.size : Int) - 1 == 0 && (-1 : Int) == 1 && items.size == items.size) = true) := by
    rw [show ((-1 : Int) == 1) = false by decide, Bool.and_false, Bool.false_and]
    exact Bool.false_ne_true
  show wpAny _ _ (if ((items.size : Int) - 1 == 0 && (-1 : Int) == 1 && items.size == items.size) = true then _ else _) _ _ s
  rw [if_neg no, pick_back]
  first
    | exact wpAny_bind (m := Builtin.Tuple.tupleExact _) (wpAny_newObj_type (wpAny_pure ⟨_, rfl, wpAny_pure h⟩) hsz)
    | exact wpAny_bind (m := Builtin.Tuple.tupleExact _) (wpAny_newObj_type (wpAny_bind (wpAny_pure (wpAny_pure ⟨_, rfl, wpAny_pure h⟩))) hsz)
    | exact wpAny_bind (wpAny_bind (m := Builtin.Tuple.tupleExact _) (wpAny_newObj_type (wpAny_pure (wpAny_pure ⟨_, rfl, wpAny_pure h⟩)) hsz))
    | exact wpAny_bind (wpAny_bind (m := Builtin.Tuple.tupleExact _) (wpAny_newObj_type (wpAny_pure ⟨_, rfl, wpAny_pure h⟩) hsz))
def tRevT (K : PySem.W.Frag) (te : TE) : TE := fun σ H Q => te σ H fun x H1 => ∃ a xs, x = .ref a ∧ SqT K H1 a xs ∧ ∀ p, H1 p = none → Q (.ref p) (upd H1 p (.tup xs.reverse))
theorem pe_revT {X : Cx} {e : Expr} {te : TE} {k : Nat} {p1 p2 p3 pos : Pos} (he : PE X e te) : PE X (.Subscript e (.Slice none none (some (.UnaryOp .USub (.Constant (.int 1) k p1) p2)) p3) pos) (tRevT X.K te) := by
  refine ⟨fun pins s σ H Q I h => Subscript_ (thn (he.run pins s σ H _ I h) fun v s1 ⟨x, H1, I1, r1, a, xs, ex, hx, q⟩ => ?_)⟩
  subst ex
  cases r1
  have hst : PO X (some (.UnaryOp .USub (.Constant (.int 1) k p1) p2)) (tPart (tUn (rU fun i => .int (-i)) (tC (.int 1)))) := po_some (pe_un un_neg pe_int)
  refine wpAny_Slice (thn (po_none.run pins s1 σ H1 (fun o J => o = none ∧ J = H1) I1 ⟨rfl, rfl⟩) fun vl s2 ⟨l, H2, I2, pl, el, e2⟩ => thn (po_none.run pins s2 σ H2 (fun o J => o = none ∧ J = H2) I2 ⟨rfl, rfl⟩) fun vu s3 ⟨u, H3, I3, pu, eu, e3⟩ =>
    thn (hst.run pins s3 σ H3 (fun o J => o = some (-1) ∧ J = H3) I3 ⟨1, rfl, -1, rfl, rfl, rfl⟩) fun vs s4 ⟨o, H4, I4, ps, eo, e4⟩ => ?_)
  subst el e2 eu e3 eo e4
  cases pl
  cases pu
  have I5 : Inv X pins σ H4 { s4 with heap := s4.heap.push { cls := .type "slice", data := .fields #[.none, .none, vs] } } := I4.kept (t' := s4.toks) fun b ob z => Heap.get?_push_of_some _ z
  obtain ⟨its, r, ht, hz⟩ := I5.tuple hx
  have hlen := r.length
  show wpAny (model X.prog X.w) X.A (subscriptTail e _ (.ref a) (.ref s4.heap.objs.size)) (EP X pins σ Q) X.xe { s4 with heap := s4.heap.push { cls := .type "slice", data := .fields #[.none, .none, vs] } }
  refine tail_any (ops := [.ref a, .ref s4.heap.objs.size]) ht.typeIs slot_tuple_getitem.lookup (getT_back ht (Heap.IsSliceOf.new _ _ _ vs) ps ?_ (by rw [List.size_toArray]; omega)) (by with_unfolding_all rfl)
  refine ⟨.ref _, _, I5.laid (t' := s4.toks) (o := .tup xs.reverse) (fun b ob z => Heap.get?_push_of_some _ z) (Nat.le_refl _) ⟨by rw [List.length_reverse]; exact hz, its.reverse, r.reverse, IsTup.new _ _⟩, rfl, q _ (I5.hok.fresh (Nat.le_refl _))⟩
end Wp
end
section
set_option Elab.async false
set_option linter.all false
set_option maxRecDepth 100000
set_option maxHeartbeats 4000000
namespace Wp
open PySem PySem.Spec PyProof.Rows L2
/-! ### sorting tuples of ints of any lengths -/
section
variable {prog : Program} {w : World} {A : Around} {E : Value → Shared → Prop} {s : Shared}
theorem kat_lex {b fin : Bool} {Q : Bool → Shared → Prop} : ∀ (us ws : List Value) (ns ms : List Int) (i : Nat), IntsAre us ns → IntsAre ws ms → fin = decide (ns.length < ms.length) → Q (HT.lexLt ns ms) s →
    PySem.W.KatLex prog w A b fin Q (us.zip ws) i s := by
  intro us ws ns ms i h1
  induction h1 generalizing ws ms i with
  | nil =>
    intro h2 hf hq
    rw [List.zip_nil_left]
    refine PySem.W.kat_nil ?_
    cases h2 with
    | nil => rw [hf]; exact hq
    | cons c u h2 => rw [hf]; exact hq
  | cons a t h1 ih =>
    intro h2 hf hq
    cases h2 with
    | nil =>
      rw [List.zip_nil_right]
      refine PySem.W.kat_nil ?_
      rw [hf]; exact hq
    | cons c u h2 =>
      rw [List.zip_cons_cons]
      refine PySem.W.kat_cons (wpAny_eqBool_int (PySem.W.kat_go (fun e => PySem.W.kat_yes ?_) fun e => PySem.W.kat_no ?_))
      · have ec : a = c := by simpa using e
        rw [HT.lexLt_cons, if_pos ec] at hq
        exact ih _ _ _ h2 (by rw [hf]; simp only [List.length_cons, Nat.add_lt_add_iff_right]) hq
      · have ec : ¬ a = c := by simpa using e
        rw [HT.lexLt_cons, if_neg ec] at hq
        exact oneLt_any_int hq
/-- what the machine takes for a tuple's first item -/
def FstOf (h : Heap) (v : Value) (o : Option Value) : Prop := ∃ a items, v = .ref a ∧ IsTup h a items ∧ o = items[0]? ∧ ∀ f, o = some f → ∃ n t, f = .int n t
theorem fsts {h : Heap} : ∀ (vs : List Value), (∀ v ∈ vs, ∃ ns, TS.TupInts h v ns) → ∃ os, Paired (FstOf h) vs os
  | [], _ => ⟨[], .nil⟩
  | v :: vs, hv => by
    obtain ⟨os, r⟩ := fsts vs fun u hu => hv u (List.mem_cons_of_mem _ hu)
    obtain ⟨ns, a, items, e, ht, hi⟩ := hv v List.mem_cons_self
    refine ⟨items[0]? :: os, .cons ⟨a, items, e, ht, rfl, fun f ef => ?_⟩ r⟩
    rw [← Array.getElem?_toList] at ef
    cases hl : items.toList with
    | nil => rw [hl] at ef; cases ef
    | cons x r =>
      rw [hl] at ef hi
      have ef : x = f := Option.some.inj ef
      subst ef
      cases hi with
      | cons n t _ => exact ⟨n, t, rfl⟩
theorem fst_mapM {M : Model} {Q : List (Option Value) → Shared → Prop} : ∀ {vs : List Value} {os : List (Option Value)}, Paired (FstOf s.heap) vs os → Q os s → wpAny M A (vs.mapM firstOfTuple') Q E s := by
  intro vs os r
  induction r generalizing Q with
  | nil => intro h; rw [List.mapM_nil]; exact wpAny_pure h
  | @cons v o vs os hv _ ih =>
    intro h
    obtain ⟨a, items, rfl, ⟨ob, ho, hc, n, hd⟩, eo, _⟩ := hv
    rw [List.mapM_cons]
    refine wpAny_bind ?_
    rw [PySem.W.kas_first_eq]
    refine wpAny_bind (PySem.W.Looks.here (show PySem.W.Looks M s.heap (typeOf (.ref a)) ob.cls from (PySem.W.Looks.ld ho).andThen .now) ?_)
    rw [hc, if_neg (by first | decide | simp)]
    refine wpAny_bind (listItems_at ho hd (wpAny_pure ?_))
    rw [← eo]
    exact wpAny_bind (ih (Q := fun bs s' => wpAny M A (pure (o :: bs)) Q E s') (wpAny_pure h))
theorem katT_of {h : Heap} : ∀ {vs : List Value} {os : List (Option Value)}, Paired (FstOf h) vs os → (∀ o ∈ os, o.isSome = true) → ∃ fs, PySem.W.KatTups h vs fs ∧ fs.length = vs.length ∧ ∀ f ∈ fs, ∃ n t, f = Value.int n t := by
  intro vs os r
  induction r with
  | nil => exact fun _ => ⟨[], PySem.W.KatTups.nil, rfl, fun f hf => by cases hf⟩
  | @cons v o vs os hv _ ih =>
    intro hs
    obtain ⟨fs, k1, k2, k3⟩ := ih fun z hz => hs z (List.mem_cons_of_mem _ hz)
    obtain ⟨a, items, rfl, ⟨ob, ho, hc, n, hd⟩, eo, hf⟩ := hv
    obtain ⟨f, ef⟩ := Option.isSome_iff_exists.mp (hs o List.mem_cons_self)
    refine ⟨f :: fs, PySem.W.KatTups.cons ho hc hd (by rw [← eo, ef]) k1, by rw [List.length_cons, List.length_cons, k2], fun g hg => ?_⟩
    rcases List.mem_cons.mp hg with rfl | hg
    · exact hf _ ef
    · exact k3 g hg
def ltV (h : Heap) (u v : Value) : Bool := HT.lexLt (TS.intsOf h u) (TS.intsOf h v)
theorem ltV_swo (h : Heap) : SrtO.Swo (ltV h) := NtL.swo_lexL fun u => TS.intsOf h u
theorem tup_lt {h : Heap} {u v : Value} {ns ms : List Int} {Q : Value → Shared → Prop} (hu : A.units < cLine) (x : TS.TupInts s.heap u ns) (y : TS.TupInts s.heap v ms) (q : Q (.bool (HT.lexLt ns ms)) s) : wpAny (model prog w) A (compareOp .Lt u v) Q E s := by
  obtain ⟨a, xs, rfl, tx, ix⟩ := x
  obtain ⟨b, ys, rfl, ty, iy⟩ := y
  exact HT.lt_tupInts tx ty ix iy hu q
theorem tup_callLt {u v : Value} {ns ms : List Int} {Q : Value → Shared → Prop} (x : TS.TupInts s.heap u ns) (y : TS.TupInts s.heap v ms) (q : Q (.bool (HT.lexLt ns ms)) s) : wpAny (model prog w) A (call (.builtin "tuple.__lt__") [u, v]) Q E s := by
  obtain ⟨a, xs, rfl, ⟨⟨cls, dd, data, sl⟩, ho, hc, n, hd⟩, ix⟩ := x
  obtain ⟨b, ys, rfl, ⟨⟨cls2, dd2, data2, sl2⟩, ho2, hc2, n2, hd2⟩, iy⟩ := y
  simp only at hc hd hc2 hd2
  subst hc hd hc2 hd2
  exact call_meets PySem.F.slot_tuple_lt ⟨_, ho, rfl⟩ PySem.F.entry_tuple_lt (PySem.F.args_tuple_lt_2 _ _) (HT.tuple_lt_ints a b xs ys n n2 dd dd2 sl sl2 ns ms ix iy) ⟨ho, ho2, q⟩
theorem tup_type {u : Value} {ns : List Int} (x : TS.TupInts s.heap u ns) : s.TypeIs u "tuple" := by
  obtain ⟨a, xs, rfl, ⟨o, ho, hc, _⟩, _⟩ := x
  exact ⟨o, ho, hc⟩
theorem cmp_kinds {vs : List Value} {h0 : Heap} (hu : A.units < cLine) (hv : ∀ v ∈ vs, TS.TupInts s.heap v (TS.intsOf h0 v)) (κ : SortKind) (hκ : κ = tuples' true ∨ κ = general' ∨ κ = oneType') :
    SrtO.Cmp prog w A s κ (fun p => p.1 ∈ vs) (SrtO.lt2 (ltV h0)) := by
  intro p q hp hq
  have x := hv p.1 hp
  have y := hv q.1 hq
  show wpAny (model prog w) A (keyLt' κ p.1 q.1) (fun r s' => s' = s ∧ r = ltV h0 p.1 q.1) (fun _ _ => False) s
  unfold ltV
  revert x y
  generalize p.1 = pu
  generalize q.1 = qu
  intro x y
  rcases hκ with e | e | e
  · subst e
    obtain ⟨a, xs, rfl, ⟨o, ho, hc, n, hd⟩, ix⟩ := x
    obtain ⟨b, ys, rfl, ⟨o2, ho2, hc2, n2, hd2⟩, iy⟩ := y
    refine PySem.W.kat_lt ho hd ho2 hd2 (kat_lex _ _ _ _ 0 ix iy ?_ ⟨rfl, rfl⟩)
    have z1 : xs.size = (TS.intsOf h0 (.ref a)).length := by rw [← ix.length]; simp
    have z2 : ys.size = (TS.intsOf h0 (.ref b)).length := by rw [← iy.length]; simp
    rw [z1, z2]
  · subst e
    show wpAny (model prog w) A (oneLt' false pu qu) _ _ s
    exact PySem.W.kat_one _ _ (tup_lt (h := h0) hu x y ⟨rfl, rfl⟩)
  · subst e
    rw [keyLt'_oneType, oneLt'_eq]
    simp only [if_true]
    refine wpAny_bind (wpAny_cRoomFor hu (wpAny_bind (wpAny_callSpecialIfBound?_slot (tup_type x) PySem.F.slot_tuple_lt (tup_callLt x y ?_))))
    exact wpAny_truthy_bool ⟨rfl, rfl⟩
theorem tups_sortable {a : Addr} {vs : List Value} (h2 : 2 ≤ vs.length) (hu : A.units < cLine) (hv : ∀ v ∈ vs, ∃ ns, TS.TupInts s.heap v ns) (ha : ∀ o, s.heap.get? a = some o → o.cls ≠ .type "tuple") : SrtO.SortableO prog w A s a vs (ltV s.heap) := by
  intro h' keep
  have kp : ∀ b o, s.heap.get? b = some o → o.cls = .type "tuple" → h'.get? b = some o := fun b o e c => keep b o (fun z => by subst z; exact ha o e c) e
  have hv0 : ∀ v ∈ vs, TS.TupInts h' v (TS.intsOf s.heap v) := fun v hm => by
    obtain ⟨ns, x⟩ := hv v hm
    rw [x.ints]
    exact x.keeps kp
  obtain ⟨os, r⟩ := fsts (h := h') vs fun v hm => ⟨_, hv0 v hm⟩
  have hl : os.length = vs.length := (Paired.length r).symm
  by_cases all : ∀ o ∈ os, o.isSome = true
  · obtain ⟨fs, k1, k2, k3⟩ := katT_of r all
    refine ⟨tuples' true, fun Q E hq => ?_, cmp_kinds (s := { s with heap := h' }) hu hv0 _ (.inl rfl)⟩
    refine PySem.W.kat_kind (s := { s with heap := h' }) (T := .type "int") k1 (by omega) (fun f hm => ?_) (by rfl) ?_
    · obtain ⟨n, t, rfl⟩ := k3 f hm
      exact PySem.W.Looks.now
    · have e : (Value.type "int" != Value.type "tuple") = true := by first | decide +kernel | rfl | decide
      rw [e]
      exact hq
  · have nall : ¬ (os.toArray.all fun o => o.isSome) = true := fun z => all fun o ho => by
      have z' := Array.all_eq_true_iff_forall_mem.mp z o (by simpa using ho)
      exact z'
    obtain ⟨κ, eκ⟩ : ∃ κ, κ = if ((os.toArray[0]?).bind id).isSome = true then general' else oneType' := ⟨_, rfl⟩
    refine ⟨κ, fun Q E hq => ?_, cmp_kinds (s := { s with heap := h' }) hu hv0 κ ?_⟩
    · rw [keyKind'_eq, List.mapM_toArray, map_eq_pure_bind]
      refine wpAny_bind (wpAny_bind (fst_mapM (s := { s with heap := h' }) r (wpAny_pure ?_)))
      rw [if_neg nall]
      by_cases c : ((os.toArray[0]?).bind id).isSome = true
      · rw [if_pos c] at eκ ⊢
        rw [← eκ]
        exact wpAny_pure hq
      · rw [if_neg c] at eκ ⊢
        obtain ⟨v1, rest, ev⟩ : ∃ v1 rest, vs = v1 :: rest := by
          cases vs with
          | nil => simp at h2
          | cons v1 rest => exact ⟨v1, rest, rfl⟩
        rw [oneTypeOnly'_eq, List.mapM_toArray, map_eq_pure_bind]
        refine wpAny_bind (wpAny_bind (wpAny_bind (PySem.W.kas_mapM (r := Value.type "tuple") _ (fun v hm Q' q' => wpAny_typeOf (tup_type (s := { s with heap := h' }) (hv0 v hm)) q') (wpAny_pure ?_))))
        rw [ev]
        have h0 : (List.map (fun _ => Value.type "tuple") (v1 :: rest)).toArray[0]? = some (Value.type "tuple") := by simp
        have hall : ((List.map (fun _ => Value.type "tuple") (v1 :: rest)).toArray.all fun x => x == Value.type "tuple") = true := by
          simp only [List.all_toArray, List.all_map, List.all_eq_true]
          intro _ _
          rfl
        rw [h0]
        simp only [hall, if_true]
        refine wpAny_pure (wpAny_pure ?_)
        rw [eκ] at hq
        exact hq
    · rw [eκ]
      split
      · exact .inr (.inl rfl)
      · exact .inr (.inr rfl)
end
end Wp
end
section
set_option Elab.async false
set_option linter.all false
set_option maxRecDepth 100000
set_option maxHeartbeats 4000000
namespace Wp
open PySem PySem.Spec PyProof.Rows L2
/-! ### sorted(d), d a dict whose keys are tuples of ints -/
def unI : V → Int
  | .int i => i
  | _ => 0
def intsAt (H : Hp) (b : Addr) : List Int := match H b with
  | some (.tup xs) => xs.map unI
  | _ => []
theorem intsAt_of {H : Hp} {b : Addr} {k : List Int} (h : H b = some (.tup (k.map V.int))) : intsAt H b = k := by
  unfold intsAt
  rw [h]
  show (k.map V.int).map unI = k
  rw [List.map_map]
  conv => rhs; rw [← List.map_id k]
  exact List.map_congr_left fun i _ => rfl
def adr : Value → Addr
  | .ref a => a
  | _ => 0
theorem adr_map (bs : List Addr) : (bs.map Value.ref).map adr = bs := by
  rw [List.map_map]
  conv => rhs; rw [← List.map_id bs]
  exact List.map_congr_left fun i _ => rfl
theorem kV_ints (k : List Int) : (k.map (Sum.inl : Int → Key)).map kV = k.map V.int := by
  rw [List.map_map]
  exact List.map_congr_left fun i _ => rfl
theorem keys_pair {P : Program} {w : World} {H : Hp} : ∀ {kvs : List (List Key × V)} {xs : List (List Key × Addr × Value)} {ks : List (List Int)},
    Paired (fun (p : List Key × V) (q : List Key × Addr × Value) => p.1 = q.1 ∧ H q.2.1 = some (.tup (p.1.map kV)) ∧ RelV p.2 q.2.2) kvs xs → kvs.map (·.1) = ks.map (fun k => k.map Sum.inl) →
    ks = (xs.map fun x => x.2.1).map (intsAt H) ∧ ∀ b ∈ xs.map (fun x => x.2.1), H b = some (.tup ((intsAt H b).map V.int)) := by
  intro kvs xs ks r
  induction r generalizing ks with
  | nil =>
    intro e
    cases ks with
    | nil => exact ⟨rfl, fun b hb => by cases hb⟩
    | cons k ks => cases e
  | @cons p q kvs xs h _ ih =>
    intro e
    cases ks with
    | nil => cases e
    | cons k ks =>
      rw [List.map_cons, List.map_cons] at e
      obtain ⟨e1, e2⟩ := List.cons.inj e
      obtain ⟨i1, i2⟩ := ih e2
      have hq : H q.2.1 = some (.tup (k.map V.int)) := by rw [h.2.1, e1, kV_ints]
      refine ⟨by rw [List.map_cons, List.map_cons, intsAt_of hq, ← i1], fun b hb => ?_⟩
      rcases List.mem_cons.mp hb with rfl | hb
      · rw [intsAt_of hq]; exact hq
      · exact i2 b hb
theorem paired_map {α β : Type} {F : α → β → Prop} {f : β → α} : ∀ {bs : List β}, (∀ b ∈ bs, F (f b) b) → Paired F (bs.map f) bs
  | [], _ => .nil
  | b :: bs, h => .cons (h b List.mem_cons_self) (paired_map fun c hc => h c (List.mem_cons_of_mem _ hc))
def rSortDT : List V → Hp → VK → Prop := fun xs H Q => ∃ (d : Addr) (kvs : List (List Key × V)) (ks : List (List Int)), xs = [V.ref d] ∧ Rd H d (.dT kvs) ∧ kvs.map (·.1) = ks.map (fun k => k.map Sum.inl) ∧
  ∀ (p : Addr) (ys : List (List Int)) (bs : List Addr), H p = none → ys.Perm ks → Paired (fun (k : List Int) b => H b = some (.tup (k.map V.int))) ys bs → Q (.ref p) (upd H p (.lst (bs.map V.ref)))
theorem cr_sortedDT {X : Cx} (hc : X.calm = true) (hu : X.A.units + 64 < cLine) : CallR X (.builtin "sorted") rSortDT := by
  intro pins s σ H xs us Q I r h
  obtain ⟨d, kvs, ks, rfl, hd, hks, q⟩ := h
  rw [Vals.ref1 r]
  obtain ⟨z, hs, zs, pr, o, es, ep, ho, hx, hdt, he, hn⟩ := (show ObjOk X.prog X.w H s.heap d (.dT kvs) from hd.ok I.hok)
  obtain ⟨ek, tk0⟩ := keys_pair (P := X.prog) (w := X.w) pr hks
  have l1 : es.size = zs.length := size_of_entries he
  have l2 : kvs.length = zs.length := Paired.length pr
  refine Calls.call_function_entry kind_sorted plain_sorted entry_sorted (args_sorted1 _) ?_
  unfold Builtin.«sorted»
  refine wpAny_bind (m := checkCount "sorted" 1 1 _) (wpAny_pure (wpAny_bind (PySem.W.kdu_collect (A := X.A.in1) (kdl_raw hs hx hdt) (I.ok.hd hc) ho (by omega) fun h' tk acc hk it => ?_)))
  have hl : acc.toList.length = zs.length := by rw [Array.length_toList, it.1]; exact l1
  have ea : acc.toList = (zs.map fun x => x.2.1).map Value.ref := by
    rw [List.map_map]
    apply List.ext_getElem?
    intro j
    rw [List.getElem?_map]
    cases hj : acc.toList[j]? with
    | none =>
      have g := List.getElem?_eq_none_iff.mp hj
      rw [List.getElem?_eq_none (by omega)]
      all_goals rfl
    | some v =>
      obtain ⟨en, hen, hv⟩ := it.2 j v (by rw [← Array.getElem?_toList]; exact hj)
      have qe := entry_at he j
      rw [hen] at qe
      cases hb : zs[j]? with
      | none => rw [hb] at qe; exact nomatch (show some en = none from qe)
      | some b =>
        rw [hb] at qe
        have eb : en = entryOfKey (tupleKind (mixKind X.prog X.w)) b := Option.some.inj qe
        rw [hv, eb]
        all_goals rfl
  have I1 : Inv X pins σ H { s with heap := h', toks := tk } := I.kept hk
  have hz : acc.toList.length ≤ sizeLine := by omega
  refine wpAny_bind (wpAny_newList ?_ hz)
  have hoL : (h'.push (seqObj "list" acc.toList.toArray 0)).get? h'.objs.size = some (seqObj "list" acc.toList.toArray 0) := Heap.get?_push_size _ rfl
  show wpAny _ _ _ _ _ { s with heap := h'.push (seqObj "list" acc.toList.toArray 0), toks := tk }
  have tups : ∀ v ∈ acc.toList, ∃ ns, TS.TupInts (h'.push (seqObj "list" acc.toList.toArray 0)) v ns := fun v hv => by
    rw [ea] at hv
    obtain ⟨b, hb, rfl⟩ := List.mem_map.mp hv
    obtain ⟨its, rv, ht, _⟩ := I1.tuple (SqT.of (K := X.K) (tk0 b hb))
    exact ⟨_, TS.TupInts.keeps ⟨b, its.toArray, rfl, ht, by simpa using rv.ints⟩ fun c oc e _ => Heap.get?_push_of_some _ e⟩
  refine wpAny_bind (wpAny_holding (wpAny_call_entry slot_list_sort ⟨_, hoL, rfl⟩ entry_list_sort
    (SrtO.list_sort_ord (s := { s with heap := h'.push (seqObj "list" acc.toList.toArray 0), toks := tk }) (ltV_swo (h'.push (seqObj "list" acc.toList.toArray 0))) hoL hz
      (fun h2 => tups_sortable (s := { s with heap := h'.push (seqObj "list" acc.toList.toArray 0), toks := tk }) h2 (by show X.A.units + 1 + 1 < cLine; omega) tups fun ob e => ?_) fun out hs hb => ⟨_, rfl, ?_⟩) (args_list_sort _)))
  · have e' : some ob = some (seqObj "list" acc.toList.toArray 0) := e.symm.trans hoL
    cases e'
    intro c
    exact absurd (Value.type.inj c) (by decide)
  · have hp : out.Perm ((zs.map fun x => x.2.1).map Value.ref) := by rw [← ea]; exact hb.perm
    have eo : out = (out.map adr).map Value.ref := by
      rw [List.map_map]
      conv => lhs; rw [← List.map_id out]
      refine List.map_congr_left fun v hv => ?_
      obtain ⟨b, _, rfl⟩ := List.mem_map.mp (hp.mem_iff.mp hv)
      rfl
    have hp2 : (out.map adr).Perm (zs.map fun x => x.2.1) := by
      have := hp.map adr
      rwa [adr_map] at this
    obtain ⟨e', he'⟩ := sortedHeap_at (vs := acc.toList) (out := out.toArray) hoL
    have ol : ((out.map adr).map V.ref).length ≤ sizeLine := by rw [List.length_map, hp2.length_eq, List.length_map]; omega
    have rvo : Vals ((out.map adr).map V.ref) out := by
      have z := vals_refs (out.map adr)
      rw [← eo] at z
      exact z
    refine wpAny_pure ⟨_, rfl, .ref h'.objs.size, upd H h'.objs.size (.lst ((out.map adr).map V.ref)), I1.laid (t' := tk) (fun b u e => ?_) (Nat.le_refl _)
      (show ObjOk X.prog X.w _ _ _ (.lst ((out.map adr).map V.ref)) from ⟨ol, out, e', rvo, he'⟩), rfl, q _ ((out.map adr).map (intsAt H)) _ (I1.hok.fresh (Nat.le_refl _)) (by rw [ek]; exact hp2.map _) (paired_map fun b hb => tk0 b (hp2.mem_iff.mp hb))⟩
    have hb : b < h'.objs.size := Heap.lt_size e
    rw [sortedHeap_old (Nat.ne_of_lt hb) (by rw [size_push']; exact Nat.lt_succ_of_lt hb)]
    exact Heap.get?_push_of_some _ e
end Wp
end
section
set_option Elab.async false
set_option linter.all false
set_option maxRecDepth 100000
set_option maxHeartbeats 4000000
namespace Wp
open PySem PySem.Spec PyProof.Rows L2
/-! ### defs that show (repr): a promise where nothing else is being shown -/
structure FnG (P : Program) (w : World) (K : PySem.W.Frag) (mg : Str → Option Value) (base : Heap) (k : Nat) (f : Addr) (fd : FuncData) (ps : List Str) (sp : Sp) : Prop where
  len : ∀ vs H Q E, sp vs H Q E → vs.length = ps.length
  run : ∀ (A : Around) (fr : List Env) (s : Shared) (H : Hp) (args : Args) (us : List Value) (vs : List V) (Q : VK), A.guards = some [] → Room k A → Env0 P w K mg base A fr s H → BindsTo s fd args (ps.zip us) → Vals vs us → sp vs H Q E0 →
    codeAny (model P w) A (.call (.ref f) args) (CR CX0 fr P w H s Q E0) s
section
variable {P : Program} {w : World} {K : PySem.W.Frag} {mg : Str → Option Value} {base : Heap} {x qual : Str} {params : Arguments} {body : List Stmt} {scope : Scope} {dvs : List V} {kws : List (Str × V)} {f : Addr} {fd : FuncData}
theorem fnG_of {N ps : List Str} {k : Nat} {sp : Sp} (F : FunD K x qual params body scope dvs kws f fd) (S : FnScope N ps scope) (len : ∀ vs H Q E, sp vs H Q E → vs.length = ps.length)
    (hbody : ∀ (cdv : Value) (A : Around) (fr : List Env) (s : Shared) (H : Hp) (vs : List V) (Q : VK), (A.deeper (envOfC qual scope s.heap.objs.size f cdv)).guards = some [] → Room k (A.deeper (envOfC qual scope s.heap.objs.size f cdv)) → sp vs H Q E0 →
      ∃ t, PSs (cxOf CX0 P w K mg base N qual scope f cdv A fr s H E0).nox body t ∧ t { nx := fun _ H' => Q .non H', rt := Q } (start N vs) H) : FnG P w K mg base (k + 1) f fd ps sp := by
  obtain ⟨oc, od, dV, kV, doc, pm, an, cdv, ct, osl, rfl, lk, hcd, _, _⟩ := F.ex
  refine ⟨len, fun A fr s H args us vs Q gg hr en bd rv hs => ?_⟩
  have hlen := len _ _ _ _ hs
  have kk : K.In s.heap := en.mod.kin.keeps fun b o z => (en.bs b o z).1
  have nol : s.heap.NoLimit := en.mod.nolimit.keeps fun b o z => (en.bs b o z).1
  have kinds : ∀ y ∈ ps.zip us, scope.names.lookup y.1 = some .local ∨ (scope.names.lookup y.1 = some .cell ∧ ((cellsFrom (s.heap.objs.size + 1) scope.names []).lookup y.1).isSome = true) := fun ⟨n, v⟩ hy => by
    rcases S.par n (List.of_mem_zip hy).1 with z | z
    · exact .inl z
    · exact .inr ⟨z, PySem.W.cellsFrom_some _ _ _ (.inl z)⟩
  refine codeAny_call_function hr.depth (kk _ _ lk) rfl S.co S.gen rfl (PySem.W.codeRec_of kk hcd) (bd _ _ _ _ (wpAny_newFunctionEnv_cells S.kind kinds fun env he s1 ic => ?_))
  subst he
  refine ⟨nol.keeps ic.toInCall.keep, codeAny_func ?_⟩
  obtain ⟨t, ht, hq⟩ := hbody cdv A fr s H vs Q gg (hr.deeper _) hs
  have I : Inv (cxOf CX0 P w K mg base N qual scope f cdv A fr s H E0) [] (start N vs) H s1 := inv_start S hr.hd en hlen rv ic
  refine wpAny_mono (ht.nox.run [] s1 (start N vs) H _ I hq) (fun fl s' z => ?_) fun e s' z => z
  cases fl with
  | ret u =>
    obtain ⟨v, σ', H', J, rr, q⟩ := z
    exact ⟨v, H', J.os, J.bare, J.base, J.hok, rr, q⟩
  | next =>
    obtain ⟨σ', H', J, q⟩ := z
    exact ⟨V.non, H', J.os, J.bare, J.base, J.hok, rfl, q⟩
  | brk => exact z.elim fun _ z => z.elim fun _ z => False.elim z.2
  | cont => exact z.elim fun _ z => z.elim fun _ z => False.elim z.2
end
section
variable {X : Cx} {k : Nat} {f : Addr} {fd : FuncData} {ps : List Str} {sp : Sp} {x : Str} {p pos : Pos} {e : Expr} {es : List Expr} {t : TA}
/-- f(e, ..) of such a def -/
theorem pe_callG (F : FnG X.prog X.w X.K X.mg X.base k f fd ps sp) (gg : X.A.guards = some []) (hr : Room k X.A) (hg : Gl X x) (hm : X.mg x = some (.ref f)) (hk : PySem.W.keepIn X.K (.ref f) = true) (hb : Binds X.K fd ps [])
    (ha : PA X (e :: es) t) (hdb : (x == ("__debug__" : Str)) = false := by decide) (he : starEach (e :: es) X.env = (false, eval e X.env) :: starEach es X.env := by rfl) (hpl : (backTo pos (starEach es X.env)).any (·.1) = false := by rfl) :
    PE X (.Call (.Name x p) (e :: es) [] pos) (fun σ H Q => t σ H fun vs H1 => sp vs H1 Q E0) := by
  refine ⟨fun pins s σ H Q I h => wpAny_Call_Name_kw (ld_glob I hg hm (PySem.W.callWith_K (h₀ := X.base) I.ok.mod.kin hk (thn (ha.run pos pins s σ H _ I h) fun us s1 ⟨vs, H1, I1, rv, q⟩ => ⟨I1.kIn, ?_⟩) he hpl) hdb)⟩
  have hlen : (us ++ []).length = ps.length := by rw [List.append_nil, ← rv.length]; exact F.len _ _ _ _ q
  have hbb := hb s1 us I1.kIn hlen
  rw [List.append_nil] at hbb
  refine wpAny_call (codeAny_mono (F.run X.A X.stack s1 H1 ⟨us, []⟩ us vs Q gg hr I1.env0 hbb rv q) fun r s' z => ?_)
  cases r with
  | error e => exact False.elim z
  | ok fl =>
    cases fl with
    | ret u => exact I1.after z
    | next => exact False.elim z
    | brk => exact False.elim z
    | cont => exact False.elim z
end
/-! ### the law at the head -/
theorem law_callG {P : Program} {w : World} {K : PySem.W.Frag} {mg mb : Str → Option Value} {k : Nat} {fa a : Addr} {fd : FuncData} {x : Str} {sp : Sp} {st : Shared} {vs : List Value} {ns : List Int}
    (kk : K.In st.heap) (hns : st.heap.Ns mainGlobals mg) (hb : st.heap.Ns builtinsNs mb) (hbb : ∀ x : Str, x ≠ "__name__" → mb x = bootBuiltins x) (lim : st.heap.NoLimit) (hg : st.gens = #[])
    (ha : st.heap.get? a = some { cls := .type "list", data := .seq vs.toArray }) (hi : IntsAre vs ns) (hl : ns.length ≤ sizeLine) (hr : Room k callerA)
    (F : ∀ base : Heap, K.In base → base.Ns mainGlobals mg → FnG P w K mg base k fa fd [x] sp) (bd : ∀ (s : Shared) (u : Value), BindsTo s fd ⟨[u], []⟩ [(x, u)])
    (hsp : ∀ H : Hp, Only H → SqL K H a (ns.map V.int) → sp [.ref a] H (fun v _ => v = .bl true) E0) :
    codeAny (model P w) callerA (.call (.ref fa) ⟨[.ref a], []⟩) (fun r s' => r = .ok (.ret (.bool true)) ∧ OldK st.heap s'.heap ∧ s'.os = st.os ∧ AllBare s'.gens) st := by
  have rv := vals_ints hi
  have main : ∀ H : Hp, Only H → SqL K H a (ns.map V.int) → HOk P w H st.heap → (∀ b, H b ≠ none → b = a) → (H a ≠ none → K.lookup a = none) →
      codeAny (model P w) callerA (.call (.ref fa) ⟨[.ref a], []⟩) (fun r s' => r = .ok (.ret (.bool true)) ∧ OldK st.heap s'.heap ∧ s'.os = st.os ∧ AllBare s'.gens) st := by
    intro H only sq ok oneA offK
    have dictN : ∀ {b : Addr} {o : Obj} {es : Array DictEntry} {ep : Nat}, st.heap.get? b = some o → o.data = .dict es ep → H b = none := fun {b o es ep} g d => by
      cases z : H b with
      | none => rfl
      | some u =>
        have ba : b = a := oneA b (by rw [z]; simp)
        subst ba
        rw [ha] at g
        cases g
        exact nomatch (show Data.seq vs.toArray _ = Data.dict es ep from d)
    have nsH : ∀ {b : Addr} {m : Str → Option Value}, st.heap.Ns b m → (hidT st.heap H).Ns b m := fun {b m} ⟨o, es, ep, g, d, r⟩ => ⟨o, es, ep, hidT_get g (dictN g d), d, r⟩
    have kH : K.In (hidT st.heap H) := fun b o g => hidT_get (kk b o g) (by
      cases z : H b with
      | none => rfl
      | some u =>
        have ba : b = a := oneA b (by rw [z]; simp)
        subst ba
        rw [offK (by rw [z]; simp)] at g
        cases g)
    have hM : Mod K mg (hidT st.heap H) := ⟨kH, nsH hns, ⟨mb, nsH hb, hbb⟩, let ⟨mc, c1, c2⟩ := lim; ⟨mc, nsH c1, c2⟩⟩
    have en : Env0 P w K mg (hidT st.heap H) callerA [] st H := ⟨rfl, hM, fun b o g => of_hidT g, Nat.le_of_eq (hidT_size _ _), trivial, fun b hb => absurd (show b ∈ ([] : List Addr) from hb) (by simp), ok, .of_eq hg⟩
    refine codeAny_mono ((F _ kH (nsH hns)).run callerA [] st H ⟨[.ref a], []⟩ [.ref a] [.ref a] _ rfl hr en (bd st (.ref a)) (.cons rfl .nil) (hsp H only sq)) fun r s' z => ?_
    cases r with
    | error e => exact False.elim z
    | ok fl =>
      cases fl with
      | next => exact False.elim z
      | brk => exact False.elim z
      | cont => exact False.elim z
      | ret u =>
        obtain ⟨v, H', os, bare, un, ok', rr, q⟩ := z
        have q' : v = .bl true := q
        subst q'
        obtain rfl : u = Value.bool true := rr
        refine ⟨rfl, OldK.of_keep fun b o g => ?_, os, bare⟩
        cases hH : H b with
        | none => exact un.keep b o g hH (fun c => absurd (show b ∈ ([] : List Addr) from c) (by simp)) (by simp)
        | some u =>
          rcases only b with c | ⟨ob, xs, c⟩
          · rw [hH] at c; cases c
          · obtain ⟨g1, _⟩ := ok b _ c
            obtain ⟨g2, _⟩ := ok' b _ (un.frzs b ob _ c)
            rw [g] at g1
            cases g1
            exact g2
  cases hk : K.lookup a with
  | some o =>
    have g := kk a o hk
    rw [ha] at g
    cases g
    exact main (fun _ => none) (fun _ => .inl rfl) (.inr ⟨_, vs.toArray, _, hk, rfl, rfl, rfl, by rw [List.size_toArray, hi.length]; exact hl, by simpa using rv⟩) (fun b u z => nomatch (show (none : Option HO) = some u from z)) (fun b z => absurd rfl z) fun z => absurd rfl z
  | none =>
    refine main (fun b => if b = a then some (.frz { cls := .type "list", data := .seq vs.toArray } (.lst (ns.map V.int))) else none) (fun b => ?_) (.inl (.inr ⟨{ cls := .type "list", data := .seq vs.toArray }, if_pos rfl⟩)) (fun b u z => ?_) (fun b z => ?_) fun _ => hk
    · by_cases c : b = a
      · exact .inr ⟨_, _, if_pos c⟩
      · exact .inl (if_neg c)
    · by_cases c : b = a
      · have z' := (if_pos c).symm.trans z
        cases z'
        subst c
        exact ⟨ha, by rw [List.length_map]; exact hl, vs, _, rv, ha⟩
      · have z' := (if_neg c).symm.trans z
        cases z'
    · by_cases c : b = a
      · exact c
      · exact absurd (if_neg c) z
theorem walk_ofG {l : PySem.W.OpenLaw} {n k : Nat} {q : Program} {loose : List Str} {XP : (Str → Option Value) → Heap → Prop} {YP : World → Heap → Prop} {d : DefRec} {x : Str}
    (hn : l.most = some n) (hn2 : n ≤ sizeLine) (hdf : d.params.defaults = []) (hr : Room k callerA)
    (F : ∀ (w : World) (mg : Str → Option Value) (fa : Addr) (h : Heap), YP w h → h.Ns mainGlobals mg → mg d.name = some (.ref fa) →
      ∃ (K : PySem.W.Frag) (fd : FuncData) (sp : Sp), K.In h ∧ (∀ (s : Shared) (u : Value), BindsTo s fd ⟨[u], []⟩ [(x, u)]) ∧
        (∀ (H : Hp) (a : Addr) (ns : List Int), ns.length ≤ n → Only H → SqL K H a (ns.map V.int) → sp [.ref a] H (fun v _ => v = .bl true) E0) ∧ ∀ base : Heap, K.In base → base.Ns mainGlobals mg → FnG l.prog w K mg base k fa fd [x] sp) :
    PySem.W.WalkO q loose XP YP l.row.toRowW d [] (fun f vs => PySem.call f vs) := by
  refine Att.attach_call hn hdf fun w s0 st mg mb fa o pm cd doc a vs ns G Y ho hd hcd hmg hobj hints hlen hg => ?_
  obtain ⟨K, fd, sp, kk, bd, hsp, hF⟩ := F w mg fa _ Y G.T.g hmg
  exact law_callG kk G.T.g G.T.b G.T.builtins G.T.nolimit hg hobj hints (Nat.le_trans hlen hn2) hr hF bd fun H hO hS => hsp H a ns hlen hO hS
end Wp
end
section
set_option Elab.async false
set_option linter.all false
set_option maxRecDepth 100000
set_option maxHeartbeats 4000000
namespace Wp
open PySem PySem.Spec PyProof.Rows L2
/-! ### for i, x in enumerate(t), t a tuple -/
theorem enum_new1 {v : Value} {o : Obj} {H : Heap → Prop} (B : Begins v o H) : Meets (Builtin.«enumerate.__new__» ⟨[.type "enumerate", v], []⟩) (fun _ R s => H s.heap ∧
    R (.ok (.ret (.ref (s.heap.push o).objs.size))) { s with heap := (s.heap.push o).push { cls := .type "enumerate", data := .fields #[.none, .bool false, .ref s.heap.objs.size, rawInt 0, .none, .none] } }) :=
  .of_wp fun prog w A R s h => by
    obtain ⟨hp, gs, dr, tks, oss⟩ := s
    obtain ⟨c1, h⟩ := h
    have hsub := sub_enumerate
    have go : ∀ {A' : Around} {E : Value → Shared → Prop} {Q : Value → Shared → Prop}, Q (.ref hp.objs.size) ⟨hp.push o, gs, dr, tks, oss⟩ → wpAny (model prog w) A' (pyIter v) Q E ⟨hp, gs, dr, tks, oss⟩ := fun z => B.iter prog w _ _ ⟨hp, gs, dr, tks, oss⟩ _ c1 z
    wp_walk using go
    refine wpAny_stack_any fun st => wpAny_pure ?_
    split
    · rename_i c _ _ _ _ _
      cases (c == Value.type "enumerate")
      · wp_walk using go
        exact ⟨_, rfl, h⟩
      · wp_walk using go
        exact ⟨_, rfl, h⟩
    · wp_walk using go
      exact ⟨_, rfl, h⟩
section
variable {prog : Program} {w : World} {A : Around} {E : Value → Shared → Prop} {s : Shared}
theorem enum_call1 {v : Value} {o : Obj} {H : Heap → Prop} {Q : Value → Shared → Prop} (B : Begins v o H) (c1 : H s.heap)
    (h : ∀ h', IsEnum h' (s.heap.objs.size + 1) s.heap.objs.size 0 .none → h'.get? s.heap.objs.size = some o → (∀ b o, s.heap.get? b = some o → h'.get? b = some o) → Q (.ref (s.heap.objs.size + 1)) { s with heap := h' }) :
    wpAny (model prog w) A (call (.type "enumerate") [v]) Q E s := by
  refine callType_new F.called_enumerate (by decide) (F.typeCall_enumerate_1 _) (F.newCall_enumerate_1 _) (fun obj => F.args_object_init_2 obj _) F.entry_enumerate_new (enum_new1 B) ⟨c1, ?_⟩
  have hz : (s.heap.push o).objs.size = s.heap.objs.size + 1 := Heap.size_push ..
  show _ ∧ _
  rw [hz]
  have hn : IsEnum ((s.heap.push o).push { cls := .type "enumerate", data := .fields #[.none, .bool false, .ref s.heap.objs.size, rawInt 0, .none, .none] }) (s.heap.objs.size + 1) s.heap.objs.size 0 .none := by
    have z := Heap.get?_push_size (s.heap.push o) (o := { cls := .type "enumerate", data := .fields #[.none, .bool false, .ref s.heap.objs.size, rawInt 0, .none, .none] }) rfl
    rw [hz] at z; exact z
  exact ⟨⟨_, hn, rfl⟩, h _ hn (Heap.get?_push_of_some _ (Heap.get?_push_size _ B.free)) fun b o x => Heap.get?_push_of_some _ (Heap.get?_push_of_some _ x)⟩
end
def IteT (K : PySem.W.Frag) (a : Addr) : It :=
  ⟨fun i H => ∃ (xs : List V) (x : V), SqT K H a xs ∧ xs[i]? = some x, fun i H v H' => ∃ T x, v = .ref T ∧ H T = none ∧ H' = upd H T (.tup [.int (i : Nat), x]) ∧ ∀ xs, SqT K H a xs → xs[i]? = some x, fun i H => ∃ xs : List V, SqT K H a xs ∧ xs.length ≤ i⟩
theorem turn_enumT {P : Program} {w : World} {K : PySem.W.Frag} {elts : List Expr} {kk : Nat} {tpos : Pos} (a e it : Addr) :
    Turn P w K (.Tuple elts kk tpos) (IteT K a) [e, it] e (fun i h => (∃ old, IsEnum h e it ((i : Nat) : Int) old) ∧ h.IsTupleIter it a i ∧ e ≠ it ∧ a ≠ it ∧ e ≠ a) where
  mem := by simp
  obj := fun i h st b hb => by
    obtain ⟨⟨old, he⟩, ⟨o, ho, hc, hd⟩, _⟩ := st
    rcases (show b = e ∨ b = it by simpa using hb) with z | z
    · rw [z]; exact ⟨_, he, fun v q => nomatch q⟩
    · rw [z]; exact ⟨o, ho, fun v q => by rw [hd] at q; cases q⟩
  keep := fun i h h' st k => let ⟨⟨old, he⟩, hi, hne⟩ := st; ⟨⟨old, k e (by simp) _ he⟩, hi.at fun o q => k it (by simp) o q, hne⟩
  item := by
    intro X hP hw hK hc i pins s σ H E I hf st hg
    subst hP hw hK
    obtain ⟨⟨old, he⟩, hit, hne, hai, hea⟩ := st
    obtain ⟨xs, x, hq, hx⟩ := hg
    obtain ⟨its, rv, p, hz⟩ := I.tuple hq
    obtain ⟨u, hu, ru⟩ := rv.get hx
    have tt : s.heap.IsTuple a its.toArray := p
    have el : e < s.heap.objs.size := Heap.lt_size he
    have il : it < s.heap.objs.size := by obtain ⟨_, q, _⟩ := hit; exact Heap.lt_size q
    have hi : i < its.toArray.size := by
      have := (List.getElem?_eq_some_iff.mp hu).1
      simpa using this
    have hh : X.A.in1.handled = none := I.ok.hd hc
    refine wpAny_pyNext_enum_itemD (Draws.tuple hh it a hai its.toArray) he ⟨hit, tt⟩ hi hne (by simp [hne, hea]) fun y h' tk py ho st' hT hsz hk => ?_
    have ey : y = u := by
      have z : its.toArray[i]? = some u := by simpa using hu
      exact Option.some.inj (py.symm.trans z)
    subst ey
    refine ⟨_, rfl, wpAny_letOwnedTupleGo_enum (s := { s with heap := h', toks := tk + 1 }) ho fun h'' he' sb => ?_⟩
    have hT2 : h''.get? s.heap.objs.size = some { cls := .type "tuple", data := .seq #[.int i tk, y] } := (sb.2 _ (Nat.ne_of_gt el)).trans hT
    have new : ObjOk X.prog X.w (upd H s.heap.objs.size (.tup [.int (i : Nat), x])) h'' s.heap.objs.size (.tup [.int (i : Nat), x]) := ⟨by show 2 ≤ sizeLine; decide, [.int i tk, y], .cons ⟨_, rfl⟩ (.cons ru .nil), ⟨_, hT2, rfl, _, rfl⟩⟩
    have I1 : Inv X pins σ (upd H s.heap.objs.size (.tup [.int (i : Nat), x])) { s with heap := h'', toks := tk + 1 } :=
      I.turnedNew (ch := [e, it]) (fun b ob hb q => (sb.2 b (fun z => hb (by simp [z]))).trans (hk b ob (fun z => hb (by simp [z])) (fun z => hb (by simp [z])) q)) hf (Nat.le_refl _) new
    refine ⟨.ref s.heap.objs.size, _, I1, rfl, ⟨_, x, rfl, I.hok.fresh (Nat.le_refl _), rfl, fun ys hy => by rw [I.tuple_inj hy hq]; exact hx⟩, ⟨⟨y, ?_⟩, st'.1.at fun o q => (sb.2 it (Ne.symm hne)).trans q, hne, hai, hea⟩, fun b hb => ?_⟩
    · rw [show ((i + 1 : Nat) : Int) = (i : Int) + 1 by omega]; exact he'
    · have hlt : b < s.heap.objs.size := by
        rcases (show b = e ∨ b = it by simpa using hb) with z | z
        · rw [z]; exact el
        · rw [z]; exact il
      rw [upd_ne (Nat.ne_of_lt hlt)]
      exact (hf b hb).1
  done := by
    intro X hP hw hK hc i pins s σ H E I hf st hg
    subst hP hw hK
    obtain ⟨⟨old, he⟩, hit, hne, hai, hea⟩ := st
    obtain ⟨xs, hq, hx⟩ := hg
    obtain ⟨its, rv, p, hz⟩ := I.tuple hq
    obtain ⟨f0, f1, f2, f3, f4, f5⟩ := hf it (by simp)
    have tt : s.heap.IsTuple a its.toArray := p
    have hl := rv.length
    have hT : s.TypeIs (.ref e) "enumerate" := ⟨_, he, rfl⟩
    unfold pyNext
    refine wpAny_bind (wpAny_attempt (wpAny_callSpecial?_slot (name := Str.ofString "__next__") hT F.slot_enumerate_next (wpAny_call_entry F.slot_enumerate_next hT F.entry_enumerate_next ?_ (F.args_enumerate_next_1 _))))
    show wpAny _ _ (field (.ref e) 2 >>= _) _ _ _
    refine wpAny_bind (wpAny_field he rfl (x := .ref it) rfl (wpAny_bind (wpAny_nextOf_tuple_end (I.ok.hd hc) hit tt (by simp; omega) fun h' x he' hx' => ?_)))
    obtain ⟨o, ho, hcl⟩ := hx'
    refine wpAny_bind (wpAny_isInstance (T := "StopIteration") (b := true) ⟨o, ho, hcl⟩ isSubtype_stop ?_)
    exact wpAny_pure ⟨rfl, I.turned (t' := s.toks) (fun b o hb q => he' b o hb q) f0 f1 f3 f4 f5⟩
  self := fun A i s Q E st h => let ⟨⟨_, he⟩, _⟩ := st; wpAny_pyIter_enum he h
def iEnumT (K : PySem.W.Frag) (ta : TA) : TI := fun σ H R => ta σ H fun vs H1 => ∃ a xs, vs = [.ref a] ∧ SqT K H1 a xs ∧ R (IteT K a) H1
theorem pi_enumT {X : Cx} {e : Expr} {ta : TA} {p pos tpos : Pos} {elts : List Expr} {kk : Nat} (hg : Gl X "enumerate") (hm : X.mg "enumerate" = none) (ha : PA X [e] ta) (hs : starEach [e] X.env = [(false, eval e X.env)] := by rfl) :
    PI X (.Tuple elts kk tpos) (.Call (.Name "enumerate" p) [e] [] pos) (iEnumT X.K ta) := by
  refine ⟨fun pins s σ H R I h => Call_ (ld_blt I hg hm boot_enumerate (PyProof.Rows.callWith_type1 (thn (ha.run pos pins s σ H _ I h) fun us s1 ⟨vs, H1, I1, r1, a, xs, ex, hq, q⟩ => ?_) hs rfl))⟩
  subst ex
  rw [Vals.ref1 r1]
  obtain ⟨its, rv, pt, hz⟩ := I1.tuple hq
  have tt : s1.heap.IsTuple a its.toArray := pt
  have al : a < s1.heap.objs.size := by obtain ⟨o, ho, _⟩ := tt; exact Heap.lt_size ho
  refine enum_call1 (begins_tuple a its.toArray) tt fun h' hn hit hk => wpAny_pyIter_enum hn ?_
  have I2 : Inv X pins σ H1 { s1 with heap := h' } := I1.kept (t' := s1.toks) hk
  refine ⟨s1.heap.objs.size + 1, [s1.heap.objs.size + 1, s1.heap.objs.size], _, _, H1, rfl, I2, turn_enumT a (s1.heap.objs.size + 1) s1.heap.objs.size, ⟨⟨.none, hn⟩, ⟨_, hit, rfl, rfl⟩, Nat.succ_ne_self _, Nat.ne_of_lt al, Nat.ne_of_gt (Nat.lt_succ_of_lt al)⟩, fun b hb => ?_, q⟩
  have hle : s1.heap.objs.size ≤ b := by
    rcases (show b = s1.heap.objs.size + 1 ∨ b = s1.heap.objs.size by simpa using hb) with z | z
    · rw [z]; exact Nat.le_add_right _ _
    · rw [z]; exact Nat.le_refl _
  exact I1.fpOk hle (I1.hok.fresh hle)
end Wp
end
section
set_option Elab.async false
set_option linter.all false
set_option maxRecDepth 100000
set_option maxHeartbeats 4000000
namespace Wp
open PySem PySem.Spec PyProof.Rows L2
/-! ### what the top has written -/
structure Tp (K : PySem.W.Frag) (mg : Str → Option Value) : Prop where
  f_holds : ∃ fd, FunD K "holds" "holds" (defArgs s_holds) (defBody s_holds) (defScope s_holds) [] [] (He.ga K "holds") fd
  f_with_one : ∃ fd, FunD K "with_one" "with_one" (defArgs s_with_one) (defBody s_with_one) (defScope s_with_one) [] [] (He.ga K "with_one") fd
  f_is_whole : ∃ fd, FunD K "is_whole" "is_whole" (defArgs s_is_whole) (defBody s_is_whole) (defScope s_is_whole) [] [] (He.ga K "is_whole") fd
  f_ranks_of : ∃ fd, FunD K "ranks_of" "ranks_of" (defArgs s_ranks_of) (defBody s_ranks_of) (defScope s_ranks_of) [] [] (He.ga K "ranks_of") fd
  f_places_of : ∃ fd, FunD K "places_of" "places_of" (defArgs s_places_of) (defBody s_places_of) (defScope s_places_of) [] [] (He.ga K "places_of") fd
  f_overs : ∃ fd, FunD K "overs" "overs" (defArgs s_overs) (defBody s_overs) (defScope s_overs) [] [] (He.ga K "overs") fd
  f_leads_of : ∃ fd, FunD K "leads_of" "leads_of" (defArgs s_leads_of) (defBody s_leads_of) (defScope s_leads_of) [] [] (He.ga K "leads_of") fd
  f_strength : ∃ fd, FunD K "strength" "strength" (defArgs s_strength) (defBody s_strength) (defScope s_strength) [] [] (He.ga K "strength") fd
  f_way_by : ∃ fd, FunD K "way_by" "way_by" (defArgs s_way_by) (defBody s_way_by) (defScope s_way_by) [] [] (He.ga K "way_by") fd
  f_cut_by : ∃ fd, FunD K "cut_by" "cut_by" (defArgs s_cut_by) (defBody s_cut_by) (defScope s_cut_by) [] [] (He.ga K "cut_by") fd
  f_lots_of : ∃ fd, FunD K "lots_of" "lots_of" (defArgs s_lots_of) (defBody s_lots_of) (defScope s_lots_of) [] [] (He.ga K "lots_of") fd
  f_w_init : ∃ fd, FunD K "__init__" "Way.__init__" (defArgs way_s_init) (defBody way_s_init) (defScope way_s_init) [V.non] [] (He.ma K (He.ga K "Pairs") "__init__") fd
  f_w_outcome : ∃ fd, FunD K "outcome" "Way.outcome" (defArgs way_s_outcome) (defBody way_s_outcome) (defScope way_s_outcome) [] [] (He.ma K (He.ga K "Pairs") "outcome") fd
  f_unbeaten_of : ∃ fd, FunD K "unbeaten_of" "unbeaten_of" (defArgs s_unbeaten_of) (defBody s_unbeaten_of) (defScope s_unbeaten_of) [] [] (He.ga K "unbeaten_of") fd
  f_picks_due : ∃ fd, FunD K "picks_due" "picks_due" (defArgs s_picks_due) (defBody s_picks_due) (defScope s_picks_due) [] [] (He.ga K "picks_due") fd
  f_p_beats : ∃ fd, FunD K "beats" "Pairs.beats" (defArgs pairs_s_beats) (defBody pairs_s_beats) (defScope pairs_s_beats) [] [] (He.ma K (He.ga K "Pairs") "beats") fd
  f_p_unbeaten : ∃ fd, FunD K "unbeaten" "Pairs.unbeaten" (defArgs pairs_s_unbeaten) (defBody pairs_s_unbeaten) (defScope pairs_s_unbeaten) [] [] (He.ma K (He.ga K "Pairs") "unbeaten") fd
  f_p_counted : ∃ fd, FunD K "counted" "Pairs.counted" (defArgs pairs_s_counted) (defBody pairs_s_counted) (defScope pairs_s_counted) [] [] (He.ma K (He.ga K "Pairs") "counted") fd
  f_p_told_by : ∃ fd, FunD K "told_by" "Pairs.told_by" (defArgs pairs_s_told_by) (defBody pairs_s_told_by) (defScope pairs_s_told_by) [] [] (He.ma K (He.ga K "Pairs") "told_by") fd
  f_bag : ∃ fd, FunD K "_law_bag" "_law_bag" (defArgs s_law_bag) (defBody s_law_bag) (defScope s_law_bag) [] [] (He.ga K "_law_bag") fd
  f_take : ∃ fd, FunD K "_law_take" "_law_take" (defArgs s_law_take) (defBody s_law_take) (defScope s_law_take) [] [] (He.ga K "_law_take") fd
  f_one : ∃ fd, FunD K "_law_one" "_law_one" (defArgs s_law_one) (defBody s_law_one) (defScope s_law_one) [] [] (He.ga K "_law_one") fd
  f_alike : ∃ fd, FunD K "_law_alike" "_law_alike" (defArgs s_law_alike) (defBody s_law_alike) (defScope s_law_alike) [] [] (He.ga K "_law_alike") fd
  f_mixed : ∃ fd, FunD K "_law_mixed" "_law_mixed" (defArgs s_law_mixed) (defBody s_law_mixed) (defScope s_law_mixed) [] [] (He.ga K "_law_mixed") fd
  f_slip : ∃ fd, FunD K "_law_slip" "_law_slip" (defArgs s_law_slip) (defBody s_law_slip) (defScope s_law_slip) [] [] (He.ga K "_law_slip") fd
  f_lines : ∃ fd, FunD K "_law_lines" "_law_lines" (defArgs s_law_lines) (defBody s_law_lines) (defScope s_law_lines) [] [] (He.ga K "_law_lines") fd
  f_together : ∃ fd, FunD K "_law_together" "_law_together" (defArgs s_law_together) (defBody s_law_together) (defScope s_law_together) [] [] (He.ga K "_law_together") fd
  f_members : ∃ fd, FunD K "_law_members" "_law_members" (defArgs s_law_members) (defBody s_law_members) (defScope s_law_members) [] [] (He.ga K "_law_members") fd
  f_turned : ∃ fd, FunD K "_law_turned" "_law_turned" (defArgs s_law_turned) (defBody s_law_turned) (defScope s_law_turned) [] [] (He.ga K "_law_turned") fd
  f_put_ahead : ∃ fd, FunD K "_law_put_ahead" "_law_put_ahead" (defArgs s_law_put_ahead) (defBody s_law_put_ahead) (defScope s_law_put_ahead) [] [] (He.ga K "_law_put_ahead") fd
  f_set_first : ∃ fd, FunD K "_law_set_first" "_law_set_first" (defArgs s_law_set_first) (defBody s_law_set_first) (defScope s_law_set_first) [] [] (He.ga K "_law_set_first") fd
  f_seats_right : ∃ fd, FunD K "_law_seats_right" "_law_seats_right" (defArgs s_law_seats_right) (defBody s_law_seats_right) (defScope s_law_seats_right) [] [] (He.ga K "_law_seats_right") fd
  f_turned_right : ∃ fd, FunD K "_law_turned_right" "_law_turned_right" (defArgs s_law_turned_right) (defBody s_law_turned_right) (defScope s_law_turned_right) [] [] (He.ga K "_law_turned_right") fd
  f_raised_right : ∃ fd, FunD K "_law_raised_right" "_law_raised_right" (defArgs s_law_raised_right) (defBody s_law_raised_right) (defScope s_law_raised_right) [] [] (He.ga K "_law_raised_right") fd
  f_law : ∃ fd, FunD K "law" "law" (defArgs s_law) (defBody s_law) (defScope s_law) [] [] (He.ga K "law") fd
  g_holds : mg "holds" = some (.ref (He.ga K "holds"))
  g_with_one : mg "with_one" = some (.ref (He.ga K "with_one"))
  g_is_whole : mg "is_whole" = some (.ref (He.ga K "is_whole"))
  g_ranks_of : mg "ranks_of" = some (.ref (He.ga K "ranks_of"))
  g_places_of : mg "places_of" = some (.ref (He.ga K "places_of"))
  g_overs : mg "overs" = some (.ref (He.ga K "overs"))
  g_leads_of : mg "leads_of" = some (.ref (He.ga K "leads_of"))
  g_strength : mg "strength" = some (.ref (He.ga K "strength"))
  g_way_by : mg "way_by" = some (.ref (He.ga K "way_by"))
  g_cut_by : mg "cut_by" = some (.ref (He.ga K "cut_by"))
  g_lots_of : mg "lots_of" = some (.ref (He.ga K "lots_of"))
  g_unbeaten_of : mg "unbeaten_of" = some (.ref (He.ga K "unbeaten_of"))
  g_picks_due : mg "picks_due" = some (.ref (He.ga K "picks_due"))
  g_bag : mg "_law_bag" = some (.ref (He.ga K "_law_bag"))
  g_take : mg "_law_take" = some (.ref (He.ga K "_law_take"))
  g_one : mg "_law_one" = some (.ref (He.ga K "_law_one"))
  g_alike : mg "_law_alike" = some (.ref (He.ga K "_law_alike"))
  g_mixed : mg "_law_mixed" = some (.ref (He.ga K "_law_mixed"))
  g_slip : mg "_law_slip" = some (.ref (He.ga K "_law_slip"))
  g_lines : mg "_law_lines" = some (.ref (He.ga K "_law_lines"))
  g_together : mg "_law_together" = some (.ref (He.ga K "_law_together"))
  g_members : mg "_law_members" = some (.ref (He.ga K "_law_members"))
  g_turned : mg "_law_turned" = some (.ref (He.ga K "_law_turned"))
  g_put_ahead : mg "_law_put_ahead" = some (.ref (He.ga K "_law_put_ahead"))
  g_set_first : mg "_law_set_first" = some (.ref (He.ga K "_law_set_first"))
  g_seats_right : mg "_law_seats_right" = some (.ref (He.ga K "_law_seats_right"))
  g_turned_right : mg "_law_turned_right" = some (.ref (He.ga K "_law_turned_right"))
  g_raised_right : mg "_law_raised_right" = some (.ref (He.ga K "_law_raised_right"))
  g_law : mg "law" = some (.ref (He.ga K "law"))
  g_Pairs : mg "Pairs" = some (.ref (He.ga K "Pairs"))
  m_len : mg "len" = none
  m_range : mg "range" = none
  m_enumerate : mg "enumerate" = none
  m_list : mg "list" = none
  m_tuple : mg "tuple" = none
  m_int : mg "int" = none
  m_min : mg "min" = none
  m_max : mg "max" = none
  m_all : mg "all" = none
  m_abs : mg "abs" = none
  m_sum : mg "sum" = none
  m_sorted : mg "sorted" = none
  m_repr : mg "repr" = none
  m_isinstance : mg "isinstance" = none
  m_bool : mg "bool" = none
  i_MOST_HANDS : ∃ t, mg "MOST_HANDS" = some (.int 12 t)
  i_MOST_SEATS : ∃ t, mg "MOST_SEATS" = some (.int 60 t)
  cl : Cls K (He.ga K "Pairs")
  n_hands : NoAttr K (He.ga K "Pairs") "hands"
  n_seats : NoAttr K (He.ga K "Pairs") "seats"
  n_lots : NoAttr K (He.ga K "Pairs") "lots"
  mkP : Mk K (He.ga K "Pairs") (He.ma K (He.ga K "Pairs") "__init__")
  t_beats : Meth K (He.ga K "Pairs") "beats" (He.ma K (He.ga K "Pairs") "beats")
  t_unbeaten : Meth K (He.ga K "Pairs") "unbeaten" (He.ma K (He.ga K "Pairs") "unbeaten")
  t_counted : Meth K (He.ga K "Pairs") "counted" (He.ma K (He.ga K "Pairs") "counted")
  t_told_by : Meth K (He.ga K "Pairs") "told_by" (He.ma K (He.ga K "Pairs") "told_by")
  t_outcome : Meth K (He.ga K "Pairs") "outcome" (He.ma K (He.ga K "Pairs") "outcome")
theorem tp_of {K : PySem.W.Frag} {h : Heap} {mg : Str → Option Value} (X : K.In h) (G : h.Ns mainGlobals mg) (c : He.SaysD faL fnL K) : Tp K mg where
  f_holds := c.def_ 0 (d := d_s_holds) rfl
  f_with_one := c.def_ 1 (d := d_s_with_one) rfl
  f_is_whole := c.def_ 2 (d := d_s_is_whole) rfl
  f_ranks_of := c.def_ 3 (d := d_s_ranks_of) rfl
  f_places_of := c.def_ 4 (d := d_s_places_of) rfl
  f_overs := c.def_ 5 (d := d_s_overs) rfl
  f_leads_of := c.def_ 6 (d := d_s_leads_of) rfl
  f_strength := c.def_ 7 (d := d_s_strength) rfl
  f_way_by := c.def_ 8 (d := d_s_way_by) rfl
  f_cut_by := c.def_ 9 (d := d_s_cut_by) rfl
  f_lots_of := c.def_ 10 (d := d_s_lots_of) rfl
  f_w_init := c.def_ 11 (d := d_way_s_init) rfl
  f_w_outcome := c.def_ 12 (d := d_way_s_outcome) rfl
  f_unbeaten_of := c.def_ 13 (d := d_s_unbeaten_of) rfl
  f_picks_due := c.def_ 14 (d := d_s_picks_due) rfl
  f_p_beats := c.def_ 15 (d := d_pairs_s_beats) rfl
  f_p_unbeaten := c.def_ 16 (d := d_pairs_s_unbeaten) rfl
  f_p_counted := c.def_ 17 (d := d_pairs_s_counted) rfl
  f_p_told_by := c.def_ 18 (d := d_pairs_s_told_by) rfl
  f_bag := c.def_ 19 (d := d_s_law_bag) rfl
  f_take := c.def_ 20 (d := d_s_law_take) rfl
  f_one := c.def_ 21 (d := d_s_law_one) rfl
  f_alike := c.def_ 22 (d := d_s_law_alike) rfl
  f_mixed := c.def_ 23 (d := d_s_law_mixed) rfl
  f_slip := c.def_ 24 (d := d_s_law_slip) rfl
  f_lines := c.def_ 25 (d := d_s_law_lines) rfl
  f_together := c.def_ 26 (d := d_s_law_together) rfl
  f_members := c.def_ 27 (d := d_s_law_members) rfl
  f_turned := c.def_ 28 (d := d_s_law_turned) rfl
  f_put_ahead := c.def_ 29 (d := d_s_law_put_ahead) rfl
  f_set_first := c.def_ 30 (d := d_s_law_set_first) rfl
  f_seats_right := c.def_ 31 (d := d_s_law_seats_right) rfl
  f_turned_right := c.def_ 32 (d := d_s_law_turned_right) rfl
  f_raised_right := c.def_ 33 (d := d_s_law_raised_right) rfl
  f_law := c.def_ 34 (d := d_s_law) rfl
  g_holds := He.glo_ok X G (c.fact 0 (f := .glo "holds") rfl)
  g_with_one := He.glo_ok X G (c.fact 1 (f := .glo "with_one") rfl)
  g_is_whole := He.glo_ok X G (c.fact 2 (f := .glo "is_whole") rfl)
  g_ranks_of := He.glo_ok X G (c.fact 3 (f := .glo "ranks_of") rfl)
  g_places_of := He.glo_ok X G (c.fact 4 (f := .glo "places_of") rfl)
  g_overs := He.glo_ok X G (c.fact 5 (f := .glo "overs") rfl)
  g_leads_of := He.glo_ok X G (c.fact 6 (f := .glo "leads_of") rfl)
  g_strength := He.glo_ok X G (c.fact 7 (f := .glo "strength") rfl)
  g_way_by := He.glo_ok X G (c.fact 8 (f := .glo "way_by") rfl)
  g_cut_by := He.glo_ok X G (c.fact 9 (f := .glo "cut_by") rfl)
  g_lots_of := He.glo_ok X G (c.fact 10 (f := .glo "lots_of") rfl)
  g_unbeaten_of := He.glo_ok X G (c.fact 11 (f := .glo "unbeaten_of") rfl)
  g_picks_due := He.glo_ok X G (c.fact 12 (f := .glo "picks_due") rfl)
  g_bag := He.glo_ok X G (c.fact 13 (f := .glo "_law_bag") rfl)
  g_take := He.glo_ok X G (c.fact 14 (f := .glo "_law_take") rfl)
  g_one := He.glo_ok X G (c.fact 15 (f := .glo "_law_one") rfl)
  g_alike := He.glo_ok X G (c.fact 16 (f := .glo "_law_alike") rfl)
  g_mixed := He.glo_ok X G (c.fact 17 (f := .glo "_law_mixed") rfl)
  g_slip := He.glo_ok X G (c.fact 18 (f := .glo "_law_slip") rfl)
  g_lines := He.glo_ok X G (c.fact 19 (f := .glo "_law_lines") rfl)
  g_together := He.glo_ok X G (c.fact 20 (f := .glo "_law_together") rfl)
  g_members := He.glo_ok X G (c.fact 21 (f := .glo "_law_members") rfl)
  g_turned := He.glo_ok X G (c.fact 22 (f := .glo "_law_turned") rfl)
  g_put_ahead := He.glo_ok X G (c.fact 23 (f := .glo "_law_put_ahead") rfl)
  g_set_first := He.glo_ok X G (c.fact 24 (f := .glo "_law_set_first") rfl)
  g_seats_right := He.glo_ok X G (c.fact 25 (f := .glo "_law_seats_right") rfl)
  g_turned_right := He.glo_ok X G (c.fact 26 (f := .glo "_law_turned_right") rfl)
  g_raised_right := He.glo_ok X G (c.fact 27 (f := .glo "_law_raised_right") rfl)
  g_law := He.glo_ok X G (c.fact 28 (f := .glo "law") rfl)
  g_Pairs := He.glo_ok X G (c.fact 29 (f := .glo "Pairs") rfl)
  m_len := He.free_ok X G (c.fact 30 (f := .free "len") rfl)
  m_range := He.free_ok X G (c.fact 31 (f := .free "range") rfl)
  m_enumerate := He.free_ok X G (c.fact 32 (f := .free "enumerate") rfl)
  m_list := He.free_ok X G (c.fact 33 (f := .free "list") rfl)
  m_tuple := He.free_ok X G (c.fact 34 (f := .free "tuple") rfl)
  m_int := He.free_ok X G (c.fact 35 (f := .free "int") rfl)
  m_min := He.free_ok X G (c.fact 36 (f := .free "min") rfl)
  m_max := He.free_ok X G (c.fact 37 (f := .free "max") rfl)
  m_all := He.free_ok X G (c.fact 38 (f := .free "all") rfl)
  m_abs := He.free_ok X G (c.fact 39 (f := .free "abs") rfl)
  m_sum := He.free_ok X G (c.fact 40 (f := .free "sum") rfl)
  m_sorted := He.free_ok X G (c.fact 41 (f := .free "sorted") rfl)
  m_repr := He.free_ok X G (c.fact 42 (f := .free "repr") rfl)
  m_isinstance := He.free_ok X G (c.fact 43 (f := .free "isinstance") rfl)
  m_bool := He.free_ok X G (c.fact 44 (f := .free "bool") rfl)
  i_MOST_HANDS := He.int_ok X G (c.fact 45 (f := .int "MOST_HANDS" 12) rfl)
  i_MOST_SEATS := He.int_ok X G (c.fact 46 (f := .int "MOST_SEATS" 60) rfl)
  cl := He.cls_ok (c.fact 47 (f := .cls "Pairs") rfl)
  n_hands := He.noat_ok (c.fact 48 (f := .noat "Pairs" "hands") rfl)
  n_seats := He.noat_ok (c.fact 49 (f := .noat "Pairs" "seats") rfl)
  n_lots := He.noat_ok (c.fact 50 (f := .noat "Pairs" "lots") rfl)
  mkP := He.mkr_ok (c.fact 51 (f := .mkr "Pairs") rfl)
  t_beats := He.meth_ok (c.fact 52 (f := .meth "Pairs" "beats") rfl)
  t_unbeaten := He.meth_ok (c.fact 53 (f := .meth "Pairs" "unbeaten") rfl)
  t_counted := He.meth_ok (c.fact 54 (f := .meth "Pairs" "counted") rfl)
  t_told_by := He.meth_ok (c.fact 55 (f := .meth "Pairs" "told_by") rfl)
  t_outcome := He.meth_ok (c.fact 56 (f := .meth "Pairs" "outcome") rfl)
/-! ### calls by names -/
def Cal (P : Program) (w : World) (K : PySem.W.Frag) (mg : Str → Option Value) (base : Heap) (x : Str) (k : Nat) (ps : List Str) (sp : Sp) : Prop :=
  ∃ f fd, mg x = some (.ref f) ∧ PySem.W.keepIn K (.ref f) = true ∧ Binds K fd ps [] ∧ FnOk P w K mg base CX0 k f fd ps sp
def CalG (P : Program) (w : World) (K : PySem.W.Frag) (mg : Str → Option Value) (base : Heap) (x : Str) (k : Nat) (ps : List Str) (sp : Sp) : Prop :=
  ∃ f fd, mg x = some (.ref f) ∧ PySem.W.keepIn K (.ref f) = true ∧ Binds K fd ps [] ∧ FnG P w K mg base k f fd ps sp
def CalM (P : Program) (w : World) (K : PySem.W.Frag) (mg : Str → Option Value) (base : Heap) (m : Str) (k : Nat) (ps : List Str) (sp : Sp) : Prop :=
  ∃ f fd, Meth K (He.ga K "Pairs") m f ∧ Binds K fd ps [] ∧ FnOk P w K mg base CX0 k f fd ps sp
def CalI (P : Program) (w : World) (K : PySem.W.Frag) (mg : Str → Option Value) (base : Heap) (k : Nat) (ps : List Str) (sp : Sp) : Prop :=
  ∃ f fd, Mk K (He.ga K "Pairs") f ∧ Binds K fd ps [] ∧ FnOk P w K mg base CX0 k f fd ps sp
section
variable {X : Cx} {x m : Str} {k : Nat} {ps : List Str} {sp : Sp} {p pos apos : Pos} {e o : Expr} {es : List Expr} {t : TA} {ta : TE}
theorem pcl (C : Cal X.prog X.w X.K X.mg X.base x k ps sp) (hr : Room k X.A) (hg : Gl X x) (ha : PA X (e :: es) t) (hdb : (x == ("__debug__" : Str)) = false := by decide)
    (he : starEach (e :: es) X.env = (false, eval e X.env) :: starEach es X.env := by rfl) (hpl : (backTo pos (starEach es X.env)).any (·.1) = false := by rfl) : PE X (.Call (.Name x p) (e :: es) [] pos) (tCall sp [] E0 t) := by
  obtain ⟨f, fd, h1, h2, h3, h4⟩ := C
  exact pe_call h4 hr hg h1 h2 h3 .nil pass0 ha hdb he hpl
theorem pcg (C : CalG X.prog X.w X.K X.mg X.base x k ps sp) (gg : X.A.guards = some []) (hr : Room k X.A) (hg : Gl X x) (ha : PA X (e :: es) t) (hdb : (x == ("__debug__" : Str)) = false := by decide)
    (he : starEach (e :: es) X.env = (false, eval e X.env) :: starEach es X.env := by rfl) (hpl : (backTo pos (starEach es X.env)).any (·.1) = false := by rfl) : PE X (.Call (.Name x p) (e :: es) [] pos) (fun σ H Q => t σ H fun vs H1 => sp vs H1 Q E0) := by
  obtain ⟨f, fd, h1, h2, h3, h4⟩ := C
  exact pe_callG h4 gg hr hg h1 h2 h3 ha hdb he hpl
theorem pcm {pl : Sem Bool} (C : CalM X.prog X.w X.K X.mg X.base m k ps sp) (c : Cls X.K (He.ga X.K "Pairs")) (hr : Room k X.A) (he : PE X o ta) (ha : PA X (e :: es) t)
    (hst : starEach (e :: es) X.env = (false, eval e X.env) :: starEach es X.env := by rfl) (hpl : (backTo pos (starEach es X.env)).any (·.1) = false := by rfl)
    (ht : eval (.Call (.Attribute o m apos) (e :: es) [] pos) X.env = (do let ov ← eval o X.env; standAt apos.atName; let (f, first) ← holding [ov] (getMethod ov m pl); callWith pos f first (backTo pos (starEach (e :: es) X.env)) (backToKw pos (keywordEach [] X.env))) := by rfl) :
    PE X (.Call (.Attribute o m apos) (e :: es) [] pos) (tMeth (He.ga X.K "Pairs") m sp [] E0 ta t) := by
  obtain ⟨f, fd, h1, h3, h4⟩ := C
  exact pe_meth he c h1 h4 hr h3 .nil pass0 ha hst hpl ht
theorem pci (C : CalI X.prog X.w X.K X.mg X.base k ps sp) (hr : Room (k + 1) X.A) (hg : Gl X x) (hm : X.mg x = some (.ref (He.ga X.K "Pairs"))) (ha : PA X (e :: es) t) (hdb : (x == ("__debug__" : Str)) = false := by decide)
    (he : starEach (e :: es) X.env = (false, eval e X.env) :: starEach es X.env := by rfl) (hpl : (backTo pos (starEach es X.env)).any (·.1) = false := by rfl) : PE X (.Call (.Name x p) (e :: es) [] pos) (tMake (He.ga X.K "Pairs") sp [] E0 t) := by
  obtain ⟨f, fd, h1, h3, h4⟩ := C
  exact pe_make h1 h4 hr hg hm h3 .nil pass0 ha hdb he hpl
end
/-! ### a def by its body -/
section
variable {P : Program} {w : World} {K : PySem.W.Frag} {mg : Str → Option Value} {base : Heap} {x qual : Str} {st : Stmt} {f : Addr} {fd : FuncData} {dvs : List V}
theorem okd {N ps : List Str} {k : Nat} {sp : Sp} (F : FunD K x qual (defArgs st) (defBody st) (defScope st) dvs [] f fd) (S : FnScope N ps (defScope st)) (len : ∀ vs H Q E, sp vs H Q E → vs.length = ps.length)
    (hbody : ∀ (cdv : Value) (A : Around) (fr : List Env) (s : Shared) (H : Hp) (vs : List V) (Q : VK) (E : XK), Room k (A.deeper (envOfC qual (defScope st) s.heap.objs.size f cdv)) → sp vs H Q E →
      ∃ t, PSs (cxOf CX0 P w K mg base N qual (defScope st) f cdv A fr s H E).nox (defBody st) t ∧ t { nx := fun _ H' => Q .non H', rt := Q } (start N vs) H) : FnOk P w K mg base CX0 (k + 1) f fd ps sp :=
  F.ok S len fun cdv A fr s H vs Q E hr h => let ⟨t, ht, hq⟩ := hbody cdv A fr s H vs Q E hr h; ⟨t, PSs.nox ht, hq⟩
end
/-! ### loops -/
theorem for_rg {n : Nat} {g : TG} {tb : TS} {D : Ends} {σ : L2.St} {H : Hp} (Pv : Nat → L2.St → Hp → Prop) (h0 : Pv 0 σ H)
    (hs : ∀ i σ H, i < n → Pv i σ H → g (.int (i : Int)) σ H fun σ2 H2 => tb { D with nx := Pv (i + 1), ct := Pv (i + 1), bk := D.nx } σ2 H2) (hd : ∀ σ H, Pv n σ H → D.nx σ H) :
    ∃ W : Nat → Nat → L2.St → Hp → Prop, (∃ m, W 0 m σ H) ∧ ∀ i m σ H, W i m σ H →
      ((Itr 0 n).stop i H ∧ D.nx σ H) ∨ ((Itr 0 n).go i H ∧ ∃ N : L2.St → Hp → Prop, (∀ σ' H', N σ' H' → ∃ m', m' < m ∧ W (i + 1) m' σ' H') ∧ ∀ x H', (Itr 0 n).yld i H x H' → g x σ H' fun σ2 H2 => tb { D with nx := N, ct := N, bk := D.nx } σ2 H2) :=
  for_range Pv h0 (fun i σ H hi p => by rw [Int.zero_add]; exact hs i σ H hi p) hd
theorem lc_rg {n : Nat} {g : TG} {tt : TT} {te : TE} {vs : List Nat} {σ : L2.St} {H1 : Hp} {D : Addr} {Qd : Hp → Prop} (Pv : Nat → Hp → Prop) (h0 : Pv 0 (upd H1 D (.lst [])))
    (hs : ∀ i H, i < n → Pv i H → g (.int (i : Int)) (wipe σ vs) H fun σ2 H2 => wipe σ2 vs = wipe σ vs ∧ tt σ2 H2 fun b H3 =>
      if b = true then te σ2 H3 fun y H4 => ∃ acc, H4 D = some (.lst acc) ∧ acc.length < sizeLine ∧ Pv (i + 1) (upd H4 D (.lst (acc ++ [y]))) else Pv (i + 1) H3) (hd : ∀ H, Pv n H → Qd H) :
    ∃ W : Nat → Nat → Hp → Prop, (∃ m, W 0 m (upd H1 D (.lst []))) ∧ ∀ i m H, W i m H →
      ((Itr 0 n).stop i H ∧ Qd H) ∨ ((Itr 0 n).go i H ∧ ∃ Nx : Hp → Prop, (∀ H', Nx H' → ∃ m', m' < m ∧ W (i + 1) m' H') ∧ ∀ x H', (Itr 0 n).yld i H x H' → g x (wipe σ vs) H' fun σ2 H2 => wipe σ2 vs = wipe σ vs ∧ tt σ2 H2 fun b H3 =>
        if b = true then te σ2 H3 fun y H4 => ∃ acc, H4 D = some (.lst acc) ∧ acc.length < sizeLine ∧ Nx (upd H4 D (.lst (acc ++ [y]))) else Nx H3) :=
  lc_range Pv h0 (fun i H hi p => by rw [Int.zero_add]; exact hs i H hi p) hd
theorem for_enumT {K : PySem.W.Frag} {a : Addr} {xs : List V} {g : TG} {tb : TS} {D : Ends} {σ : L2.St} {H : Hp} (Pv : Nat → L2.St → Hp → Prop) (h0 : Pv 0 σ H) (hl : ∀ i σ H, Pv i σ H → SqT K H a xs)
    (hs : ∀ (i : Nat) (x : V) (T : Addr) (σ : L2.St) (H : Hp), xs[i]? = some x → Pv i σ H → H T = none → g (.ref T) σ (upd H T (.tup [.int (i : Nat), x])) fun σ2 H2 => tb { D with nx := Pv (i + 1), ct := Pv (i + 1), bk := D.nx } σ2 H2) (hd : ∀ σ H, Pv xs.length σ H → D.nx σ H) :
    ∃ W : Nat → Nat → L2.St → Hp → Prop, (∃ m, W 0 m σ H) ∧ ∀ i m σ H, W i m σ H →
      ((IteT K a).stop i H ∧ D.nx σ H) ∨ ((IteT K a).go i H ∧ ∃ N : L2.St → Hp → Prop, (∀ σ' H', N σ' H' → ∃ m', m' < m ∧ W (i + 1) m' σ' H') ∧ ∀ x H', (IteT K a).yld i H x H' → g x σ H' fun σ2 H2 => tb { D with nx := N, ct := N, bk := D.nx } σ2 H2) := by
  refine ⟨fun i m σ H => m = xs.length - i ∧ i ≤ xs.length ∧ Pv i σ H, ⟨xs.length, by simp, Nat.zero_le _, h0⟩, ?_⟩
  rintro i m σ H ⟨rfl, hi, p⟩
  have q := hl i σ H p
  by_cases c : i < xs.length
  · refine .inr ⟨⟨xs, xs[i], q, by simp [c]⟩, Pv (i + 1), fun σ' H' p' => ⟨xs.length - (i + 1), by omega, rfl, c, p'⟩, ?_⟩
    rintro x H' ⟨T, y, rfl, hT, rfl, hy⟩
    exact hs i y T σ H (hy xs q) p hT
  · have e : i = xs.length := by omega
    subst e
    exact .inl ⟨⟨xs, q, Nat.le_refl _⟩, hd σ H p⟩
end Wp
end
section
set_option Elab.async false
set_option linter.all false
set_option maxRecDepth 100000
set_option maxHeartbeats 4000000
namespace Wp
open PySem PySem.Spec PyProof.Rows L2
/-! ### data in the heap -/
def natV (ns : List Nat) : List V := ns.map fun (k : Nat) => V.int (k : Int)
def rowV (n : Nat) (f : Nat → Int) : List V := (List.range n).map fun j => V.int (f j)
def TupAt (H : Hp) (t : Addr) (s : List Nat) : Prop := H t = some (.tup (natV s))
def LineAt (H : Hp) (v : V) (l : Line) : Prop := ∃ p t, v = V.ref p ∧ H p = some (.tup [.ref t, .int l.2]) ∧ TupAt H t l.1
def LinesAt (H : Hp) (a : Addr) (L : List Line) : Prop := ∃ vs, H a = some (.lst vs) ∧ Paired (LineAt H) vs L
def MatAt (H : Hp) (a : Addr) (n : Nat) (M : Mat) : Prop := ∃ rs : Nat → Addr, H a = some (.lst ((List.range n).map fun i => V.ref (rs i))) ∧ ∀ i, i < n → H (rs i) = some (.lst (rowV n (M i)))
/-- a way's fields -/
def wf (n s : Nat) (l : Addr) : List (Str × V) := putF "lots" (.ref l) (putF "seats" (.int (s : Int)) (putF "hands" (.int (n : Int)) []))
def WayAt (C : Addr) (H : Hp) (p : Addr) (n s : Nat) (ns : List Nat) : Prop := ∃ dx l, H p = some (.ins C dx (wf n s l)) ∧ H l = some (.lst (natV ns))
def BagAt (cl : Addr) (H : Hp) (b : Addr) : Prop := ∃ (z0 z1 k : Int) (cs : List Int), H b = some (.lst [.int z0, .int z1, .int k, .ref cl]) ∧ H cl = some (.lst (cs.map V.int)) ∧ cl ≠ b ∧ 0 ≤ z0 ∧ 0 ≤ z1 ∧ 0 ≤ k ∧ cs.length ≤ 63 ∧ ∀ c ∈ cs, 0 ≤ c
def SameBut (b : Addr) (H H' : Hp) : Prop := ∀ c o, H c = some o → c ≠ b → H' c = some o
theorem SameBut.of {b : Addr} {H H' : Hp} (s : Same H H') : SameBut b H H' := fun c o e _ => s c o e
theorem SameBut.refl (b : Addr) (H : Hp) : SameBut b H H := fun _ _ e _ => e
theorem SameBut.trans {b : Addr} {H H1 H2 : Hp} (x : SameBut b H H1) (y : SameBut b H1 H2) : SameBut b H H2 := fun c o e hc => y c o (x c o e hc) hc
theorem SameBut.updN {b D : Addr} {H H' : Hp} {o : HO} (s : SameBut b H H') (h : H D = none) : SameBut b H (upd H' D o) := fun c x e hc => by
  rw [upd_ne (ne_of_none e h)]
  exact s c x e hc
theorem same_upd {H : Hp} {p : Addr} {o : HO} (h : H p = none) : Same H (upd H p o) := fun b x e => by
  rw [upd_ne (ne_of_none e h)]
  exact e
theorem sameBut_upd {H : Hp} {b : Addr} {o : HO} : SameBut b H (upd H b o) := fun c x e hc => by
  rw [upd_ne hc]; exact e
/-- an object that was new: changed, the older ones stay -/
theorem Same.updN {H H' : Hp} {p : Addr} {o : HO} (s : Same H H') (h : H p = none) : Same H (upd H' p o) := fun b x e => by
  rw [upd_ne (ne_of_none e h)]
  exact s b x e
theorem Same.none {H H' : Hp} (s : Same H H') {p : Addr} (h : H' p = Option.none) : H p = Option.none := s.free h
theorem natV_len (ns : List Nat) : (natV ns).length = ns.length := by unfold natV; exact List.length_map ..
theorem natV_at {ns : List Nat} {i k : Nat} (h : ns[i]? = some k) : (natV ns)[i]? = some (.int (k : Int)) := by unfold natV; rw [List.getElem?_map, h]; rfl
theorem natV_of {ns : List Nat} {i : Nat} {x : V} (h : (natV ns)[i]? = some x) : ∃ k : Nat, ns[i]? = some k ∧ x = .int (k : Int) := by
  unfold natV at h
  rw [List.getElem?_map] at h
  cases e : ns[i]? with
  | none => rw [e] at h; cases h
  | some k => rw [e] at h; exact ⟨k, rfl, (Option.some.inj h).symm⟩
theorem natV_map (ns : List Nat) : natV ns = (ns.map fun (k : Nat) => (k : Int)).map V.int := by unfold natV; rw [List.map_map]; rfl
theorem natV_app (a b : List Nat) : natV (a ++ b) = natV a ++ natV b := by unfold natV; exact List.map_append ..
theorem rowV_len (n : Nat) (f : Nat → Int) : (rowV n f).length = n := by unfold rowV; rw [List.length_map, List.length_range]
theorem map_range_at {α : Type} {n i : Nat} (f : Nat → α) (h : i < n) : ((List.range n).map f)[i]? = some (f i) := by rw [List.getElem?_map, List.getElem?_range h]; rfl
theorem rowV_at {n i : Nat} (f : Nat → Int) (h : i < n) : (rowV n f)[i]? = some (.int (f i)) := map_range_at _ h
theorem map_range_set {α : Type} {n j : Nat} (f : Nat → α) (v : α) : ((List.range n).map f).set j v = (List.range n).map fun k => if k = j then v else f k := by
  refine List.ext_getElem? fun i => ?_
  rw [List.getElem?_set, List.getElem?_map, List.getElem?_map, List.length_map, List.length_range]
  by_cases hi : i < n
  · rw [List.getElem?_range hi]
    by_cases e : j = i
    · subst e
      rw [if_pos rfl, if_pos hi]
      show some v = some (if j = j then v else f j)
      rw [if_pos rfl]
    · rw [if_neg e]
      show some (f i) = some (if i = j then v else f i)
      rw [if_neg fun q => e q.symm]
  · rw [List.getElem?_eq_none (by rw [List.length_range]; omega)]
    by_cases e : j = i
    · rw [if_pos e, if_neg (by omega)]; rfl
    · rw [if_neg e]; rfl
theorem rowV_set {n j : Nat} (f : Nat → Int) (v : Int) : (rowV n f).set j (.int v) = rowV n fun k => if k = j then v else f k := by
  unfold rowV
  rw [map_range_set]
  refine List.map_congr_left fun k _ => ?_
  show (if k = j then V.int v else V.int (f k)) = V.int (if k = j then v else f k)
  split <;> rfl
theorem rowV_snoc (n : Nat) (f : Nat → Int) : rowV n f ++ [.int (f n)] = rowV (n + 1) f := by unfold rowV; rw [List.range_succ, List.map_append]; rfl
theorem map_range_snoc {α : Type} (n : Nat) (f : Nat → α) : (List.range n).map f ++ [f n] = (List.range (n + 1)).map f := by rw [List.range_succ, List.map_append]; rfl
theorem rowV_congr {n : Nat} {f g : Nat → Int} (h : ∀ j, j < n → f j = g j) : rowV n f = rowV n g := List.map_congr_left fun j hj => by rw [h j (List.mem_range.mp hj)]
theorem natV_range (n : Nat) : natV (List.range n) = rowV n fun j => (j : Int) := rfl
theorem rgV_nat (n : Nat) : rgV 0 (n : Int) = natV (List.range n) := by
  unfold rgV natV
  rw [show ((n : Int) - 0).toNat = n by omega]
  exact List.map_congr_left fun i _ => by rw [Int.zero_add]
/-! what stays -/
theorem TupAt.same {H H' : Hp} {t : Addr} {s : List Nat} (e : Same H H') (h : TupAt H t s) : TupAt H' t s := e _ _ h
theorem LineAt.same {H H' : Hp} {v : V} {l : Line} (e : Same H H') (h : LineAt H v l) : LineAt H' v l := by
  obtain ⟨p, t, h1, h2, h3⟩ := h
  exact ⟨p, t, h1, e _ _ h2, e _ _ h3⟩
theorem LinesAt.same {H H' : Hp} {a : Addr} {L : List Line} (e : Same H H') (h : LinesAt H a L) : LinesAt H' a L := by
  obtain ⟨vs, h1, h2⟩ := h
  exact ⟨vs, e _ _ h1, Paired.mapP h2 fun v l x => x.same e⟩
theorem LineAt.but {b : Addr} {H H' : Hp} {v : V} {l : Line} (e : SameBut b H H') (hb : ∃ xs, H b = some (.lst xs)) (h : LineAt H v l) : LineAt H' v l := by
  obtain ⟨p, t, h1, h2, h3⟩ := h
  obtain ⟨xs, hb⟩ := hb
  exact ⟨p, t, h1, e _ _ h2 (ne_of h2 hb (by intro q; cases q)), e _ _ h3 (ne_of h3 hb (by intro q; cases q))⟩
theorem MatAt.same {H H' : Hp} {a : Addr} {n : Nat} {M : Mat} (e : Same H H') (h : MatAt H a n M) : MatAt H' a n M := by
  obtain ⟨rs, h1, h2⟩ := h
  exact ⟨rs, e _ _ h1, fun i hi => e _ _ (h2 i hi)⟩
theorem WayAt.same {C : Addr} {H H' : Hp} {p : Addr} {n s : Nat} {ns : List Nat} (e : Same H H') (h : WayAt C H p n s ns) : WayAt C H' p n s ns := by
  obtain ⟨dx, l, h1, h2⟩ := h
  exact ⟨dx, l, e _ _ h1, e _ _ h2⟩
theorem BagAt.same {cl : Addr} {H H' : Hp} {b : Addr} (e : Same H H') (h : BagAt cl H b) : BagAt cl H' b := by
  obtain ⟨z0, z1, k, cs, h1, h2, r⟩ := h
  exact ⟨z0, z1, k, cs, e _ _ h1, e _ _ h2, r⟩
theorem BagAt.lst {cl : Addr} {H : Hp} {b : Addr} (h : BagAt cl H b) : ∃ xs, H b = some (.lst xs) := by
  obtain ⟨z0, z1, k, cs, h1, _⟩ := h
  exact ⟨_, h1⟩
theorem BagAt.ne {cl : Addr} {H : Hp} {b a : Addr} {xs : List V} (h : BagAt cl H b) (e : H a = some (.lst xs)) (q : ∀ z0 z1 k cl, xs ≠ [.int z0, .int z1, .int k, .ref cl]) : a ≠ b := by
  obtain ⟨z0, z1, k, cs, h1, _⟩ := h
  exact ne_of e h1 fun r => q _ _ _ _ (HO.lst.inj r)
theorem BagAt.updN {cl : Addr} {H H' : Hp} {b D : Addr} {o : HO} (h0 : BagAt cl H b) (h : BagAt cl H' b) (nD : H D = none) : BagAt cl (upd H' D o) b := by
  obtain ⟨y0, y1, y2, ys, e1, e2, _⟩ := h0
  obtain ⟨z0, z1, k, cs, h1, h2, r⟩ := h
  exact ⟨z0, z1, k, cs, by rw [upd_ne (ne_of_none e1 nD)]; exact h1, by rw [upd_ne (ne_of_none e2 nD)]; exact h2, r⟩
theorem BagAt.new {cl : Addr} {H : Hp} {b D : Addr} (h : BagAt cl H b) (nD : H D = none) : D ≠ b := by
  obtain ⟨z0, z1, k, cs, h1, _⟩ := h
  exact (ne_of_none h1 nD).symm
theorem SameBut.free {cl : Addr} {H H' : Hp} {b p : Addr} (s : SameBut b H H') (h : BagAt cl H' b) (n : H' p = none) : H p = none := by
  cases e : H p with
  | none => rfl
  | some o =>
    have := s p o e (h.new n)
    rw [n] at this
    cases this
theorem natV_nb (ns : List Nat) : ∀ z0 z1 k cl, natV ns ≠ [.int z0, .int z1, .int k, .ref cl] := by
  intro z0 z1 k cl e
  have : (V.ref cl) ∈ natV ns := by rw [e]; simp
  unfold natV at this
  obtain ⟨_, _, q⟩ := List.mem_map.mp this
  cases q
theorem LinesAt.ne {cl : Addr} {H : Hp} {a b : Addr} {L : List Line} (hb : BagAt cl H b) (h : LinesAt H a L) : a ≠ b := by
  obtain ⟨vs, h1, h2⟩ := h
  refine hb.ne h1 fun z0 z1 k cl e => ?_
  subst e
  cases h2 with
  | cons r _ =>
    obtain ⟨p, t, q, _⟩ := r
    cases q
theorem LinesAt.but {cl b : Addr} {H H' : Hp} {a : Addr} {L : List Line} (e : SameBut b H H') (hb : BagAt cl H b) (h : LinesAt H a L) : LinesAt H' a L := by
  have hab := h.ne hb
  obtain ⟨vs, h1, h2⟩ := h
  exact ⟨vs, e _ _ h1 hab, Paired.mapP h2 fun v l x => x.but e hb.lst⟩
theorem natAt.but {cl b : Addr} {H H' : Hp} {a : Addr} {ns : List Nat} (e : SameBut b H H') (hb : BagAt cl H b) (h : H a = some (.lst (natV ns))) : H' a = some (.lst (natV ns)) := e _ _ h (hb.ne h (natV_nb ns))
theorem WayAt.but {C cl b : Addr} {H H' : Hp} {p : Addr} {n s : Nat} {ns : List Nat} (e : SameBut b H H') (hb : BagAt cl H b) (h : WayAt C H p n s ns) : WayAt C H' p n s ns := by
  obtain ⟨dx, l, h1, h2⟩ := h
  obtain ⟨xs, hb'⟩ := hb.lst
  exact ⟨dx, l, e _ _ h1 (ne_of h1 hb' (by intro q; cases q)), natAt.but e hb h2⟩
/-! a way's fields -/
theorem f_hs : ¬ (("hands" : Str) = "seats") := by decide +kernel
theorem f_hl : ¬ (("hands" : Str) = "lots") := by decide +kernel
theorem f_sl : ¬ (("seats" : Str) = "lots") := by decide +kernel
theorem wf_hands (n s : Nat) (l : Addr) : (wf n s l).lookup ("hands" : Str) = some (.int (n : Int)) := by
  unfold wf
  rw [lookup_putF, if_neg f_hl, lookup_putF, if_neg f_hs, lookup_putF, if_pos rfl]
theorem wf_seats (n s : Nat) (l : Addr) : (wf n s l).lookup ("seats" : Str) = some (.int (s : Int)) := by
  unfold wf
  rw [lookup_putF, if_neg f_sl, lookup_putF, if_pos rfl]
theorem wf_lots (n s : Nat) (l : Addr) : (wf n s l).lookup ("lots" : Str) = some (.ref l) := by
  unfold wf
  rw [lookup_putF, if_pos rfl]
theorem wf_no (n s : Nat) (l : Addr) {m : Str} (h1 : ¬ m = "hands") (h2 : ¬ m = "seats") (h3 : ¬ m = "lots") : (wf n s l).lookup m = none := by
  unfold wf
  rw [lookup_putF, if_neg h3, lookup_putF, if_neg h2, lookup_putF, if_neg h1]
  rfl
/-! sizes -/
theorem sz {n : Nat} (h : n ≤ 1000) : n ≤ sizeLine := Nat.le_of_lt (small1000 h)
theorem i62 {n : Nat} (h : n ≤ 1000000) : -(2 ^ 62) ≤ (n : Int) ∧ (n : Int) < 2 ^ 62 := by omega
/-! ### comprehensions without a test -/
section
variable {K : PySem.W.Frag} {g : TG} {te : TE} {vs : List Nat} {σ : L2.St} {H1 : Hp} {D : Addr} {Qd : Hp → Prop}
abbrev LcEnd (J : It) (g : TG) (te : TE) (vs : List Nat) (σ : L2.St) (H1 : Hp) (D : Addr) (Qd : Hp → Prop) : Prop := ∃ W : Nat → Nat → Hp → Prop, (∃ m, W 0 m (upd H1 D (.lst []))) ∧ ∀ i m H, W i m H →
  (J.stop i H ∧ Qd H) ∨ (J.go i H ∧ ∃ Nx : Hp → Prop, (∀ H', Nx H' → ∃ m', m' < m ∧ W (i + 1) m' H') ∧ ∀ x H', J.yld i H x H' → g x (wipe σ vs) H' fun σ2 H2 => wipe σ2 vs = wipe σ vs ∧ tYes σ2 H2 fun b H3 =>
    if b = true then te σ2 H3 fun y H4 => ∃ acc, H4 D = some (.lst acc) ∧ acc.length < sizeLine ∧ Nx (upd H4 D (.lst (acc ++ [y]))) else Nx H3)
theorem lcY_list {a : Addr} {xs : List V} (Pv : Nat → Hp → Prop) (h0 : Pv 0 (upd H1 D (.lst []))) (hl : ∀ i H, i ≤ xs.length → Pv i H → SqL K H a xs)
    (hs : ∀ i x H, xs[i]? = some x → Pv i H → g x (wipe σ vs) H fun σ2 H2 => wipe σ2 vs = wipe σ vs ∧ te σ2 H2 fun y H4 => ∃ acc, H4 D = some (.lst acc) ∧ acc.length < sizeLine ∧ Pv (i + 1) (upd H4 D (.lst (acc ++ [y])))) (hd : ∀ H, Pv xs.length H → Qd H) :
    LcEnd (Itl K a) g te vs σ H1 D Qd := lc_list (tt := tYes) Pv h0 hl (fun i x H hx p => hs i x H hx p) hd
theorem lcY_tup {a : Addr} {xs : List V} (Pv : Nat → Hp → Prop) (h0 : Pv 0 (upd H1 D (.lst []))) (hl : ∀ i H, i ≤ xs.length → Pv i H → SqT K H a xs)
    (hs : ∀ i x H, xs[i]? = some x → Pv i H → g x (wipe σ vs) H fun σ2 H2 => wipe σ2 vs = wipe σ vs ∧ te σ2 H2 fun y H4 => ∃ acc, H4 D = some (.lst acc) ∧ acc.length < sizeLine ∧ Pv (i + 1) (upd H4 D (.lst (acc ++ [y])))) (hd : ∀ H, Pv xs.length H → Qd H) :
    LcEnd (Itt K a) g te vs σ H1 D Qd := lc_tup (tt := tYes) Pv h0 hl (fun i x H hx p => hs i x H hx p) hd
theorem lcY_rg {n : Nat} (Pv : Nat → Hp → Prop) (h0 : Pv 0 (upd H1 D (.lst [])))
    (hs : ∀ i H, i < n → Pv i H → g (.int (i : Int)) (wipe σ vs) H fun σ2 H2 => wipe σ2 vs = wipe σ vs ∧ te σ2 H2 fun y H4 => ∃ acc, H4 D = some (.lst acc) ∧ acc.length < sizeLine ∧ Pv (i + 1) (upd H4 D (.lst (acc ++ [y])))) (hd : ∀ H, Pv n H → Qd H) :
    LcEnd (Itr 0 n) g te vs σ H1 D Qd := lc_rg (tt := tYes) Pv h0 (fun i H hi p => hs i H hi p) hd
end
theorem ixn {n j : Nat} (h : j < n) : ixN n (j : Int) = some j := by
  unfold ixN
  rw [if_pos (by omega), if_pos (by omega), Int.toNat_natCast]
theorem rep_row (n : Nat) (v : Int) : (List.replicate n [V.int v]).flatten = rowV n fun _ => v := by
  induction n with
  | zero => rfl
  | succ n ih => rw [List.replicate_succ', List.flatten_append, ih, ← rowV_snoc]; rfl
theorem take_snoc {α : Type} {l : List α} {i : Nat} {x : α} (h : l[i]? = some x) : l.take (i + 1) = l.take i ++ [x] := by rw [List.take_add_one, h]; rfl
/-! ### rules by the fragment: within a comprehension the rule must not name the block -/
section
variable {X : Cx} (K : PySem.W.Frag)
theorem ixL (e : X.K = K) : IxR X (rIxL K) := e ▸ ix_list
theorem ixT (e : X.K = K) : IxR X (rIxT K) := e ▸ ix_tup
theorem oIn (e : X.K = K) : OpR X (compareOp .In) (rIn K false) := e ▸ op_in_seq
theorem oNi (e : X.K = K) : OpR X (compareOp .NotIn) (rIn K true) := e ▸ op_notIn_seq
theorem cMn (e : X.K = K) (hc : X.calm = true) : CallR X (.builtin "min") (rMin K) := e ▸ cr_min hc
theorem cLo (e : X.K = K) : CallR X (.type "list") (fun xs H Q => ∃ p ys, xs = [.ref p] ∧ (SqL K H p ys ∨ SqT K H p ys) ∧ ∀ l, H l = none → Q (.ref l) (upd H l (.lst ys))) := e ▸ call_list_of
theorem pgT (n : Nat) (e : X.K = K) {es : List Expr} {k : Nat} {t : TGs} {pos : Pos} (hc : X.calm = true) (h : PGs X es t)
    (hn : (assignEach es X.env).length = n := by rfl) (hst : (assignEach es X.env).findIdx? (·.1) = none := by rfl) : PG X (.Tuple es k pos) (gTup K n t) := e ▸ pg_tup hc h hn hst
theorem piL (e : X.K = K) {tg l : Expr} {tl : TE} (hl : PE X l tl) : PI X tg l (iList K tl) := e ▸ pi_list hl
end
theorem neI {x y : Nat} : ((!decide (V.int (x : Int) = V.int (y : Int))) = true) ↔ x ≠ y := by
  rw [Bool.not_eq_true', decide_eq_false_iff_not]
  constructor
  · intro h e; exact h (by rw [e])
  · intro h e
    have := V.int.inj e
    omega
theorem iteF' {A B : Prop} (h : B) : if false = true then A else B := by rw [if_neg Bool.false_ne_true]; exact h
/-! ### promises -/
def mems (n m : Nat) : List Nat := (List.range n).filter fun h => m.testBit h
def spHolds : Sp := fun vs H Q _ => ∃ m h : Nat, vs = [.int (m : Int), .int (h : Int)] ∧ Q (.bl (m.testBit h)) H
def spWith : Sp := fun vs H Q _ => ∃ m h : Nat, vs = [.int (m : Int), .int (h : Int)] ∧ h ≤ 1000 ∧ Q (.int ((m ||| 2 ^ h : Nat) : Int)) H
def spWhole : Sp := fun vs H Q _ => ∃ n : Int, vs = [.int n] ∧ Q (.bl true) H
def spRanks : Sp := fun vs H Q _ => ∃ (t : Addr) (s : List Nat) (n : Nat), vs = [.ref t, .int (n : Int)] ∧ TupAt H t s ∧ n ≤ 5 ∧ ∀ H' p, Same H H' → H' p = some (.lst (rowV n fun h => (rk s h : Int))) → Q (.ref p) H'
def spPlaces : Sp := fun vs H Q _ => ∃ (t : Addr) (s : List Nat) (n : Nat), vs = [.ref t, .int (n : Int)] ∧ TupAt H t s ∧ n ≤ 5 ∧ ∀ H' p, Same H H' → H p = none → H' p = some (.lst (rowV n fun h => (place n s h : Int))) → Q (.ref p) H'
def spOvers : Sp := fun vs H Q _ => ∃ (a : Addr) (L : List Line) (n : Nat), vs = [.ref a, .int (n : Int)] ∧ LinesAt H a L ∧ n ≤ 5 ∧ ∀ H' p, Same H H' → MatAt H' p n (ov n L) → Q (.ref p) H'
def spLeads : Sp := fun vs H Q _ => ∃ (a : Addr) (n : Nat) (M : Mat), vs = [.ref a] ∧ MatAt H a n M ∧ n ≤ 5 ∧ ∀ H' p, Same H H' → MatAt H' p n (ld M) → Q (.ref p) H'
def spStren : Sp := fun vs H Q _ => ∃ (a : Addr) (n : Nat) (M : Mat), vs = [.ref a] ∧ MatAt H a n M ∧ n ≤ 5 ∧ ∀ H' p, Same H H' → MatAt H' p n (stren n M) → Q (.ref p) H'
def spWay : Sp := fun vs H Q _ => ∃ (a : Addr) (n : Nat) (M : Mat) (w : Int) (x y : Nat), vs = [.ref a, .int w, .int (x : Int), .int (y : Int)] ∧ MatAt H a n M ∧ n ≤ 5 ∧ x < n ∧ ∀ v H', Same H H' → Q v H'
def spCut : Sp := fun vs H Q _ => ∃ (a : Addr) (n : Nat) (M : Mat) (w : Int) (x : Nat), vs = [.ref a, .int w, .int (x : Int)] ∧ MatAt H a n M ∧ n ≤ 5 ∧ x < n ∧ ∀ v H', Same H H' → Q v H'
def spLots : Sp := fun vs H Q _ => ∃ (n : Nat) (a : Addr) (ns : List Nat), vs = [.int (n : Int), .ref a] ∧ n ≤ 5 ∧ H a = some (.lst (natV ns)) ∧ ns.Perm (List.range n) ∧ ∀ H' p, Same H H' → H p = none → H' p = some (.lst (natV ns)) → Q (.ref p) H'
def spInit (C : Addr) : Sp := fun vs H Q _ => ∃ (p dx : Addr) (n s : Nat) (a : Addr) (ns : List Nat), vs = [.ref p, .int (n : Int), .int (s : Int), .ref a] ∧ H p = some (.ins C dx []) ∧ 1 ≤ n ∧ n ≤ 5 ∧ 1 ≤ s ∧ s ≤ 60 ∧ H a = some (.lst (natV ns)) ∧ ns.Perm (List.range n) ∧
  ∀ H', WayAt C H' p n s ns → (∀ b o, H b = some o → b ≠ p → H' b = some o) → Q .non H'
def spUnb (K : PySem.W.Frag) : Sp := fun vs H Q _ => ∃ (a b : Addr) (n : Nat) (M : Mat) (l : List Nat), vs = [.ref a, .ref b] ∧ MatAt H a n M ∧ n ≤ 5 ∧ H b = some (.lst (natV l)) ∧ l.length ≤ 5 ∧ (∀ x ∈ l, x < n) ∧ ∀ H' p, Same H H' → H p = none → H' p = some (.lst (natV (unb M l))) → Q (.ref p) H'
def spPicks (C : Addr) : Sp := fun vs H Q _ => ∃ (w a : Addr) (n s : Nat) (ns : List Nat) (L : Mat), vs = [.ref w, .ref a] ∧ WayAt C H w n s ns ∧ MatAt H a n (stren n L) ∧ n ≤ 5 ∧ ns.length = n ∧ (∀ x ∈ ns, x < n) ∧
  ∀ H' p, Same H H' → H' p = some (.lst (natV (picks (stren n L) ns (min s n)))) → Q (.ref p) H'
abbrev S (n : Nat) (L : List Line) : Mat := stren n (ld (ov n L))
def spBeats (C : Addr) : Sp := fun vs H Q _ => ∃ (w a : Addr) (x y n s : Nat) (ns : List Nat) (L : List Line), vs = [.ref w, .ref a, .int (x : Int), .int (y : Int)] ∧ WayAt C H w n s ns ∧ LinesAt H a L ∧ n ≤ 5 ∧ x < n ∧ y < n ∧ ∀ H', Same H H' → Q (.bl (decide (S n L y x < S n L x y))) H'
def spUnbeaten (C : Addr) : Sp := fun vs H Q _ => ∃ (w a : Addr) (n s : Nat) (ns : List Nat) (L : List Line), vs = [.ref w, .ref a] ∧ WayAt C H w n s ns ∧ LinesAt H a L ∧ n ≤ 5 ∧
  ∀ (H' : Hp) (m : Nat), Same H H' → m < 32 → (∀ h, m.testBit h = decide (h ∈ unb (S n L) (List.range n))) → Q (.int (m : Int)) H'
def spCounted (C : Addr) : Sp := fun vs H Q _ => ∃ (w a : Addr) (n s : Nat) (ns : List Nat) (L : List Line), vs = [.ref w, .ref a] ∧ WayAt C H w n s ns ∧ LinesAt H a L ∧ n ≤ 5 ∧ ns.length = n ∧ (∀ x ∈ ns, x < n) ∧
  ∀ H' p u v q, Same H H' → H' p = some (.tup [u, v, .ref q]) → H' q = some (.lst (natV (picks (S n L) ns (min s n)))) → Q (.ref p) H'
def toldV (n : Nat) (ps : List Nat) : List V := rowV n fun h => if h ∈ ps then 1 else 0
def spTold (C : Addr) : Sp := fun vs H Q _ => ∃ (w p : Addr) (n s : Nat) (ns : List Nat) (u v : V) (q : Addr) (ps : List Nat), vs = [.ref w, .ref p] ∧ WayAt C H w n s ns ∧ n ≤ 5 ∧ H p = some (.tup [u, v, .ref q]) ∧ H q = some (.lst (natV ps)) ∧
  ∀ H' p, Same H H' → H' p = some (.lst (toldV n ps)) → Q (.ref p) H'
def spOutcome (C : Addr) : Sp := fun vs H Q _ => ∃ (w a : Addr) (n s : Nat) (ns : List Nat) (L : List Line), vs = [.ref w, .ref a] ∧ WayAt C H w n s ns ∧ LinesAt H a L ∧ n ≤ 5 ∧ ns.length = n ∧ (∀ x ∈ ns, x < n) ∧
  ∀ H' p, Same H H' → H' p = some (.lst (toldV n (picks (S n L) ns (min s n)))) → Q (.ref p) H'
/-! the law's own -/
def spBag (K : PySem.W.Frag) : Sp := fun vs H Q _ => ∃ (a : Addr) (ns : List Int), vs = [.ref a] ∧ SqL K H a (ns.map V.int) ∧ ns.length ≤ 63 ∧ ∀ H' b cl, Same H H' → BagAt cl H' b → Q (.ref b) H'
def spTake : Sp := fun vs H Q _ => ∃ (cl b : Addr) (m : Nat), vs = [.ref b, .int (m : Int)] ∧ BagAt cl H b ∧ 1 ≤ m ∧ m ≤ 1000 ∧ ∀ (H' : Hp) (r : Nat), r < m → BagAt cl H' b → SameBut b H H' → Q (.int (r : Int)) H'
def spOne : Sp := fun vs H Q _ => ∃ (cl b a : Addr) (xs : List V), vs = [.ref b, .ref a] ∧ BagAt cl H b ∧ H a = some (.lst xs) ∧ a ≠ b ∧ xs ≠ [] ∧ xs.length ≤ 1000 ∧ ∀ (H' : Hp) (v : V), v ∈ xs → BagAt cl H' b → SameBut b H H' → Q v H'
def shownOk (ns : List Int) : Prop := (PyData.list (ns.map PyData.int)).shown.length ≤ sizeLine ∧ (PyData.list (ns.map PyData.int)).showable = true ∧ (PyData.list (ns.map PyData.int)).hasDict = false ∧ (PyData.list (ns.map PyData.int)).depth ≤ 60
def spAlike : Sp := fun vs H Q _ => (∃ b : Bool, vs = [.bl b, .bl b] ∧ Q (.bl true) H) ∨ ∃ (p q : Addr) (ns : List Int), vs = [.ref p, .ref q] ∧ H p = some (.lst (ns.map V.int)) ∧ H q = some (.lst (ns.map V.int)) ∧ shownOk ns ∧ Q (.bl true) H
def spMixed : Sp := fun vs H Q _ => ∃ (cl b a : Addr) (ns : List Nat), vs = [.ref b, .ref a] ∧ BagAt cl H b ∧ H a = some (.lst (natV ns)) ∧ a ≠ b ∧ ns.length ≤ 100 ∧ ∀ H' p ns', ns'.Perm ns → BagAt cl H' b → SameBut b H H' → H p = none → H' p = some (.lst (natV ns')) → Q (.ref p) H'
def spSlip : Sp := fun vs H Q _ => ∃ (cl b : Addr) (n : Nat), vs = [.ref b, .int (n : Int)] ∧ BagAt cl H b ∧ 2 ≤ n ∧ n ≤ 5 ∧ ∀ H' t s, SlipOk n s → BagAt cl H' b → SameBut b H H' → H t = none → TupAt H' t s → Q (.ref t) H'
def spLines : Sp := fun vs H Q _ => ∃ (cl b : Addr) (n m k : Nat), vs = [.ref b, .int (n : Int), .int (m : Int), .int (k : Int)] ∧ BagAt cl H b ∧ 2 ≤ n ∧ n ≤ 5 ∧ m ≤ 100 ∧ 1 ≤ k ∧ k ≤ 1000 ∧
  ∀ H' p L, LinesOk n L → L.length = m → BagAt cl H' b → SameBut b H H' → H p = none → p ≠ b → LinesAt H' p L → Q (.ref p) H'
def spTog : Sp := fun vs H Q _ => ∃ (a : Addr) (L : List Line), vs = [.ref a] ∧ LinesAt H a L ∧ L.length ≤ 200 ∧ ∀ H' p L', Tog L L' → Same H H' → H p = none → LinesAt H' p L' → Q (.ref p) H'
def spMem : Sp := fun vs H Q _ => ∃ m n : Nat, vs = [.int (m : Int), .int (n : Int)] ∧ n ≤ 5 ∧ ∀ H' p, Same H H' → H p = none → H' p = some (.lst (natV (mems n m))) → Q (.ref p) H'
def spTurned : Sp := fun vs H Q _ => ∃ (t : Addr) (s : List Nat) (n : Nat), vs = [.ref t, .int (n : Int)] ∧ TupAt H t s ∧ SlipOk n s ∧ n ≤ 5 ∧ ∀ H' q, Same H H' → TupAt H' q (turned n s) → Q (.ref q) H'
def spAhead : Sp := fun vs H Q _ => ∃ (t : Addr) (s : List Nat) (n h : Nat), vs = [.ref t, .int (h : Int)] ∧ TupAt H t s ∧ SlipOk n s ∧ n ≤ 5 ∧ h < n ∧ ∀ H' q, Same H H' → TupAt H' q (ahead h s) → Q (.ref q) H'
def spSetF (C : Addr) : Sp := fun vs H Q _ => ∃ (w a : Addr) (n : Nat) (ns : List Nat) (L : List Line), vs = [.ref w, .ref a, .int (n : Int)] ∧ WayAt C H w n n ns ∧ LinesAt H a L ∧ 2 ≤ n ∧ n ≤ 5 ∧ ns.Perm (List.range n) ∧ ∀ H', Same H H' → Q (.bl true) H'
def spSeats : Sp := fun vs H Q _ => ∃ (a l : Addr) (n : Nat) (ns : List Nat) (L : List Line), vs = [.ref a, .int (n : Int), .ref l] ∧ H l = some (.lst (natV ns)) ∧ LinesAt H a L ∧ 2 ≤ n ∧ n ≤ 5 ∧ ns.Perm (List.range n) ∧ ∀ H', Same H H' → Q (.bl true) H'
def spTurnR (C : Addr) : Sp := fun vs H Q _ => ∃ (w a : Addr) (n s : Nat) (ns : List Nat) (L : List Line), vs = [.ref w, .ref a, .int (n : Int)] ∧ WayAt C H w n s ns ∧ LinesAt H a L ∧ LinesOk n L ∧ L.length ≤ 100 ∧ 2 ≤ n ∧ n ≤ 5 ∧ ∀ H', Same H H' → Q (.bl true) H'
def spRaise (C : Addr) : Sp := fun vs H Q _ => ∃ (cl b w a : Addr) (n s : Nat) (ns : List Nat) (L : List Line), vs = [.ref b, .ref w, .ref a, .int (n : Int)] ∧ BagAt cl H b ∧ WayAt C H w n s ns ∧ LinesAt H a L ∧ LinesOk n L ∧ L.length ≤ 100 ∧ 2 ≤ n ∧ n ≤ 5 ∧
  ∀ H', BagAt cl H' b → SameBut b H H' → Q (.bl true) H'
def spLaw (K : PySem.W.Frag) : Sp := fun vs H Q _ => ∃ (a : Addr) (ns : List Int), vs = [.ref a] ∧ SqL K H a (ns.map V.int) ∧ ns.length ≤ 63 ∧ ∀ H', Q (.bl true) H'
end Wp
end
section
set_option Elab.async false
set_option linter.all false
set_option maxRecDepth 100000
set_option maxHeartbeats 4000000
namespace Wp
open PySem PySem.Spec PyProof.Rows L2
/-! ### holds, with_one, is_whole -/
theorem sc_s_holds : FnScope ["mask", "hand"] ["mask", "hand"] (defScope s_holds) := ⟨rfl, rfl, rfl, by decide +kernel, rfl, by decide +kernel, by decide +kernel⟩
-- slots: 0 mask 1 hand
theorem sc_s_with_one : FnScope ["mask", "hand"] ["mask", "hand"] (defScope s_with_one) := ⟨rfl, rfl, rfl, by decide +kernel, rfl, by decide +kernel, by decide +kernel⟩
-- slots: 0 mask 1 hand
theorem sc_s_is_whole : FnScope ["thing"] ["thing"] (defScope s_is_whole) := ⟨rfl, rfl, rfl, by decide +kernel, rfl, by decide +kernel, by decide +kernel⟩
-- slots: 0 thing
theorem bit_one (m h : Nat) : Builtin.bitAnd ((m : Int) / 2 ^ h) 1 = if m.testBit h = true then 1 else 0 := by
  have e : (m : Int) / 2 ^ h = ((m / 2 ^ h : Nat) : Int) := by
    rw [Int.natCast_ediv, Int.natCast_pow]; rfl
  rw [e, bitAnd_pp (Int.natCast_nonneg _) (by decide), Int.toNat_natCast, Int.toNat_one, Nat.and_one_is_mod]
  rw [Nat.testBit_eq_decide_div_mod_eq]
  have : m / 2 ^ h % 2 < 2 := Nat.mod_lt _ (by decide)
  by_cases c : m / 2 ^ h % 2 = 1
  · rw [c]; rfl
  · rw [show m / 2 ^ h % 2 = 0 by omega]; rfl
theorem bit_or (m h : Nat) : Builtin.bitOr (m : Int) (1 * 2 ^ h) = ((m ||| 2 ^ h : Nat) : Int) := by
  have e : (1 * 2 ^ h : Int) = ((2 ^ h : Nat) : Int) := by rw [Int.natCast_pow, Int.one_mul]; rfl
  rw [e, Bits.bitOr_pp (Int.natCast_nonneg _) (Int.natCast_nonneg _), Int.toNat_natCast, Int.toNat_natCast]
section
variable {P : Program} {w : World} {K : PySem.W.Frag} {mg : Str → Option Value} {base : Heap}
theorem cal_holds (T : Tp K mg) : Cal P w K mg base "holds" 1 ["mask", "hand"] spHolds := by
  obtain ⟨fd, F⟩ := T.f_holds
  refine ⟨_, fd, T.g_holds, F.kp, F.bindsN fun _ _ _ _ _ _ us hl => match us, hl with | [_, _], _ => rfl, okd F sc_s_holds (fun vs H Q E h => ?_) (fun cdv A fr s H vs Q E hr h => ?_)⟩
  · obtain ⟨m, n, rfl, _⟩ := h
    rfl
  · obtain ⟨m, h, rfl, q⟩ := h
    refine ⟨_, (pss_one (ps_ret (pe_cmpR op_eq (pe_op op_and (pe_op op_shr (pv 0) (pv 1)) pe_int) pe_int (nomark _)))), ?_⟩
    refine ⟨_, rfl, _, rfl, _, _, rfl, rfl, (by omega), _, _, rfl, rfl, rfl, ?_⟩
    show Q (V.bl (decide (V.int (Builtin.bitAnd ((m : Int) / 2 ^ (h : Int).toNat) 1) = V.int 1))) H
    rw [Int.toNat_natCast, bit_one]
    cases e : m.testBit h with
    | true => rw [e] at q; exact q
    | false => rw [e] at q; exact q
theorem cal_with_one (T : Tp K mg) : Cal P w K mg base "with_one" 1 ["mask", "hand"] spWith := by
  obtain ⟨fd, F⟩ := T.f_with_one
  refine ⟨_, fd, T.g_with_one, F.kp, F.bindsN fun _ _ _ _ _ _ us hl => match us, hl with | [_, _], _ => rfl, okd F sc_s_with_one (fun vs H Q E h => ?_) (fun cdv A fr s H vs Q E hr h => ?_)⟩
  · obtain ⟨m, n, rfl, _⟩ := h
    rfl
  · obtain ⟨m, h, rfl, hh, q⟩ := h
    refine ⟨_, (pss_one (ps_ret (pe_op op_or (pv 0) (pe_op op_shl pe_int (pv 1))))), ?_⟩
    refine ⟨_, rfl, _, rfl, _, _, rfl, rfl, ⟨by omega, by omega, by decide⟩, _, _, rfl, rfl, ?_⟩
    show Q (V.int (Builtin.bitOr (m : Int) (1 * 2 ^ (h : Int).toNat))) H
    rw [Int.toNat_natCast, bit_or]
    exact q
theorem cal_is_whole (T : Tp K mg) : Cal P w K mg base "is_whole" 1 ["thing"] spWhole := by
  obtain ⟨fd, F⟩ := T.f_is_whole
  refine ⟨_, fd, T.g_is_whole, F.kp, F.bindsN fun _ _ _ _ _ _ us hl => match us, hl with | [_], _ => rfl, okd F sc_s_is_whole (fun vs H Q E h => ?_) (fun cdv A fr s H vs Q E hr h => ?_)⟩
  · obtain ⟨n, rfl, _⟩ := h
    rfl
  · obtain ⟨n, rfl, q⟩ := h
    refine ⟨_, (pss_one (ps_ret (pe_and (pe_callB call_isi (by rfl) T.m_isinstance (by decide +kernel) (pa_cons (pv 0) (pa_cons (pe_bltn (v := .ty "int") (by rfl) T.m_int (by decide +kernel) rfl) pa_nil))) (pe_one (pe_not (pe_callB call_isi (by rfl) T.m_isinstance (by decide +kernel) (pa_cons (pv 0) (pa_cons (pe_bltn (v := .ty "bool") (by rfl) T.m_bool (by decide +kernel) rfl) pa_nil)))))))), ?_⟩
    refine ⟨_, rfl, _, _, _, _, true, rfl, .ty "int", .base (.int n), kit_ty (by decide +kernel), true, rfl, iteT ?_⟩
    exact ⟨_, rfl, _, _, _, _, false, rfl, .ty "bool", .base (.int n), kit_ty (by decide +kernel), false, rfl, q⟩
end
end Wp
end
section
set_option Elab.async false
set_option linter.all false
set_option maxRecDepth 100000
set_option maxHeartbeats 4000000
namespace Wp
open PySem PySem.Spec PyProof.Rows L2
/-! ### ranks_of, places_of -/
theorem sc_s_ranks_of : FnScope ["slip", "hands", "ranks", "at", "tier", "hand"] ["slip", "hands"] (defScope s_ranks_of) := ⟨rfl, rfl, rfl, by decide +kernel, rfl, by decide +kernel, by decide +kernel⟩
-- slots: 0 slip 1 hands 2 ranks 3 at 4 tier 5 hand
theorem sc_s_places_of : FnScope ["slip", "hands", "rank"] ["slip", "hands"] (defScope s_places_of) := ⟨rfl, rfl, rfl, by decide +kernel, rfl, by decide +kernel, by decide +kernel⟩
-- slots: 0 slip 1 hands* 2 rank
section
variable {P : Program} {w : World} {K : PySem.W.Frag} {mg : Str → Option Value} {base : Heap}
theorem cal_ranks_of (T : Tp K mg) : Cal P w K mg base "ranks_of" 2 ["slip", "hands"] spRanks := by
  obtain ⟨fd, F⟩ := T.f_ranks_of
  refine ⟨_, fd, T.g_ranks_of, F.kp, F.bindsN fun _ _ _ _ _ _ us hl => match us, hl with | [_, _], _ => rfl, okd F sc_s_ranks_of (fun vs H Q E h => ?_) (fun cdv A fr s0 H vs Q E hr h => ?_)⟩
  · obtain ⟨t, s, n, rfl, _⟩ := h
    rfl
  · obtain ⟨t, s, n, rfl, ht, hn, q⟩ := h
    refine ⟨_, (pss_cons (ps_set (i := 2) sc_s_ranks_of.nd rfl (.inl rfl) (pe_op op_rep (pe_lst (pa_cons pe_int pa_nil)) (pv 1)))
      (pss_cons (ps_for PassesOwn.never rfl (pi_enumT (by rfl) T.m_enumerate (pa_cons (pv 0) pa_nil)) (pg_tup rfl (pgs_cons (pg_name (i := 3) sc_s_ranks_of.nd rfl (.inl rfl)) (pgs_cons (pg_name (i := 4) sc_s_ranks_of.nd rfl (.inl rfl)) pgs_nil))) (pss_one (ps_for PassesOwn.never rfl (pi_range1 (by rfl) T.m_range (pa_cons (pv 1) pa_nil)) (pg_name (i := 5) sc_s_ranks_of.nd rfl (.inl rfl)) (pss_one (ps_if (pt_val (pcl (cal_holds T) (hr.mono (by decide)) (by rfl) (pa_cons (pv 4) (pa_cons (pv 5) pa_nil)))) (pss_one (ps_asg (pe_op op_add (pv 3) pe_int) (pg_sub (pv 2) (pv 5) set_list))) pss_nil)))))
      (pss_one (ps_ret (pv 2))))), ?_⟩
    -- ranks = [0] * hands
    refine ⟨by decide, fun l nl => ⟨_, rfl, l, _, _, rfl, rfl, upd_same, by omega, by omega, ?_, fun p np => ?_⟩⟩
    · show 1 * (n : Int).toNat ≤ sizeLine
      rw [Int.toNat_natCast, Nat.one_mul]
      exact sz (by omega)
    · have s1 : Same H (upd H l (.lst [.int 0])) := same_upd nl
      have npH : H p = none := s1.free np
      have s2 : Same H (upd (upd H l (.lst [.int 0])) p (.lst (rowV n fun _ => 0))) := s1.trans (same_upd np)
      have ep : (List.replicate (n : Int).toNat [V.int 0]).flatten = rowV n fun _ => 0 := by rw [Int.toNat_natCast]; exact rep_row n 0
      show tSeq _ _ _ _ (upd (upd H l (.lst [.int 0])) p (.lst (List.replicate (n : Int).toNat [V.int 0]).flatten))
      rw [ep]
      -- for at, tier in enumerate(slip)
      refine ⟨_, rfl, t, _, rfl, SqT.of (s2 _ _ ht), for_enumT (K := K) (a := t) (xs := natV s) (fun i σ H' => ∃ y3 y4 y5, σ = [some (.ref t), some (.int (n : Int)), some (.ref p), y3, y4, y5] ∧ Same H H' ∧ H' p = some (.lst (rowV n fun h => (rk (s.take i) h : Int))))
        ⟨none, none, none, rfl, s2, ?_⟩ (fun i σ H' ⟨_, _, _, _, sm, _⟩ => SqT.of (sm _ _ ht)) ?_ ?_⟩
      · rw [upd_same]; rfl
      · rintro i x T σ H' hx ⟨y3, y4, y5, rfl, sm, hp⟩ nT
        obtain ⟨k, hk, rfl⟩ := natV_of hx
        refine ⟨T, _, rfl, SqT.of upd_same, rfl, _, _, rfl, _, _, rfl, rfl, ?_⟩
        have pT : p ≠ T := ne_of_none hp nT
        have smT := sm.trans (same_upd (o := .tup [.int (i : Nat), .int (k : Int)]) nT)
        -- for hand in range(hands)
        refine ⟨_, rfl, (n : Int), rfl, (i62 (by omega)).1, (i62 (by omega)).2, for_rg (n := n) (fun j σ H' => ∃ y5, σ = [some (.ref t), some (.int (n : Int)), some (.ref p), some (.int (i : Nat)), some (.int (k : Int)), y5] ∧ Same H H' ∧
          H' p = some (.lst (rowV n fun h => if h < j ∧ k.testBit h = true then ((i + 1 : Nat) : Int) else (rk (s.take i) h : Int)))) ⟨y5, rfl, smT, ?_⟩ ?_ ?_⟩
        · rw [upd_ne pT, hp]
          exact congrArg (fun r => some (HO.lst r)) (rowV_congr fun h _ => by rw [if_neg (fun c => absurd c.1 (Nat.not_lt_zero _))])
        · rintro j σ H' hj ⟨y5, rfl, sm, hp⟩
          -- if holds(tier, hand)
          refine ⟨_, rfl, _, rfl, k, j, rfl, _, rfl, ite2 (fun c => ?_) (fun c => ?_)⟩
          · -- ranks[hand] = at + 1
            refine ⟨_, rfl, _, _, rfl, rfl, _, rfl, _, rfl, p, _, _, j, rfl, rfl, hp, by rw [rowV_len]; exact ixn hj, _, rfl, Same.updN sm npH, ?_⟩
            rw [upd_same, rowV_set]
            refine congrArg (fun r => some (HO.lst r)) (rowV_congr fun h _ => ?_)
            by_cases e : h = j
            · subst e
              rw [if_pos rfl, if_pos ⟨Nat.lt_succ_self _, c⟩]
              omega
            · rw [if_neg e]
              by_cases c2 : h < j ∧ k.testBit h = true
              · rw [if_pos c2, if_pos ⟨by omega, c2.2⟩]
              · rw [if_neg c2, if_neg fun z => c2 ⟨by omega, z.2⟩]
          · refine ⟨_, rfl, sm, ?_⟩
            rw [hp]
            refine congrArg (fun r => some (HO.lst r)) (rowV_congr fun h _ => ?_)
            by_cases e : h = j
            · subst e
              rw [if_neg fun z => absurd z.1 (Nat.lt_irrefl _), if_neg fun z => c z.2]
            · by_cases c2 : h < j ∧ k.testBit h = true
              · rw [if_pos c2, if_pos ⟨by omega, c2.2⟩]
              · rw [if_neg c2, if_neg fun z => c2 ⟨by omega, z.2⟩]
        · rintro σ H' ⟨y5, rfl, sm, hp⟩
          refine ⟨_, _, _, rfl, sm, ?_⟩
          rw [hp, take_snoc hk]
          refine congrArg (fun r => some (HO.lst r)) (rowV_congr fun h hh => ?_)
          rw [rk_snoc]
          have li : (s.take i).length = i := by
            have := (List.getElem?_eq_some_iff.mp hk).1
            rw [List.length_take]; omega
          rw [li]
          by_cases c : k.testBit h = true
          · rw [if_pos ⟨hh, c⟩, if_pos c]
          · rw [if_neg fun z => c z.2, if_neg c]
      · rintro σ H' ⟨y3, y4, y5, rfl, sm, hp⟩
        rw [natV_len, List.take_length] at hp
        exact ⟨_, rfl, q H' p sm hp⟩
theorem cal_places_of (T : Tp K mg) : Cal P w K mg base "places_of" 3 ["slip", "hands"] spPlaces := by
  obtain ⟨fd, F⟩ := T.f_places_of
  refine ⟨_, fd, T.g_places_of, F.kp, F.bindsN fun _ _ _ _ _ _ us hl => match us, hl with | [_, _], _ => rfl, okd F sc_s_places_of (fun vs H Q E h => ?_) (fun cdv A fr s0 H vs Q E hr h => ?_)⟩
  · obtain ⟨t, s, n, rfl, _⟩ := h
    rfl
  · obtain ⟨t, s, n, rfl, ht, hn, q⟩ := h
    refine ⟨_, (pss_one (ps_ret (pe_lc (own := [("rank", 2)]) (g := gName 2) (tt := tYes) rfl sc_s_places_of.nd (pi_list (pcl (cal_ranks_of T) (hr.mono (by decide)) (by rfl) (pa_cons (pv 0) (pa_cons (pv 1) pa_nil)))) (blkOk_by (own := [("rank", 2)]) (by kernel_rfl)) (fun _ _ _ _ _ => (pg_name (i := 2) sc_s_places_of.nd rfl (Or.inl rfl))) (fun _ _ _ _ _ => pts_nil) (fun _ _ _ _ _ => (pe_ifExp (pt_cmpR op_eq (pv 2) pe_int (nomark _)) (pe_op op_add (pv 1) pe_int) (pv 2)))))), ?_⟩
    refine ⟨_, rfl, _, rfl, t, s, n, rfl, ht, hn, fun H1 p s1 hp => ?_⟩
    refine ⟨p, rfl, ⟨_, SqL.of hp⟩, fun D nD => lcY_list (K := K) (a := p) (xs := rowV n fun h => (rk s h : Int)) (fun i H' => Same H1 H' ∧ H' D = some (.lst (rowV i fun h => (place n s h : Int)))) ⟨same_upd nD, upd_same⟩ (fun i H' _ x => SqL.of (x.1 _ _ hp)) ?_ ?_⟩
    · rintro i x H' hx ⟨sm, hD⟩
      have hi : i < n := by
        have := (List.getElem?_eq_some_iff.mp hx).1
        rwa [rowV_len] at this
      rw [rowV_at _ hi] at hx
      cases hx
      refine ⟨rfl, ?_⟩
      refine ⟨_, rfl, rfl, _, rfl, ite2 (fun c => ?_) (fun c => ?_)⟩
      · refine ⟨_, rfl, _, _, rfl, rfl, _, hD, by rw [rowV_len]; exact small1000 (by omega), Same.updN sm nD, ?_⟩
        rw [upd_same, ← rowV_snoc]
        have e : (rk s i : Int) = 0 := V.int.inj (of_decide_eq_true c)
        have e2 : rk s i = 0 := by omega
        have e3 : (place n s i : Int) = (n : Int) + 1 := by unfold place; rw [if_pos e2]; omega
        rw [e3]
      · refine ⟨_, rfl, _, hD, by rw [rowV_len]; exact small1000 (by omega), Same.updN sm nD, ?_⟩
        rw [upd_same, ← rowV_snoc]
        have e2 : ¬ rk s i = 0 := fun z => c (decide_eq_true (by rw [z]; rfl))
        have e3 : place n s i = rk s i := by unfold place; rw [if_neg e2]
        rw [e3]
    · rintro H' ⟨sm, hD⟩
      rw [rowV_len] at hD
      exact q H' D (s1.trans sm) (s1.free nD) hD
end
end Wp
end
section
set_option Elab.async false
set_option linter.all false
set_option maxRecDepth 100000
set_option maxHeartbeats 4000000
namespace Wp
open PySem PySem.Spec PyProof.Rows L2
/-! ### overs -/
theorem sc_s_overs : FnScope ["sheet", "hands", "found", "x", "slip", "number", "places", "y"] ["sheet", "hands"] (defScope s_overs) := ⟨rfl, rfl, rfl, by decide +kernel, rfl, by decide +kernel, by decide +kernel⟩
-- slots: 0 sheet 1 hands* 2 found 3 x 4 slip 5 number 6 places 7 y
/-- the places of a matrix of one's own -/
structure Mm (H0 : Hp) (D : Addr) (n : Nat) (rs : Nat → Addr) : Prop where
  d : H0 D = none
  f : ∀ j, j < n → H0 (rs j) = none
  ne : ∀ j, j < n → rs j ≠ D
  inj : ∀ j k, j < n → k < n → rs j = rs k → j = k
def MatR (H : Hp) (D : Addr) (n : Nat) (rs : Nat → Addr) (M : Mat) : Prop := H D = some (.lst ((List.range n).map fun i => V.ref (rs i))) ∧ ∀ j, j < n → H (rs j) = some (.lst (rowV n (M j)))
theorem MatR.same {H H' : Hp} {D : Addr} {n : Nat} {rs : Nat → Addr} {M : Mat} (e : Same H H') (h : MatR H D n rs M) : MatR H' D n rs M := ⟨e _ _ h.1, fun j hj => e _ _ (h.2 j hj)⟩
theorem MatR.congr {H : Hp} {D : Addr} {n : Nat} {rs : Nat → Addr} {M M' : Mat} (e : ∀ i j, i < n → j < n → M i j = M' i j) (h : MatR H D n rs M) : MatR H D n rs M' :=
  ⟨h.1, fun i hi => by rw [h.2 i hi]; exact congrArg (fun r => some (HO.lst r)) (rowV_congr fun j hj => e i j hi hj)⟩
theorem MatR.put {H0 H : Hp} {D : Addr} {n : Nat} {rs : Nat → Addr} {M : Mat} {x y : Nat} {v : Int} (m : Mm H0 D n rs) (h : MatR H D n rs M) (hx : x < n) :
    MatR (upd H (rs x) (.lst (rowV n fun k => if k = y then v else M x k))) D n rs (fun i j => if i = x ∧ j = y then v else M i j) := by
  refine ⟨by rw [upd_ne (m.ne x hx).symm]; exact h.1, fun i hi => ?_⟩
  by_cases e : i = x
  · subst e
    rw [upd_same]
    refine congrArg (fun r => some (HO.lst r)) (rowV_congr fun j hj => ?_)
    show (if j = y then v else M i j) = if i = i ∧ j = y then v else M i j
    by_cases c : j = y
    · rw [if_pos c, if_pos ⟨rfl, c⟩]
    · rw [if_neg c, if_neg fun z => c z.2]
  · rw [upd_ne (fun q => e (m.inj i x hi hx q)), h.2 i hi]
    exact congrArg (fun r => some (HO.lst r)) (rowV_congr fun j hj => by dsimp only; rw [if_neg fun z => e z.1])
theorem MatR.at {H : Hp} {D : Addr} {n : Nat} {rs : Nat → Addr} {M : Mat} (h : MatR H D n rs M) : MatAt H D n M := ⟨rs, h.1, h.2⟩
theorem paired_at {α β : Type} {F : α → β → Prop} : ∀ {xs : List α} {ys : List β} {i : Nat} {x : α}, Paired F xs ys → xs[i]? = some x → ∃ y, ys[i]? = some y ∧ F x y
  | _, _, _, _, .nil, h => by simp at h
  | _, _, 0, x, .cons r _, h => by
    have e := Option.some.inj h
    subst e
    exact ⟨_, rfl, r⟩
  | _, _, i + 1, x, .cons _ r, h => paired_at (i := i) r h
section
variable {P : Program} {w : World} {K : PySem.W.Frag} {mg : Str → Option Value} {base : Heap}
theorem cal_overs (T : Tp K mg) : Cal P w K mg base "overs" 4 ["sheet", "hands"] spOvers := by
  obtain ⟨fd, F⟩ := T.f_overs
  refine ⟨_, fd, T.g_overs, F.kp, F.bindsN fun _ _ _ _ _ _ us hl => match us, hl with | [_, _], _ => rfl, okd F sc_s_overs (fun vs H Q E h => ?_) (fun cdv A fr s0 H vs Q E hr h => ?_)⟩
  · obtain ⟨a, L, n, rfl, _⟩ := h
    rfl
  · obtain ⟨a, L, n, rfl, ⟨ls, hla, hls⟩, hn, q⟩ := h
    refine ⟨_, (pss_cons (ps_setLc (i := 2) (own := [("x", 3)]) (g := gName 3) (tt := tYes) rfl sc_s_overs.nd rfl rfl (sw_true rfl rfl rfl (by decide +kernel)) (pi_range1 (by rfl) T.m_range (pa_cons (pv 1) pa_nil)) (blkOk_by (own := [("x", 3)]) (by kernel_rfl)) (fun _ _ _ _ _ => (pg_name (i := 3) sc_s_overs.nd rfl (Or.inl rfl))) (fun _ _ _ _ _ => pts_nil) (fun _ _ _ _ _ => (pe_op op_rep (pe_lst (pa_cons pe_int pa_nil)) (pv 1))))
      (pss_cons (ps_for PassesOwn.never rfl (pi_list (pv 0)) (pg_tup rfl (pgs_cons (pg_name (i := 4) sc_s_overs.nd rfl (.inl rfl)) (pgs_cons (pg_name (i := 5) sc_s_overs.nd rfl (.inl rfl)) pgs_nil))) (pss_cons (ps_set (i := 6) sc_s_overs.nd rfl (.inl rfl) (pcl (cal_places_of T) (hr.mono (by decide)) (by rfl) (pa_cons (pv 4) (pa_cons (pv 1) pa_nil))))
      (pss_one (ps_for PassesOwn.never rfl (pi_range1 (by rfl) T.m_range (pa_cons (pv 1) pa_nil)) (pg_name (i := 3) sc_s_overs.nd rfl (.inl rfl)) (pss_one (ps_for PassesOwn.never rfl (pi_range1 (by rfl) T.m_range (pa_cons (pv 1) pa_nil)) (pg_name (i := 7) sc_s_overs.nd rfl (.inl rfl)) (pss_one (ps_if (pt_cmpR op_lt (pe_ix ix_list (pv 6) (pv 3) (fun _ _ => rfl)) (pe_ix ix_list (pv 6) (pv 7) (fun _ _ => rfl)) (nomark _)) (pss_one (ps_augS (pe_ix ix_list (pv 2) (pv 3) (fun _ _ => rfl)) (pv 7) gt_list (pv 5) ip_add set_list)) pss_nil))))))))
      (pss_one (ps_ret (pv 2))))), ?_⟩
    -- found = [[0] * hands for x in range(hands)]
    refine ⟨_, rfl, (n : Int), rfl, (i62 (by omega)).1, (i62 (by omega)).2, fun D nD => lcY_rg (n := n) (fun i H' => ∃ rs, Mm H D i rs ∧ Same H H' ∧ H' D = some (.lst ((List.range i).map fun j => V.ref (rs j))) ∧ ∀ j, j < i → H' (rs j) = some (.lst (rowV n fun _ => 0)))
      ⟨fun _ => D, ⟨nD, fun j hj => absurd hj (Nat.not_lt_zero _), fun j hj => absurd hj (Nat.not_lt_zero _), fun j k hj => absurd hj (Nat.not_lt_zero _)⟩, same_upd nD, upd_same, fun j hj => absurd hj (Nat.not_lt_zero _)⟩ ?_ ?_⟩
    · rintro i H' hi ⟨rs, m, sm, hD, hR⟩
      refine ⟨rfl, by decide, fun l nl => ⟨_, rfl, l, _, _, rfl, rfl, upd_same, by omega, by omega, ?_, fun p np => ?_⟩⟩
      · show 1 * (n : Int).toNat ≤ sizeLine
        rw [Int.toNat_natCast, Nat.one_mul]
        exact sz (by omega)
      · have s1 : Same H' (upd H' l (.lst [.int 0])) := same_upd nl
        have np' : H' p = none := s1.free np
        have npH : H p = none := sm.free np'
        have pD : D ≠ p := ne_of_none hD np'
        have ep : (List.replicate (n : Int).toNat [V.int 0]).flatten = rowV n fun _ => 0 := by rw [Int.toNat_natCast]; exact rep_row n 0
        have s2 : Same H' (upd (upd H' l (.lst [.int 0])) p (.lst (List.replicate (n : Int).toNat [V.int 0]).flatten)) := s1.trans (same_upd np)
        refine ⟨_, s2 _ _ hD, by rw [List.length_map, List.length_range]; exact small1000 (by omega), fun j => if j < i then rs j else p, ⟨nD, fun j hj => ?_, fun j hj => ?_, fun j k hj hk e => ?_⟩, Same.updN (sm.trans s2) nD, ?_, fun j hj => ?_⟩
        · by_cases c : j < i
          · rw [if_pos c]; exact m.f j c
          · rw [if_neg c]; exact npH
        · by_cases c : j < i
          · rw [if_pos c]; exact m.ne j c
          · rw [if_neg c]; exact pD.symm
        · by_cases c : j < i
          · by_cases c2 : k < i
            · rw [if_pos c, if_pos c2] at e
              exact m.inj j k c c2 e
            · rw [if_pos c, if_neg c2] at e
              exact absurd e (ne_of_none (hR j c) np')
          · by_cases c2 : k < i
            · rw [if_neg c, if_pos c2] at e
              exact absurd e.symm (ne_of_none (hR k c2) np')
            · omega
        · rw [upd_same]
          refine congrArg (fun r => some (HO.lst r)) ?_
          have e1 : V.ref p = V.ref ((fun j => if j < i then rs j else p) i) := by show V.ref p = V.ref (if i < i then rs i else p); rw [if_neg (Nat.lt_irrefl _)]
          rw [e1, ← map_range_snoc]
          congr 1
          exact List.map_congr_left fun j hj => by dsimp only; rw [if_pos (List.mem_range.mp hj)]
        · dsimp only
          by_cases c : j < i
          · rw [if_pos c, upd_ne (m.ne j c)]
            exact s2 _ _ (hR j c)
          · rw [if_neg c, upd_ne pD.symm, upd_same, ep]
    · rintro H1 ⟨rs, m, sm, hD, hR⟩
      -- for slip, number in sheet
      refine ⟨_, rfl, a, rfl, ⟨_, SqL.of (sm _ _ hla)⟩, for_list (K := K) (a := a) (xs := ls) (fun i σ H' => ∃ y3 y4 y5 y6 y7, σ = [some (.ref a), some (.int (n : Int)), some (.ref D), y3, y4, y5, y6, y7] ∧ Same H H' ∧ MatR H' D n rs (ov n (L.take i)))
        ⟨none, none, none, none, none, rfl, sm, hD, hR⟩ (fun i σ H' _ ⟨_, _, _, _, _, _, sm, _⟩ => SqL.of (sm _ _ hla)) ?_ ?_⟩
      · rintro i v σ H' hv ⟨y3, y4, y5, y6, y7, rfl, sm, mr⟩
        obtain ⟨l, hl, pl, t, rfl, hp, ht⟩ := paired_at hls hv
        refine ⟨pl, _, rfl, SqT.of (sm _ _ hp), rfl, _, _, rfl, _, _, rfl, rfl, ?_⟩
        -- places = places_of(slip, hands)
        refine ⟨_, rfl, _, rfl, t, l.1, n, rfl, ht.same sm, hn, fun H2 pp s2 npp hpp => ?_⟩
        have sm2 := sm.trans s2
        have mr2 := mr.same s2
        -- for x in range(hands)
        refine ⟨_, rfl, (n : Int), rfl, (i62 (by omega)).1, (i62 (by omega)).2, for_rg (n := n) (fun x σ H' => ∃ y3 y7, σ = [some (.ref a), some (.int (n : Int)), some (.ref D), y3, some (.ref t), some (.int l.2), some (.ref pp), y7] ∧ Same H H' ∧
          H' pp = some (.lst (rowV n fun h => (place n l.1 h : Int))) ∧ (∀ j, j < n → pp ≠ rs j) ∧ MatR H' D n rs (fun b c => ov n (L.take i) b c + if b < x ∧ place n l.1 b < place n l.1 c then l.2 else 0)) ⟨y3, y7, rfl, sm2, hpp, fun j hj => ?_, ?_⟩ ?_ ?_⟩
        · exact (ne_of_none (mr.2 j hj) npp).symm
        · refine mr2.congr fun b c _ _ => ?_
          rw [if_neg fun z => absurd z.1 (Nat.not_lt_zero _)]; omega
        · rintro x σ H' hx ⟨y3, y7, rfl, sm, hpp, hne, mr⟩
          -- for y in range(hands)
          refine ⟨_, rfl, (n : Int), rfl, (i62 (by omega)).1, (i62 (by omega)).2, for_rg (n := n) (fun y σ H' => ∃ y7, σ = [some (.ref a), some (.int (n : Int)), some (.ref D), some (.int (x : Int)), some (.ref t), some (.int l.2), some (.ref pp), y7] ∧ Same H H' ∧
            H' pp = some (.lst (rowV n fun h => (place n l.1 h : Int))) ∧ (∀ j, j < n → pp ≠ rs j) ∧ MatR H' D n rs (fun b c => ov n (L.take i) b c + if (b < x ∨ (b = x ∧ c < y)) ∧ place n l.1 b < place n l.1 c then l.2 else 0)) ⟨y7, rfl, sm, hpp, hne, ?_⟩ ?_ ?_⟩
          · refine mr.congr fun b c _ _ => ?_
            by_cases z : b < x ∧ place n l.1 b < place n l.1 c
            · rw [if_pos z, if_pos ⟨.inl z.1, z.2⟩]
            · rw [if_neg z, if_neg fun u => z ⟨by omega, u.2⟩]
          · rintro y σ H' hy ⟨y7, rfl, sm, hpp, hne, mr⟩
            -- if places[x] < places[y]
            refine ⟨_, rfl, _, rfl, pp, _, _, _, rfl, rfl, SqL.of hpp, atI_nat (rowV_at _ hx), _, rfl, _, rfl, pp, _, _, _, rfl, rfl, SqL.of hpp, atI_nat (rowV_at _ hy), _, _, rfl, rfl, _, rfl, ite2 (fun c => ?_) (fun c => ?_)⟩
            · have c' : place n l.1 x < place n l.1 y := by have := of_decide_eq_true c; omega
              -- found[x][y] += number
              refine ⟨_, rfl, _, rfl, D, _, _, _, rfl, rfl, SqL.of mr.1, atI_nat (map_range_at _ hx), _, rfl, rs x, _, _, _, rfl, rfl, SqL.of (mr.2 x hx), atI_nat (rowV_at _ hy), _, rfl, _, _, rfl, rfl, rs x, _, _, y, rfl, rfl, mr.2 x hx, by rw [rowV_len]; exact ixn hy, ?_⟩
              refine ⟨_, rfl, Same.updN sm (m.f x hx), by rw [upd_ne (hne x hx)]; exact hpp, hne, ?_⟩
              rw [rowV_set]
              refine (MatR.put m mr hx).congr fun b d _ _ => ?_
              dsimp only
              by_cases z : b = x ∧ d = y
              · obtain ⟨rfl, rfl⟩ := z
                rw [if_pos ⟨rfl, rfl⟩, if_neg (fun u => by omega), if_pos ⟨.inr ⟨rfl, Nat.lt_succ_self _⟩, c'⟩]
                omega
              · rw [if_neg z]
                by_cases u : (b < x ∨ (b = x ∧ d < y)) ∧ place n l.1 b < place n l.1 d
                · rw [if_pos u, if_pos ⟨by omega, u.2⟩]
                · rw [if_neg u, if_neg fun r => u ⟨by omega, r.2⟩]
            · have c' : ¬ place n l.1 x < place n l.1 y := fun z => c (decide_eq_true (by omega))
              refine ⟨_, rfl, sm, hpp, hne, mr.congr fun b d _ _ => ?_⟩
              by_cases z : b = x ∧ d = y
              · rw [if_neg (fun u => by rw [z.1, z.2] at u; exact c' u.2), if_neg (fun u => by rw [z.1, z.2] at u; exact c' u.2)]
              · by_cases u : (b < x ∨ (b = x ∧ d < y)) ∧ place n l.1 b < place n l.1 d
                · rw [if_pos u, if_pos ⟨by omega, u.2⟩]
                · rw [if_neg u, if_neg fun r => u ⟨by omega, r.2⟩]
          · rintro σ H' ⟨y7, rfl, sm, hpp, hne, mr⟩
            refine ⟨_, _, rfl, sm, hpp, hne, mr.congr fun b c hb hc => ?_⟩
            by_cases z : (b < x ∨ (b = x ∧ c < n)) ∧ place n l.1 b < place n l.1 c
            · rw [if_pos z, if_pos ⟨by omega, z.2⟩]
            · rw [if_neg z, if_neg fun u => z ⟨by omega, u.2⟩]
        · rintro σ H' ⟨y3, y7, rfl, sm, hpp, hne, mr⟩
          refine ⟨_, _, _, _, _, rfl, sm, mr.congr fun b c hb hc => ?_⟩
          rw [take_snoc hl]
          show _ = wsum (gOv n b c) (L.take i ++ [l])
          rw [wsum_app, wsum_cons, wsum_nil]
          unfold gOv
          by_cases z : place n l.1 b < place n l.1 c
          · rw [if_pos ⟨hb, z⟩, if_pos z]; show _ = wsum (gOv n b c) (L.take i) + _; unfold ov; omega
          · rw [if_neg (fun u => z u.2), if_neg z]; show _ = wsum (gOv n b c) (L.take i) + _; unfold ov; omega
      · rintro σ H' ⟨y3, y4, y5, y6, y7, rfl, sm, mr⟩
        have hlen : ls.length = L.length := Paired.length hls
        rw [hlen, List.take_length] at mr
        exact ⟨_, rfl, q H' D sm mr.at⟩
end
end Wp
end
section
set_option Elab.async false
set_option linter.all false
set_option maxRecDepth 100000
set_option maxHeartbeats 4000000
namespace Wp
open PySem PySem.Spec PyProof.Rows L2
/-! ### leads_of, strength -/
theorem sc_s_leads_of : FnScope ["many", "hands", "y", "x"] ["many"] (defScope s_leads_of) := ⟨rfl, rfl, rfl, by decide +kernel, rfl, by decide +kernel, by decide +kernel⟩
-- slots: 0 many* 1 hands* 2 y 3 x*
theorem sc_s_strength : FnScope ["leads", "hands", "found", "row", "by", "x", "y"] ["leads"] (defScope s_strength) := ⟨rfl, rfl, rfl, by decide +kernel, rfl, by decide +kernel, by decide +kernel⟩
-- slots: 0 leads 1 hands 2 found 3 row 4 by 5 x 6 y
structure Rows (H0 H : Hp) (D : Addr) (i n : Nat) (rs : Nat → Addr) (M : Mat) : Prop where
  m : Mm H0 D i rs
  sm : Same H0 H
  d : H D = some (.lst ((List.range i).map fun j => V.ref (rs j)))
  r : ∀ j, j < i → H (rs j) = some (.lst (rowV n (M j)))
theorem Rows.zero {H0 : Hp} {D : Addr} {n : Nat} {rs : Nat → Addr} {M : Mat} (h : H0 D = none) : Rows H0 (upd H0 D (.lst [])) D 0 n rs M :=
  ⟨⟨h, fun _ hj => absurd hj (Nat.not_lt_zero _), fun _ hj => absurd hj (Nat.not_lt_zero _), fun _ _ hj => absurd hj (Nat.not_lt_zero _)⟩, same_upd h, upd_same, fun _ hj => absurd hj (Nat.not_lt_zero _)⟩
theorem Rows.snoc {H0 H H4 : Hp} {D p : Addr} {i n : Nat} {rs : Nat → Addr} {M : Mat} (R : Rows H0 H D i n rs M) (s : Same H H4) (np : H p = none) (hp : H4 p = some (.lst (rowV n (M i)))) :
    Rows H0 (upd H4 D (.lst ((List.range i).map (fun j => V.ref (rs j)) ++ [.ref p]))) D (i + 1) n (fun j => if j < i then rs j else p) M := by
  obtain ⟨m, sm, hD, hR⟩ := R
  have pD : D ≠ p := ne_of_none hD np
  have npH : H0 p = none := sm.free np
  refine ⟨⟨m.d, fun j hj => ?_, fun j hj => ?_, fun j k hj hk e => ?_⟩, Same.updN (sm.trans s) m.d, ?_, fun j hj => ?_⟩
  · by_cases c : j < i
    · rw [if_pos c]; exact m.f j c
    · rw [if_neg c]; exact npH
  · by_cases c : j < i
    · rw [if_pos c]; exact m.ne j c
    · rw [if_neg c]; exact pD.symm
  · by_cases c : j < i
    · by_cases c2 : k < i
      · rw [if_pos c, if_pos c2] at e
        exact m.inj j k c c2 e
      · rw [if_pos c, if_neg c2] at e
        exact absurd e (ne_of_none (hR j c) np)
    · by_cases c2 : k < i
      · rw [if_neg c, if_pos c2] at e
        exact absurd e.symm (ne_of_none (hR k c2) np)
      · omega
  · rw [upd_same]
    refine congrArg (fun r => some (HO.lst r)) ?_
    have e1 : V.ref p = V.ref ((fun j => if j < i then rs j else p) i) := by show V.ref p = V.ref (if i < i then rs i else p); rw [if_neg (Nat.lt_irrefl _)]
    rw [e1, ← map_range_snoc]
    congr 1
    exact List.map_congr_left fun j hj => by rw [if_pos (List.mem_range.mp hj)]
  · by_cases c : j < i
    · rw [if_pos c, upd_ne (m.ne j c)]
      exact s _ _ (hR j c)
    · have e : j = i := by omega
      subst e
      rw [if_neg c, upd_ne pD.symm, hp]
/-- a stage half done: the rows below x, and of row x the columns below y -/
def cur (b : Nat) (F : Mat) (x y : Nat) : Mat := fun i j => if i < x ∨ (i = x ∧ j < y) then stg b F i j else F i j
theorem cur_here {b : Nat} {F : Mat} {x y : Nat} : cur b F x y x y = F x y := by unfold cur; rw [if_neg (by omega)]
theorem cur_col {b : Nat} {F : Mat} {x y i : Nat} : cur b F x y i b = F i b := by unfold cur; rw [stg_col]; split <;> rfl
theorem cur_row {b : Nat} {F : Mat} {x y j : Nat} : cur b F x y b j = F b j := by unfold cur; rw [stg_row]; split <;> rfl
theorem cur_skip {b : Nat} {F : Mat} {x y : Nat} (h : ¬ (x ≠ y ∧ x ≠ b ∧ y ≠ b)) (i j : Nat) : cur b F x y i j = cur b F x (y + 1) i j := by
  by_cases e : i = x ∧ j = y
  · obtain ⟨rfl, rfl⟩ := e
    rw [cur_here]
    unfold cur
    rw [if_pos (by omega)]
    unfold stg
    rw [if_neg h]
  · unfold cur
    by_cases c : i < x ∨ (i = x ∧ j < y)
    · rw [if_pos c, if_pos (by omega)]
    · rw [if_neg c, if_neg (by omega)]
theorem cur_put {b : Nat} {F : Mat} {x y : Nat} {v : Int} (h : v = stg b F x y) (i j : Nat) : (if i = x ∧ j = y then v else cur b F x y i j) = cur b F x (y + 1) i j := by
  by_cases e : i = x ∧ j = y
  · obtain ⟨rfl, rfl⟩ := e
    rw [if_pos ⟨rfl, rfl⟩, h]
    unfold cur
    rw [if_pos (by omega)]
  · rw [if_neg e]
    unfold cur
    by_cases c : i < x ∨ (i = x ∧ j < y)
    · rw [if_pos c, if_pos (by omega)]
    · rw [if_neg c, if_neg (by omega)]
section
variable {P : Program} {w : World} {K : PySem.W.Frag} {mg : Str → Option Value} {base : Heap}
theorem cal_leads_of (T : Tp K mg) : Cal P w K mg base "leads_of" 1 ["many"] spLeads := by
  obtain ⟨fd, F⟩ := T.f_leads_of
  refine ⟨_, fd, T.g_leads_of, F.kp, F.bindsN fun _ _ _ _ _ _ us hl => match us, hl with | [_], _ => rfl, okd F sc_s_leads_of (fun vs H Q E h => ?_) (fun cdv A fr s0 H vs Q E hr h => ?_)⟩
  · obtain ⟨a, n, M, rfl, _⟩ := h
    rfl
  · obtain ⟨a, n, M, rfl, ⟨rs, ha, hr0⟩, hn, q⟩ := h
    refine ⟨_, (pss_cons (ps_set (i := 1) sc_s_leads_of.nd rfl (.inr rfl) (pe_listRg rfl (by rfl) T.m_list (prg_1 (by rfl) T.m_range (pe_callB call_len_seq (by rfl) T.m_len (by decide +kernel) (pa_cons (pv 0) pa_nil)))))
      (pss_one (ps_ret (pe_lc (own := [("x", 3)]) (g := gName 3) (tt := tYes) rfl sc_s_leads_of.nd (pi_list (pv 1)) (blkOk_by (own := [("x", 3)]) (by kernel_rfl)) (fun _ _ _ _ _ => (pg_name (i := 3) sc_s_leads_of.nd rfl (Or.inr rfl))) (fun _ _ _ _ _ => pts_nil) (fun _ _ _ _ _ => (pe_lc (own := [("y", 2)]) (g := gName 2) (tt := tYes) rfl sc_s_leads_of.nd (piL K rfl (pv 1)) (blkOk_by (own := [("y", 2)]) (by kernel_rfl)) (fun _ _ _ _ _ => (pg_name (i := 2) sc_s_leads_of.nd rfl (Or.inl rfl))) (fun _ _ _ _ _ => pts_nil) (fun _ _ _ _ _ => (pe_op op_sub (pe_ix (ixL K rfl) (pe_ix (ixL K rfl) (pv 0) (pv 3) (fun _ _ => rfl)) (pv 2) (fun _ _ => rfl)) (pe_ix (ixL K rfl) (pe_ix (ixL K rfl) (pv 0) (pv 2) (fun _ _ => rfl)) (pv 3) (fun _ _ => rfl)))))))))), ?_⟩
    -- hands = list(range(len(many)))
    refine ⟨_, rfl, a, _, rfl, .inl (SqL.of ha), (n : Int), by rw [List.length_map, List.length_range], .of_le (by omega) (by omega) (by omega) (by omega), fun hd nd => ?_⟩
    rw [rgV_nat]
    have s1 : Same H (upd H hd (.lst (natV (List.range n)))) := same_upd nd
    -- the list of lists
    refine ⟨_, rfl, hd, rfl, ⟨_, SqL.of upd_same⟩, fun D nD => lcY_list (K := K) (a := hd) (xs := natV (List.range n)) (fun i H' => ∃ rs', Rows (upd H hd (.lst (natV (List.range n)))) H' D i n rs' (ld M)) ⟨fun _ => D, Rows.zero nD⟩ (fun i H' _ ⟨_, R⟩ => SqL.of (R.sm _ _ upd_same)) ?_ ?_⟩
    · rintro i x H' hx ⟨rs', R⟩
      obtain ⟨i', hi', rfl⟩ := natV_of hx
      have hi : i < n := by
        have := (List.getElem?_eq_some_iff.mp hi').1
        rwa [List.length_range] at this
      rw [List.getElem?_range hi] at hi'
      cases hi'
      refine ⟨rfl, ?_⟩
      refine ⟨_, rfl, hd, rfl, ⟨_, SqL.of (R.sm _ _ upd_same)⟩, fun D2 nD2 => lcY_list (K := K) (a := hd) (xs := natV (List.range n)) (fun j H2 => Same H' H2 ∧ H2 D2 = some (.lst (rowV j (ld M i)))) ⟨same_upd nD2, upd_same⟩ (fun i H' _ x => SqL.of (x.1 _ _ (R.sm _ _ upd_same))) ?_ ?_⟩
      · rintro j x H2 hx ⟨sm, hD2⟩
        obtain ⟨j', hj', rfl⟩ := natV_of hx
        have hj : j < n := by
          have := (List.getElem?_eq_some_iff.mp hj').1
          rwa [List.length_range] at this
        rw [List.getElem?_range hj] at hj'
        cases hj'
        have sall : Same H H2 := s1.trans (R.sm.trans sm)
        refine ⟨rfl, ?_⟩
        refine ⟨_, rfl, _, rfl, a, _, _, _, rfl, rfl, SqL.of (sall _ _ ha), atI_nat (map_range_at _ hi), _, rfl, rs i, _, _, _, rfl, rfl, SqL.of (sall _ _ (hr0 i hi)), atI_nat (rowV_at _ hj),
          _, rfl, _, rfl, a, _, _, _, rfl, rfl, SqL.of (sall _ _ ha), atI_nat (map_range_at _ hj), _, rfl, rs j, _, _, _, rfl, rfl, SqL.of (sall _ _ (hr0 j hj)), atI_nat (rowV_at _ hi), _, _, rfl, rfl, ?_⟩
        refine ⟨_, hD2, by rw [rowV_len]; exact small1000 (by omega), Same.updN sm nD2, ?_⟩
        rw [upd_same, ← rowV_snoc]
        rfl
      · rintro H2 ⟨sm, hD2⟩
        rw [natV_len, List.length_range] at hD2
        refine ⟨_, sm _ _ R.d, by rw [List.length_map, List.length_range]; exact small1000 (by omega), _, Rows.snoc R sm nD2 hD2⟩
    · rintro H' ⟨rs', R⟩
      rw [natV_len, List.length_range] at R
      exact q H' D (s1.trans R.sm) ⟨rs', R.d, R.r⟩
theorem cal_strength (T : Tp K mg) : Cal P w K mg base "strength" 1 ["leads"] spStren := by
  obtain ⟨fd, F⟩ := T.f_strength
  refine ⟨_, fd, T.g_strength, F.kp, F.bindsN fun _ _ _ _ _ _ us hl => match us, hl with | [_], _ => rfl, okd F sc_s_strength (fun vs H Q E h => ?_) (fun cdv A fr s0 H vs Q E hr h => ?_)⟩
  · obtain ⟨a, n, M, rfl, _⟩ := h
    rfl
  · obtain ⟨a, n, M, rfl, ⟨rs0, ha, hr0⟩, hn, q⟩ := h
    refine ⟨_, (pss_cons (ps_set (i := 1) sc_s_strength.nd rfl (.inl rfl) (pe_callB call_len_seq (by rfl) T.m_len (by decide +kernel) (pa_cons (pv 0) pa_nil)))
      (pss_cons (ps_setLc (i := 2) (own := [("row", 3)]) (g := gName 3) (tt := tYes) rfl sc_s_strength.nd rfl rfl (sw_true rfl rfl rfl (by decide +kernel)) (pi_list (pv 0)) (blkOk_by (own := [("row", 3)]) (by kernel_rfl)) (fun _ _ _ _ _ => (pg_name (i := 3) sc_s_strength.nd rfl (Or.inl rfl))) (fun _ _ _ _ _ => pts_nil) (fun _ _ _ _ _ => (pe_callTy (cLo K rfl) (by rfl) T.m_list (by decide +kernel) (pa_cons (pv 3) pa_nil))))
      (pss_cons (ps_for PassesOwn.never rfl (pi_range1 (by rfl) T.m_range (pa_cons (pv 1) pa_nil)) (pg_name (i := 4) sc_s_strength.nd rfl (.inl rfl)) (pss_one (ps_for PassesOwn.never rfl (pi_range1 (by rfl) T.m_range (pa_cons (pv 1) pa_nil)) (pg_name (i := 5) sc_s_strength.nd rfl (.inl rfl)) (pss_one (ps_for PassesOwn.never rfl (pi_range1 (by rfl) T.m_range (pa_cons (pv 1) pa_nil)) (pg_name (i := 6) sc_s_strength.nd rfl (.inl rfl)) (pss_one (ps_if (PW.pt (pw_and (pt_cmpR op_ne (pv 5) (pv 6) (nomark _)) (pw_and (pt_cmpR op_ne (pv 5) (pv 4) (nomark _)) (pw_and1 (pt_cmpR op_ne (pv 6) (pv 4) (nomark _)))))) (pss_one (ps_asg (pe_callB (call_max2 rfl) (by rfl) T.m_max (by decide +kernel) (pa_cons (pe_ix ix_list (pe_ix ix_list (pv 2) (pv 5) (fun _ _ => rfl)) (pv 6) (fun _ _ => rfl)) (pa_cons (pe_callB (call_min2 rfl) (by rfl) T.m_min (by decide +kernel) (pa_cons (pe_ix ix_list (pe_ix ix_list (pv 2) (pv 5) (fun _ _ => rfl)) (pv 4) (fun _ _ => rfl)) (pa_cons (pe_ix ix_list (pe_ix ix_list (pv 2) (pv 4) (fun _ _ => rfl)) (pv 6) (fun _ _ => rfl)) pa_nil))) pa_nil))) (pg_sub (pe_ix ix_list (pv 2) (pv 5) (fun _ _ => rfl)) (pv 6) set_list))) pss_nil)))))))
      (pss_cons (ps_for PassesOwn.never rfl (pi_range1 (by rfl) T.m_range (pa_cons (pv 1) pa_nil)) (pg_name (i := 5) sc_s_strength.nd rfl (.inl rfl)) (pss_one (ps_asg pe_int (pg_sub (pe_ix ix_list (pv 2) (pv 5) (fun _ _ => rfl)) (pv 5) set_list))))
      (pss_one (ps_ret (pv 2))))))), ?_⟩
    -- hands = len(leads)
    refine ⟨_, rfl, a, _, rfl, .inl (SqL.of ha), ?_⟩
    rw [List.length_map, List.length_range]
    -- found = [list(row) for row in leads]
    refine ⟨_, rfl, a, rfl, ⟨_, SqL.of ha⟩, fun D nD => lcY_list (K := K) (a := a) (xs := (List.range n).map fun i => V.ref (rs0 i)) (fun i H' => ∃ rs, Rows H H' D i n rs M) ⟨fun _ => D, Rows.zero nD⟩ (fun i H' _ ⟨_, R⟩ => SqL.of (R.sm _ _ ha)) ?_ ?_⟩
    · rintro i x H' hx ⟨rs, R⟩
      have hi : i < n := by
        have := (List.getElem?_eq_some_iff.mp hx).1
        rwa [List.length_map, List.length_range] at this
      rw [map_range_at _ hi] at hx
      cases hx
      refine ⟨rfl, ?_⟩
      refine ⟨_, rfl, rs0 i, _, rfl, .inl (SqL.of (R.sm _ _ (hr0 i hi))), fun l nl => ?_⟩
      have sl : Same H' (upd H' l (.lst (rowV n (M i)))) := same_upd nl
      exact ⟨_, sl _ _ R.d, by rw [List.length_map, List.length_range]; exact small1000 (by omega), _, Rows.snoc R sl nl upd_same⟩
    · rintro H' ⟨rs, R⟩
      rw [List.length_map, List.length_range] at R
      have m := R.m
      have mr0 : MatR H' D n rs M := ⟨R.d, R.r⟩
      -- for by in range(hands)
      refine ⟨_, rfl, (n : Int), rfl, (i62 (by omega)).1, (i62 (by omega)).2, for_rg (n := n) (fun b σ H' => ∃ y3 y4 y5 y6, σ = [some (.ref a), some (.int (n : Int)), some (.ref D), y3, y4, y5, y6] ∧ Same H H' ∧ MatR H' D n rs (fw b M)) ⟨_, _, _, _, rfl, R.sm, mr0⟩ ?_ ?_⟩
      · rintro b σ H' hb ⟨y3, y4, y5, y6, rfl, sm, mr⟩
        refine ⟨_, rfl, (n : Int), rfl, (i62 (by omega)).1, (i62 (by omega)).2, for_rg (n := n) (fun x σ H' => ∃ y3 y5 y6, σ = [some (.ref a), some (.int (n : Int)), some (.ref D), y3, some (.int (b : Int)), y5, y6] ∧ Same H H' ∧ MatR H' D n rs (cur b (fw b M) x 0)) ⟨_, _, _, rfl, sm, mr.congr fun i j _ _ => by unfold cur; rw [if_neg (by omega)]⟩ ?_ ?_⟩
        · rintro x σ H' hx ⟨y3, y5, y6, rfl, sm, mr⟩
          refine ⟨_, rfl, (n : Int), rfl, (i62 (by omega)).1, (i62 (by omega)).2, for_rg (n := n) (fun y σ H' => ∃ y3 y6, σ = [some (.ref a), some (.int (n : Int)), some (.ref D), y3, some (.int (b : Int)), some (.int (x : Int)), y6] ∧ Same H H' ∧ MatR H' D n rs (cur b (fw b M) x y)) ⟨_, _, rfl, sm, mr⟩ ?_ ?_⟩
          · rintro y σ H' hy ⟨y3, y6, rfl, sm, mr⟩
            refine ⟨_, rfl, _, rfl, rfl, _, rfl, ite2 (fun c1 => ?_) (fun c1 => iteF' ?_)⟩
            · refine ⟨_, rfl, _, rfl, rfl, _, rfl, ite2 (fun c2 => ?_) (fun c2 => iteF' ?_)⟩
              · refine ⟨_, rfl, _, rfl, rfl, _, rfl, ite2 (fun c3 => ?_) (fun c3 => ?_)⟩
                · refine ⟨_, rfl, _, rfl, D, _, _, _, rfl, rfl, SqL.of mr.1, atI_nat (map_range_at _ hx), _, rfl, rs x, _, _, _, rfl, rfl, SqL.of (mr.2 x hx), atI_nat (rowV_at _ hy),
                    _, rfl, _, rfl, D, _, _, _, rfl, rfl, SqL.of mr.1, atI_nat (map_range_at _ hx), _, rfl, rs x, _, _, _, rfl, rfl, SqL.of (mr.2 x hx), atI_nat (rowV_at _ hb),
                    _, rfl, _, rfl, D, _, _, _, rfl, rfl, SqL.of mr.1, atI_nat (map_range_at _ hb), _, rfl, rs b, _, _, _, rfl, rfl, SqL.of (mr.2 b hb), atI_nat (rowV_at _ hy), _, _, rfl, _, _, rfl, ?_⟩
                  refine ⟨_, rfl, _, rfl, D, _, _, _, rfl, rfl, SqL.of mr.1, atI_nat (map_range_at _ hx), _, rfl, rs x, _, _, y, rfl, rfl, mr.2 x hx, by rw [rowV_len]; exact ixn hy, ?_⟩
                  refine ⟨_, _, rfl, Same.updN sm (m.f x hx), ?_⟩
                  rw [rowV_set]
                  refine (MatR.put m mr hx).congr fun i j _ _ => cur_put ?_ i j
                  rw [cur_here, cur_col, cur_row, stg_ne ⟨neI.mp c1, neI.mp c2, neI.mp c3⟩]
                  split <;> split <;> omega
                · exact ⟨_, _, rfl, sm, mr.congr fun i j _ _ => cur_skip (fun z => c3 (neI.mpr z.2.2)) i j⟩
              · exact ⟨_, _, rfl, sm, mr.congr fun i j _ _ => cur_skip (fun z => c2 (neI.mpr z.2.1)) i j⟩
            · exact ⟨_, _, rfl, sm, mr.congr fun i j _ _ => cur_skip (fun z => c1 (neI.mpr z.1)) i j⟩
          · rintro σ H' ⟨y3, y6, rfl, sm, mr⟩
            refine ⟨_, _, _, rfl, sm, mr.congr fun i j hi hj => ?_⟩
            unfold cur
            by_cases c : i < x ∨ (i = x ∧ j < n)
            · rw [if_pos c, if_pos (by omega)]
            · rw [if_neg c, if_neg (by omega)]
        · rintro σ H' ⟨y3, y5, y6, rfl, sm, mr⟩
          refine ⟨_, _, _, _, rfl, sm, mr.congr fun i j hi hj => ?_⟩
          unfold cur
          rw [if_pos (.inl hi)]
          rfl
      · rintro σ H' ⟨y3, y4, y5, y6, rfl, sm, mr⟩
        -- for x in range(hands): found[x][x] = 0
        refine ⟨_, rfl, (n : Int), rfl, (i62 (by omega)).1, (i62 (by omega)).2, for_rg (n := n) (fun x σ H' => ∃ y3 y4 y5 y6, σ = [some (.ref a), some (.int (n : Int)), some (.ref D), y3, y4, y5, y6] ∧ Same H H' ∧ MatR H' D n rs (fun i j => if i = j ∧ i < x then 0 else fw n M i j)) ⟨_, _, _, _, rfl, sm, mr.congr fun i j _ _ => by rw [if_neg (by omega)]⟩ ?_ ?_⟩
        · rintro x σ H' hx ⟨y3, y4, y5, y6, rfl, sm, mr⟩
          refine ⟨_, rfl, _, rfl, D, _, _, _, rfl, rfl, SqL.of mr.1, atI_nat (map_range_at _ hx), _, rfl, rs x, _, _, x, rfl, rfl, mr.2 x hx, by rw [rowV_len]; exact ixn hx, ?_⟩
          refine ⟨_, _, _, _, rfl, Same.updN sm (m.f x hx), ?_⟩
          rw [rowV_set]
          refine (MatR.put m mr hx).congr fun i j _ _ => ?_
          by_cases z : i = x ∧ j = x
          · rw [if_pos z, if_pos (by omega)]
          · rw [if_neg z]
            by_cases u : i = j ∧ i < x
            · rw [if_pos u, if_pos (by omega)]
            · rw [if_neg u, if_neg (by omega)]
        · rintro σ H' ⟨y3, y4, y5, y6, rfl, sm, mr⟩
          have mr2 : MatR H' D n rs (stren n M) := mr.congr fun i j hi _ => by
            unfold stren
            by_cases e : i = j
            · rw [if_pos ⟨e, hi⟩, if_pos e]
            · rw [if_neg (fun u => e u.1), if_neg e]
          exact ⟨_, rfl, q H' D sm mr2.at⟩
end
end Wp
end
section
set_option Elab.async false
set_option linter.all false
set_option maxRecDepth 100000
set_option maxHeartbeats 4000000
namespace Wp
open PySem PySem.Spec PyProof.Rows L2
/-! ### unbeaten_of, lots_of, Way.__init__ -/
theorem sc_s_unbeaten_of : FnScope ["strengths", "some", "found", "x", "y"] ["strengths", "some"] (defScope s_unbeaten_of) := ⟨rfl, rfl, rfl, by decide +kernel, rfl, by decide +kernel, by decide +kernel⟩
-- slots: 0 strengths* 1 some 2 found 3 x* 4 y
theorem sc_s_lots_of : FnScope ["hands", "lots", "lot"] ["hands", "lots"] (defScope s_lots_of) := ⟨rfl, rfl, rfl, by decide +kernel, rfl, by decide +kernel, by decide +kernel⟩
-- slots: 0 hands 1 lots 2 lot
theorem sc_way_s_init : FnScope ["self", "hands", "seats", "lots"] ["self", "hands", "seats", "lots"] (defScope way_s_init) := ⟨rfl, rfl, rfl, by decide +kernel, rfl, by decide +kernel, by decide +kernel⟩
-- slots: 0 self 1 hands 2 seats 3 lots
theorem dp_ints {K : PySem.W.Frag} {H : Hp} : ∀ ns : List Int, DpAll K H (ns.map V.int) (ns.map PyData.int)
  | [] => .nil
  | n :: ns => .cons (.int n) (dp_ints ns)
theorem eqv_ints : ∀ a b : List Int, PyData.eqvAll (a.map PyData.int) (b.map PyData.int) = decide (a = b)
  | [], [] => by simp only [List.map_nil, PyData.eqvAll]; rfl
  | [], b :: bs => by simp only [List.map_nil, List.map_cons, PyData.eqvAll]; rw [decide_eq_false (by simp)]
  | a :: as, [] => by simp only [List.map_nil, List.map_cons, PyData.eqvAll]; rw [decide_eq_false (by simp)]
  | a :: as, b :: bs => by
    simp only [List.map_cons, PyData.eqvAll, PyData.eqv]
    rw [eqv_ints as bs]
    by_cases e : a = b
    · subst e
      by_cases e2 : as = bs
      · subst e2; simp
      · simp [e2]
    · simp [e]
theorem eqv_int (a b : List Int) : PyData.eqv (.list (a.map PyData.int)) (.list (b.map PyData.int)) = decide (a = b) := by
  simp only [PyData.eqv]; exact eqv_ints a b
theorem lay_ints : ∀ ns : List Int, PyData.canLayAll0 (ns.map PyData.int) = true
  | [] => by simp only [List.map_nil, PyData.canLayAll0]
  | n :: ns => by simp only [List.map_cons, PyData.canLayAll0, PyData.canLay0, lay_ints ns, Bool.and_self]
theorem depth_ints : ∀ ns : List Int, PyData.depthAll (ns.map PyData.int) = 0
  | [] => by simp only [List.map_nil, PyData.depthAll]
  | n :: ns => by simp only [List.map_cons, PyData.depthAll, PyData.depth, depth_ints ns]; rfl
theorem shaped_int (ns : List Int) : SeqAt.shaped (.list (ns.map PyData.int)) = true := by
  unfold SeqAt.shaped
  simp only [PyData.canLay0, PyData.depth, lay_ints, depth_ints]
  rfl
theorem dp_nat {K : PySem.W.Frag} {H : Hp} {a : Addr} {ns : List Nat} (h : H a = some (.lst (natV ns))) : Dp K H (.ref a) (.list ((ns.map fun (k : Nat) => (k : Int)).map PyData.int)) :=
  .lst (SqL.of h) (by rw [natV_map]; exact dp_ints _)
theorem dp_none {K : PySem.W.Frag} {H : Hp} {a : Addr} (h : H a = some (.lst [])) : Dp K H (.ref a) (.list (([] : List Int).map PyData.int)) := .lst (SqL.of h) .nil
theorem nat_inj {a b : List Nat} (h : (a.map fun (k : Nat) => (k : Int)) = b.map fun (k : Nat) => (k : Int)) : a = b := by
  refine List.map_inj_right (f := fun (k : Nat) => (k : Int)) (fun x y e => ?_) |>.mp h
  exact Int.ofNat.inj e
theorem sorted_range {n : Nat} {ns : List Nat} {ms : List Int} (h : ns.Perm (List.range n)) (p : ms.Perm (ns.map fun (k : Nat) => (k : Int))) (s : ms.Pairwise (· ≤ ·)) : ms = (List.range n).map fun (k : Nat) => (k : Int) := by
  refine (p.trans (h.map _)).eq_of_pairwise (fun x y _ _ h1 h2 => Int.le_antisymm h1 h2) s ?_
  rw [List.pairwise_map]
  exact List.pairwise_lt_range.imp fun h => by omega
theorem natV_lt {ns : List Nat} {n : Nat} (h : ns.Perm (List.range n)) : ∀ x ∈ ns, x < n := fun x hx => List.mem_range.mp (h.mem_iff.mp hx)
theorem perm_len {ns : List Nat} {n : Nat} (h : ns.Perm (List.range n)) : ns.length = n := by rw [h.length_eq, List.length_range]
section
variable {P : Program} {w : World} {K : PySem.W.Frag} {mg : Str → Option Value} {base : Heap}
theorem cal_unbeaten_of (T : Tp K mg) : Cal P w K mg base "unbeaten_of" 1 ["strengths", "some"] (spUnb K) := by
  obtain ⟨fd, F⟩ := T.f_unbeaten_of
  refine ⟨_, fd, T.g_unbeaten_of, F.kp, F.bindsN fun _ _ _ _ _ _ us hl => match us, hl with | [_, _], _ => rfl, okd F sc_s_unbeaten_of (fun vs H Q E h => ?_) (fun cdv A fr s0 H vs Q E hr h => ?_)⟩
  · obtain ⟨a, b, n, M, l, rfl, _⟩ := h
    rfl
  · obtain ⟨a, b, n, M, l, rfl, ⟨rs, ha, hr0⟩, hn, hb, hl, hx, q⟩ := h
    refine ⟨_, (pss_cons (ps_set (i := 2) sc_s_unbeaten_of.nd rfl (.inl rfl) (pe_lst pa_nil))
      (pss_cons (ps_for PassesOwn.never rfl (pi_list (pv 1)) (pg_name (i := 3) sc_s_unbeaten_of.nd rfl (.inr rfl)) (pss_one (ps_if (pt_val (pe_callB (cr_all rfl) (by rfl) T.m_all (by decide +kernel) (pa_cons (pe_lc (own := [("y", 4)]) (g := gName 4) (tt := tYes) rfl sc_s_unbeaten_of.nd (pi_list (pv 1)) (blkOk_by (own := [("y", 4)]) (by kernel_rfl)) (fun _ _ _ _ _ => (pg_name (i := 4) sc_s_unbeaten_of.nd rfl (Or.inl rfl))) (fun _ _ _ _ _ => pts_nil) (fun _ _ _ _ _ => (pe_cmpR op_le (pe_ix (ixL K rfl) (pe_ix (ixL K rfl) (pv 0) (pv 4) (fun _ _ => rfl)) (pv 3) (fun _ _ => rfl)) (pe_ix (ixL K rfl) (pe_ix (ixL K rfl) (pv 0) (pv 3) (fun _ _ => rfl)) (pv 4) (fun _ _ => rfl)) (nomark _)))) pa_nil))) (pss_one (ps_expr (pe_bm PySem.F.plainAttrs_list PySem.F.slot_list_append PySem.F.type_list_append mt_append (pv 2) (pa_cons (pv 3) pa_nil)))) pss_nil)))
      (pss_one (ps_ret (pv 2))))), ?_⟩
    refine ⟨by decide, fun D nD => ?_⟩
    refine ⟨_, rfl, b, rfl, ⟨_, SqL.of (same_upd nD _ _ hb)⟩, for_list (K := K) (a := b) (xs := natV l) (fun i σ H' => ∃ y3 y4, σ = [some (.ref a), some (.ref b), some (.ref D), y3, y4] ∧ Same H H' ∧ H' D = some (.lst (natV ((l.take i).filter fun x => l.all fun y => decide (M y x ≤ M x y)))))
      ⟨none, none, rfl, same_upd nD, upd_same⟩ (fun i σ H' _ ⟨_, _, _, sm, _⟩ => SqL.of (sm _ _ hb)) ?_ ?_⟩
    · rintro i v σ H' hv ⟨y3, y4, rfl, sm, hD⟩
      obtain ⟨x, hxi, rfl⟩ := natV_of hv
      have hxn : x < n := hx x (List.mem_of_getElem? hxi)
      refine ⟨_, rfl, b, rfl, ⟨_, SqL.of (sm _ _ hb)⟩, fun D2 nD2 => lcY_list (K := K) (a := b) (xs := natV l) (fun j H2 => Same H' H2 ∧ H2 D2 = some (.lst (((l.take j).map fun y => decide (M y x ≤ M x y)).map V.bl))) ⟨same_upd nD2, upd_same⟩ (fun i H' _ x => SqL.of (x.1 _ _ (sm _ _ hb))) ?_ ?_⟩
      · rintro j v H2 hv ⟨s2, hD2⟩
        obtain ⟨y, hyj, rfl⟩ := natV_of hv
        have hyn : y < n := hx y (List.mem_of_getElem? hyj)
        have sall := sm.trans s2
        refine ⟨rfl, ?_⟩
        refine ⟨_, rfl, _, rfl, a, _, _, _, rfl, rfl, SqL.of (sall _ _ ha), atI_nat (map_range_at _ hyn), _, rfl, rs y, _, _, _, rfl, rfl, SqL.of (sall _ _ (hr0 y hyn)), atI_nat (rowV_at _ hxn),
          _, rfl, _, rfl, a, _, _, _, rfl, rfl, SqL.of (sall _ _ ha), atI_nat (map_range_at _ hxn), _, rfl, rs x, _, _, _, rfl, rfl, SqL.of (sall _ _ (hr0 x hxn)), atI_nat (rowV_at _ hyn), _, _, rfl, rfl, ?_⟩
        refine ⟨_, hD2, by rw [List.length_map, List.length_map, List.length_take]; exact small1000 (by omega), Same.updN s2 nD2, ?_⟩
        rw [upd_same, take_snoc hyj, List.map_append, List.map_append]
        rfl
      · rintro H2 ⟨s2, hD2⟩
        rw [natV_len, List.take_length] at hD2
        refine ⟨D2, _, rfl, SqL.of hD2, _, rfl, ite2 (fun c => ?_) (fun c => ?_)⟩
        · rw [List.all_map] at c
          have c2 : (l.all fun y => decide (M y x ≤ M x y)) = true := c
          refine ⟨_, rfl, .inl ⟨rfl, _, SqL.of (s2 _ _ hD)⟩, _, rfl, D, _, _, rfl, rfl, s2 _ _ hD, ?_, ?_⟩
          · rw [natV_len]
            exact small1000 (Nat.le_trans (List.length_filter_le _ _) (by rw [List.length_take]; omega))
          · refine ⟨_, _, rfl, Same.updN (sm.trans s2) nD, ?_⟩
            rw [upd_same, take_snoc hxi, List.filter_append, List.filter_cons, if_pos c2, List.filter_nil, natV_app]
            rfl
        · rw [List.all_map] at c
          have c2 : ¬ (l.all fun y => decide (M y x ≤ M x y)) = true := c
          refine ⟨_, _, rfl, sm.trans s2, ?_⟩
          rw [s2 _ _ hD, take_snoc hxi, List.filter_append, List.filter_cons, if_neg c2, List.filter_nil, List.append_nil]
    · rintro σ H' ⟨y3, y4, rfl, sm, hD⟩
      rw [natV_len, List.take_length] at hD
      exact ⟨_, rfl, q H' D sm nD hD⟩
theorem cal_lots_of (T : Tp K mg) : Cal P w K mg base "lots_of" 2 ["hands", "lots"] spLots := by
  obtain ⟨fd, F⟩ := T.f_lots_of
  refine ⟨_, fd, T.g_lots_of, F.kp, F.bindsN fun _ _ _ _ _ _ us hl => match us, hl with | [_, _], _ => rfl, okd F sc_s_lots_of (fun vs H Q E h => ?_) (fun cdv A fr s0 H vs Q E hr h => ?_)⟩
  · obtain ⟨n, a, ns, rfl, _⟩ := h
    rfl
  · obtain ⟨n, a, ns, rfl, hn, ha, hp, q⟩ := h
    have hlen := perm_len hp
    refine ⟨_, (pss_cons (ps_if (pt_cmpR op_isN (pv 1) pe_non (nomark _)) (pss_one (ps_ret (pe_listRg rfl (by rfl) T.m_list (prg_1 (by rfl) T.m_range (pv 0))))) pss_nil)
      (pss_cons (ps_if (PW.pt (pw_or (pt_not (pt_val (pe_callB call_isi (by rfl) T.m_isinstance (by decide +kernel) (pa_cons (pv 1) (pa_cons (pe_bltn (v := .ty "list") (by rfl) T.m_list (by decide +kernel) rfl) pa_nil))))) (pw_or1 (pt_cmpR op_ne (pe_callB call_len_seq (by rfl) T.m_len (by decide +kernel) (pa_cons (pv 1) pa_nil)) (pv 0) (nomark _))))) (pss_one ps_never) pss_nil)
      (pss_cons (ps_for PassesOwn.never rfl (pi_list (pv 1)) (pg_name (i := 2) sc_s_lots_of.nd rfl (.inl rfl)) (pss_one (ps_if (pt_not (pt_val (pcl (cal_is_whole T) (hr.mono (by decide)) (by rfl) (pa_cons (pv 2) pa_nil)))) (pss_one ps_never) pss_nil)))
      (pss_cons (ps_if (pt_cmpR (op_neD hr.units) (pe_callB cr_sorted (by rfl) T.m_sorted (by decide +kernel) (pa_cons (pv 1) pa_nil)) (pe_listRg rfl (by rfl) T.m_list (prg_1 (by rfl) T.m_range (pv 0))) (nomark _)) (pss_one ps_never) pss_nil)
      (pss_one (ps_ret (pe_callTy call_list_of (by rfl) T.m_list (by decide +kernel) (pa_cons (pv 1) pa_nil)))))))), ?_⟩
    -- lots is None
    refine ⟨_, rfl, rfl, _, rfl, ite2 (fun c => absurd (of_decide_eq_true c) (by intro e; cases e)) (fun _ => ?_)⟩
    -- not isinstance(lots, list) or len(lots) != hands
    refine ⟨_, rfl, _, _, _, _, true, rfl, .ty "list", .base (.lst ha), kit_ty (by decide +kernel), _, rfl, iteF' ?_⟩
    refine ⟨_, rfl, a, _, rfl, .inl (SqL.of ha), _, rfl, rfl, _, rfl, ite2 (fun c => ?_) (fun _ => ?_)⟩
    · rw [natV_len, hlen] at c
      exact absurd rfl (neI.mp c)
    -- for lot in lots
    refine ⟨_, rfl, a, rfl, ⟨_, SqL.of ha⟩, for_list (K := K) (a := a) (xs := natV ns) (fun i σ H' => ∃ y2, σ = [some (.int (n : Int)), some (.ref a), y2] ∧ H' = H) ⟨none, rfl, rfl⟩ (fun i σ H' _ ⟨_, _, e⟩ => by subst e; exact SqL.of ha) ?_ ?_⟩
    · rintro i v σ H' hv ⟨y2, rfl, rfl⟩
      obtain ⟨k, hk, rfl⟩ := natV_of hv
      refine ⟨_, rfl, (k : Int), rfl, _, rfl, ite2 (fun c => absurd c (by decide)) (fun _ => ⟨_, rfl, rfl⟩)⟩
    · rintro σ H' ⟨y2, rfl, rfl⟩
      -- sorted(lots) != list(range(hands))
      refine ⟨_, rfl, a, ns.map fun (k : Nat) => (k : Int), rfl, by rw [← natV_map]; exact SqL.of ha, by rw [List.length_map]; omega, fun ms p mp ms' np => ?_⟩
      have s1 : Same H' (upd H' p (.lst (ms.map V.int))) := same_upd np
      refine ⟨_, rfl, (n : Int), rfl, .of_le (by omega) (by omega) (by omega) (by omega), fun r nr => ?_⟩
      rw [rgV_nat]
      have s2 := s1.trans (same_upd (o := .lst (natV (List.range n))) nr)
      refine ⟨_, _, .lst (SqL.of (same_upd nr _ _ upd_same)) (dp_ints ms), dp_nat upd_same, shaped_int _, shaped_int _, _, rfl, ite2 (fun c => ?_) (fun _ => ?_)⟩
      · rw [eqv_int, decide_eq_true (sorted_range hp mp ms')] at c
        exact absurd c (by decide)
      · refine ⟨_, rfl, a, _, rfl, .inl (SqL.of (s2 _ _ ha)), fun l nl => ?_⟩
        exact q _ l (s2.trans (same_upd nl)) (s2.free nl) upd_same
theorem cal_init (T : Tp K mg) : CalI P w K mg base 3 ["self", "hands", "seats", "lots"] (spInit (He.ga K "Pairs")) := by
  obtain ⟨fd, F⟩ := T.f_w_init
  obtain ⟨ds, hv, hb⟩ := FunD.binds1 (ps := ["self", "hands", "seats", "lots"]) F 4 1 (by decide) (by decide) fun _ _ _ _ _ _ _ us its hl hl2 => match us, its, hl, hl2 with
    | [_, _, _, _], [_], _, _ => ⟨_, rfl, rfl⟩
  cases hv
  refine ⟨_, fd, T.mkP, hb, okd F sc_way_s_init (fun vs H Q E h => ?_) (fun cdv A fr s0 H vs Q E hr h => ?_)⟩
  · obtain ⟨p, dx, n, s, a, ns, rfl, _⟩ := h
    rfl
  · obtain ⟨p, dx, n, s, a, ns, rfl, hp, n1, n5, s1, s60, ha, hperm, q⟩ := h
    refine ⟨_, (pss_cons (ps_if (PW.pt (pw_or (pt_not (pt_val (pcl (cal_is_whole T) (hr.mono (by decide)) (by rfl) (pa_cons (pv 1) pa_nil)))) (pw_or1 (pt_not (pt_chain op_le op_le pe_int (pv 1) (pe_glob (v := .int 12) (by rfl) T.i_MOST_HANDS.choose_spec ⟨_, rfl⟩)))))) (pss_one ps_never) pss_nil)
      (pss_cons (ps_if (PW.pt (pw_or (pt_not (pt_val (pcl (cal_is_whole T) (hr.mono (by decide)) (by rfl) (pa_cons (pv 2) pa_nil)))) (pw_or1 (pt_not (pt_chain op_le op_le pe_int (pv 2) (pe_glob (v := .int 60) (by rfl) T.i_MOST_SEATS.choose_spec ⟨_, rfl⟩)))))) (pss_one ps_never) pss_nil)
      (pss_cons (ps_fld (pv 0) (pv 1) rfl)
      (pss_cons (ps_fld (pv 0) (pv 2) rfl)
      (pss_one (ps_fld (pv 0) (pcl (cal_lots_of T) (hr.mono (by decide)) (by rfl) (pa_cons (pv 1) (pa_cons (pv 3) pa_nil))) rfl)))))), ?_⟩
    refine ⟨_, rfl, (n : Int), rfl, _, rfl, iteF' ?_⟩
    refine ⟨_, rfl, _, _, rfl, rfl, _, rfl, ite2 (fun c => ?_) (fun c => absurd (decide_eq_true (by omega)) c)⟩
    refine ⟨_, _, rfl, rfl, _, rfl, ite2 (fun c => ?_) (fun _ => ?_)⟩
    · rw [decide_eq_true (by omega)] at c
      exact absurd c (by decide)
    refine ⟨_, rfl, (s : Int), rfl, _, rfl, iteF' ?_⟩
    refine ⟨_, rfl, _, _, rfl, rfl, _, rfl, ite2 (fun c => ?_) (fun c => absurd (decide_eq_true (by omega)) c)⟩
    refine ⟨_, _, rfl, rfl, _, rfl, ite2 (fun c => ?_) (fun _ => ?_)⟩
    · rw [decide_eq_true (by omega)] at c
      exact absurd c (by decide)
    have ap : a ≠ p := ne_of ha hp (by intro e; cases e)
    refine ⟨_, rfl, _, rfl, p, _, _, _, rfl, hp, T.cl, T.n_hands, by decide, ?_⟩
    refine ⟨_, rfl, _, rfl, p, _, _, _, rfl, upd_same, T.cl, T.n_seats, Nat.lt_of_le_of_lt (length_putF _ _ _) (by decide), ?_⟩
    refine ⟨_, rfl, _, rfl, n, a, ns, rfl, n5, ?_, hperm, fun H3 l s3 nl hl => ?_⟩
    · rw [upd_ne ap, upd_ne ap]; exact ha
    have lp : l ≠ p := (ne_of_none upd_same nl).symm
    refine ⟨_, rfl, p, _, _, _, rfl, s3 _ _ upd_same, T.cl, T.n_lots, Nat.lt_of_le_of_lt (Nat.le_trans (length_putF _ _ _) (Nat.succ_le_succ (length_putF _ _ _))) (by decide), ?_⟩
    refine q _ ⟨dx, l, upd_same, by rw [upd_ne lp]; exact hl⟩ fun b o hb hbp => ?_
    rw [upd_ne hbp]
    refine s3 _ _ ?_
    rw [upd_ne hbp, upd_ne hbp]
    exact hb
end
end Wp
end
section
set_option Elab.async false
set_option linter.all false
set_option maxRecDepth 100000
set_option maxHeartbeats 4000000
namespace Wp
open PySem PySem.Spec PyProof.Rows L2
/-! ### way_by, cut_by -/
theorem sc_s_way_by : FnScope ["leads", "worth", "x", "y", "ways", "seen", "some", "hand"] ["leads", "worth", "x", "y"] (defScope s_way_by) := ⟨rfl, rfl, rfl, by decide +kernel, rfl, by decide +kernel, by decide +kernel⟩
-- slots: 0 leads 1 worth 2 x 3 y 4 ways 5 seen 6 some 7 hand
theorem sc_s_cut_by : FnScope ["leads", "worth", "x", "found", "left", "one", "hand"] ["leads", "worth", "x"] (defScope s_cut_by) := ⟨rfl, rfl, rfl, by decide +kernel, rfl, by decide +kernel, by decide +kernel⟩
-- slots: 0 leads 1 worth 2 x 3 found 4 left 5 one 6 hand
def fr (n m : Nat) : Nat := ((List.range n).filter fun h => !m.testBit h).length
theorem fr_set : ∀ n, n ≤ 5 → ∀ m, m < 32 → ∀ h, h < n → m.testBit h = false → fr n (m ||| 2 ^ h) + 1 = fr n m ∧ m ||| 2 ^ h < 32 := by decide +kernel
theorem fr_one : ∀ n, n ≤ 5 → ∀ h, h < n → fr n (0 ||| 2 ^ h) + 1 = n ∧ 0 ||| 2 ^ h < 32 := by decide +kernel
theorem atI_last (qs : List Nat) (z : Nat) : atI (natV (qs ++ [z])) (-1) = some (.int (z : Int)) := by
  unfold atI ixN
  rw [natV_len, List.length_append, List.length_singleton, if_neg (by omega), if_pos (by omega), Option.bind_some]
  rw [show ((-1 : Int) + ((qs.length + 1 : Nat) : Int)).toNat = qs.length by omega]
  refine natV_at ?_
  simp
theorem ne_nil {xs : List Nat} (c : (!PyData.eqv (.list ((xs.map fun (k : Nat) => (k : Int)).map PyData.int)) (.list (([] : List Int).map PyData.int))) = true) : ∃ ys z, xs = ys ++ [z] := by
  rw [eqv_int] at c
  rcases List.eq_nil_or_concat xs with rfl | ⟨ys, z, rfl⟩
  · exact absurd c (by decide)
  · exact ⟨ys, z, by simp⟩
/-- a way in the making: a list of hands, not the list of ways -/
def WayL (H : Hp) (D : Addr) (n m : Nat) (v : V) : Prop := ∃ p qs z, v = V.ref p ∧ H p = some (.lst (natV (qs ++ [z]))) ∧ p ≠ D ∧ z < n ∧ qs.length + 1 + fr n m ≤ 5
theorem WayL.same {H H' : Hp} {D : Addr} {n m : Nat} {v : V} (s : Same H H') (h : WayL H D n m v) : WayL H' D n m v := by
  obtain ⟨p, qs, z, h1, h2, r⟩ := h
  exact ⟨p, qs, z, h1, s _ _ h2, r⟩
theorem WayL.upd {H : Hp} {D : Addr} {n m : Nat} {v : V} {o : HO} (h : WayL H D n m v) : WayL (upd H D o) D n m v := by
  obtain ⟨p, qs, z, h1, h2, h3, r⟩ := h
  exact ⟨p, qs, z, h1, by rw [upd_ne h3]; exact h2, h3, r⟩
theorem WayL.less {H : Hp} {D : Addr} {n m m' : Nat} {v : V} (e : fr n m' ≤ fr n m) (h : WayL H D n m v) : WayL H D n m' v := by
  obtain ⟨p, qs, z, h1, h2, h3, h4, h5⟩ := h
  exact ⟨p, qs, z, h1, h2, h3, h4, by omega⟩
theorem ways_dp {K : PySem.W.Frag} {H : Hp} {D : Addr} {n m : Nat} : ∀ vs : List V, (∀ v ∈ vs, WayL H D n m v) → ∃ ds, DpAll K H vs ds ∧ PyData.canLayAll0 ds = true ∧ PyData.depthAll ds ≤ 1 ∧ (vs = [] → PyData.eqvAll ds [] = true)
  | [], _ => ⟨[], .nil, by simp only [PyData.canLayAll0], by simp only [PyData.depthAll]; omega, fun _ => by simp only [PyData.eqvAll]⟩
  | v :: vs, h => by
    obtain ⟨ds, h1, h2, h3, _⟩ := ways_dp vs fun u hu => h u (List.mem_cons_of_mem _ hu)
    obtain ⟨p, qs, z, rfl, hp, _⟩ := h v List.mem_cons_self
    refine ⟨_ :: ds, .cons (dp_nat hp) h1, ?_, ?_, fun e => by cases e⟩
    · simp only [PyData.canLayAll0, PyData.canLay0, lay_ints, h2, Bool.and_self]
    · simp only [PyData.depthAll, PyData.depth, depth_ints]; omega
section
variable {P : Program} {w : World} {K : PySem.W.Frag} {mg : Str → Option Value} {base : Heap}
theorem cal_cut_by (T : Tp K mg) : Cal P w K mg base "cut_by" 2 ["leads", "worth", "x"] spCut := by
  obtain ⟨fd, F⟩ := T.f_cut_by
  refine ⟨_, fd, T.g_cut_by, F.kp, F.bindsN fun _ _ _ _ _ _ us hl => match us, hl with | [_, _, _], _ => rfl, okd F sc_s_cut_by (fun vs H Q E h => ?_) (fun cdv A fr0 s0 H vs Q E hr h => ?_)⟩
  · obtain ⟨a, n, M, wo, x, rfl, _⟩ := h
    rfl
  · obtain ⟨a, n, M, wo, x, rfl, ⟨rs, ha, hr0⟩, hn, hx, q⟩ := h
    refine ⟨_, (pss_cons (ps_set (i := 3) sc_s_cut_by.nd rfl (.inl rfl) (pcl (cal_with_one T) (hr.mono (by decide)) (by rfl) (pa_cons pe_int (pa_cons (pv 2) pa_nil))))
      (pss_cons (ps_set (i := 4) sc_s_cut_by.nd rfl (.inl rfl) (pe_lst (pa_cons (pv 2) pa_nil)))
      (pss_cons (ps_while PassesOwn.never (pt_cmpR (op_neD hr.units) (pv 4) (pe_lst pa_nil) (nomark _)) (pss_cons (ps_set (i := 5) sc_s_cut_by.nd rfl (.inl rfl) (pe_bm0 PySem.F.plainAttrs_list PySem.F.slot_list_pop PySem.F.type_list_pop mt_pop (pv 4)))
      (pss_one (ps_for PassesOwn.never rfl (pi_range1 (by rfl) T.m_range (pa_cons (pe_callB call_len_seq (by rfl) T.m_len (by decide +kernel) (pa_cons (pv 0) pa_nil)) pa_nil)) (pg_name (i := 6) sc_s_cut_by.nd rfl (.inl rfl)) (pss_one (ps_if (PW.pt (pw_and (pt_not (pt_val (pcl (cal_holds T) (hr.mono (by decide)) (by rfl) (pa_cons (pv 3) (pa_cons (pv 6) pa_nil))))) (pw_and1 (pt_cmpR op_gt (pe_ix ix_list (pe_ix ix_list (pv 0) (pv 5) (fun _ _ => rfl)) (pv 6) (fun _ _ => rfl)) (pv 1) (nomark _))))) (pss_cons (ps_set (i := 3) sc_s_cut_by.nd rfl (.inl rfl) (pcl (cal_with_one T) (hr.mono (by decide)) (by rfl) (pa_cons (pv 3) (pa_cons (pv 6) pa_nil))))
      (pss_one (ps_expr (pe_bm PySem.F.plainAttrs_list PySem.F.slot_list_append PySem.F.type_list_append mt_append (pv 4) (pa_cons (pv 6) pa_nil))))) pss_nil))))))
      (pss_one (ps_ret (pv 3)))))), ?_⟩
    refine ⟨_, rfl, 0, x, rfl, by omega, ?_⟩
    refine ⟨_, rfl, sz (n := 1) (by omega), fun D nD => ?_⟩
    obtain ⟨f1, f2⟩ := fr_one n hn x hx
    refine ⟨fun k σ H' => ∃ (m : Nat) (ls : List Nat) (y5 y6 : Option V), σ = [some (.ref a), some (.int wo), some (.int (x : Int)), some (.int (m : Int)), some (.ref D), y5, y6] ∧ Same H H' ∧ H' D = some (.lst (natV ls)) ∧ (∀ z ∈ ls, z < n) ∧ m < 32 ∧ k = 2 * fr n m + ls.length ∧ k ≤ 20,
      ⟨2 * fr n (0 ||| 2 ^ x) + 1, _, [x], _, _, rfl, same_upd nD, upd_same, fun z hz => by rw [List.mem_singleton.mp hz]; exact hx, f2, rfl, by omega⟩, ?_⟩
    rintro k σ H' ⟨m, ls, y5, y6, rfl, sm, hD, hls, hm, hk, hk2⟩
    refine ⟨_, rfl, by decide, fun e ne => ⟨_, _, dp_nat (same_upd ne _ _ hD), dp_none upd_same, shaped_int _, shaped_int _, _, rfl, ite2 (fun c => ?_) (fun c => ?_)⟩⟩
    · obtain ⟨ls, z, rfl⟩ := ne_nil c
      refine ⟨fun σ' H' => ∃ (m : Nat) (ls : List Nat) (y5 y6 : Option V), σ' = [some (.ref a), some (.int wo), some (.int (x : Int)), some (.int (m : Int)), some (.ref D), y5, y6] ∧ Same H H' ∧ H' D = some (.lst (natV ls)) ∧ (∀ z ∈ ls, z < n) ∧ m < 32 ∧ 2 * fr n m + ls.length < k,
        fun σ' H' ⟨m, ls, y5, y6, h1, h2, h3, h4, h5, h6⟩ => ⟨_, h6, m, ls, y5, y6, h1, h2, h3, h4, h5, rfl, by omega⟩, ?_⟩
      have s1 := sm.trans (same_upd (o := .lst []) ne)
      have hD1 : (upd H' e (.lst [])) D = some (.lst (natV (ls ++ [z]))) := same_upd ne _ _ hD
      have hzn : z < n := hls z (by simp)
      rw [List.length_append, List.length_singleton] at hk
      refine ⟨_, rfl, .inl ⟨rfl, _, SqL.of hD1⟩, D, _, .int (z : Int), rfl, rfl, hD1, ?_, ?_⟩
      · refine natV_at ?_
        rw [natV_len]
        simp
      rw [natV_app, show natV [z] = [V.int (z : Int)] from rfl, List.dropLast_concat]
      have s2 := Same.updN (o := .lst (natV ls)) s1 nD
      refine ⟨_, rfl, a, _, rfl, .inl (SqL.of (s2 _ _ ha)), _, rfl, by rw [List.length_map, List.length_range]; exact (i62 (by omega)).1, by rw [List.length_map, List.length_range]; exact (i62 (by omega)).2, ?_⟩
      rw [List.length_map, List.length_range]
      refine for_rg (n := n) (fun i σ' H' => ∃ (m : Nat) (ls : List Nat) (y6 : Option V), σ' = [some (.ref a), some (.int wo), some (.int (x : Int)), some (.int (m : Int)), some (.ref D), some (.int (z : Int)), y6] ∧ Same H H' ∧ H' D = some (.lst (natV ls)) ∧ (∀ z ∈ ls, z < n) ∧ m < 32 ∧ 2 * fr n m + ls.length < k)
        ⟨m, ls, _, rfl, s2, upd_same, fun u hu => hls u (List.mem_append_left _ hu), hm, by omega⟩ ?_ (fun σ' H' ⟨m, ls, y6, h1, h⟩ => ⟨m, ls, _, y6, h1, h⟩)
      rintro i σ' H' hi ⟨m, ls, y6, rfl, sm, hD, hls, hm, hk⟩
      refine ⟨_, rfl, _, rfl, m, i, rfl, _, rfl, ite2 (fun c => ?_) (fun c => iteF' ⟨m, ls, _, rfl, sm, hD, hls, hm, hk⟩)⟩
      refine ⟨_, rfl, _, rfl, a, _, _, _, rfl, rfl, SqL.of (sm _ _ ha), atI_nat (map_range_at _ hzn), _, rfl, rs z, _, _, _, rfl, rfl, SqL.of (sm _ _ (hr0 z hzn)), atI_nat (rowV_at _ hi), _, rfl, _, _, rfl, rfl, _, rfl, ite2 (fun c2 => ?_) (fun c2 => ⟨m, ls, _, rfl, sm, hD, hls, hm, hk⟩)⟩
      have cb : m.testBit i = false := by simpa using c
      obtain ⟨g1, g2⟩ := fr_set n hn m hm i hi cb
      refine ⟨_, rfl, _, rfl, m, i, rfl, by omega, ?_⟩
      refine ⟨_, rfl, .inl ⟨rfl, _, SqL.of hD⟩, _, rfl, D, _, _, rfl, rfl, hD, by rw [natV_len]; exact small1000 (by omega), ?_⟩
      refine ⟨_, ls ++ [i], _, rfl, Same.updN sm nD, by rw [upd_same, natV_app]; rfl, fun u hu => ?_, g2, by rw [List.length_append, List.length_singleton]; omega⟩
      rcases List.mem_append.mp hu with h | h
      · exact hls u h
      · rw [List.mem_singleton.mp h]; exact hi
    · exact ⟨_, rfl, q _ _ (sm.trans (same_upd ne))⟩
theorem cal_way_by (T : Tp K mg) : Cal P w K mg base "way_by" 2 ["leads", "worth", "x", "y"] spWay := by
  obtain ⟨fd, F⟩ := T.f_way_by
  refine ⟨_, fd, T.g_way_by, F.kp, F.bindsN fun _ _ _ _ _ _ us hl => match us, hl with | [_, _, _, _], _ => rfl, okd F sc_s_way_by (fun vs H Q E h => ?_) (fun cdv A fr0 s0 H vs Q E hr h => ?_)⟩
  · obtain ⟨a, n, M, wo, x, y, rfl, _⟩ := h
    rfl
  · obtain ⟨a, n, M, wo, x, y, rfl, ⟨rs, ha, hr0⟩, hn, hx, q⟩ := h
    refine ⟨_, (pss_cons (ps_set (i := 4) sc_s_way_by.nd rfl (.inl rfl) (pe_lst (pa_cons (pe_lst (pa_cons (pv 2) pa_nil)) pa_nil)))
      (pss_cons (ps_set (i := 5) sc_s_way_by.nd rfl (.inl rfl) (pcl (cal_with_one T) (hr.mono (by decide)) (by rfl) (pa_cons pe_int (pa_cons (pv 2) pa_nil))))
      (pss_cons (ps_while PassesOwn.never (pt_cmpR (op_neD hr.units) (pv 4) (pe_lst pa_nil) (nomark _)) (pss_cons (ps_set (i := 6) sc_s_way_by.nd rfl (.inl rfl) (pe_bm PySem.F.plainAttrs_list PySem.F.slot_list_pop PySem.F.type_list_pop mt_popAt (pv 4) (pa_cons pe_int pa_nil)))
      (pss_cons (ps_if (pt_cmpR op_eq (pe_ix ix_list (pv 6) (pe_un un_neg pe_int) (fun _ _ => rfl)) (pv 3) (nomark _)) (pss_one (ps_ret (pv 6))) pss_nil)
      (pss_one (ps_for PassesOwn.never rfl (pi_range1 (by rfl) T.m_range (pa_cons (pe_callB call_len_seq (by rfl) T.m_len (by decide +kernel) (pa_cons (pv 0) pa_nil)) pa_nil)) (pg_name (i := 7) sc_s_way_by.nd rfl (.inl rfl)) (pss_one (ps_if (PW.pt (pw_and (pt_not (pt_val (pcl (cal_holds T) (hr.mono (by decide)) (by rfl) (pa_cons (pv 5) (pa_cons (pv 7) pa_nil))))) (pw_and1 (pt_cmpR op_ge (pe_ix ix_list (pe_ix ix_list (pv 0) (pe_ix ix_list (pv 6) (pe_un un_neg pe_int) (fun _ _ => rfl)) (fun _ _ => rfl)) (pv 7) (fun _ _ => rfl)) (pv 1) (nomark _))))) (pss_cons (ps_set (i := 5) sc_s_way_by.nd rfl (.inl rfl) (pcl (cal_with_one T) (hr.mono (by decide)) (by rfl) (pa_cons (pv 5) (pa_cons (pv 7) pa_nil))))
      (pss_one (ps_expr (pe_bm PySem.F.plainAttrs_list PySem.F.slot_list_append PySem.F.type_list_append mt_append (pv 4) (pa_cons (pe_op op_cat (pv 6) (pe_lst (pa_cons (pv 7) pa_nil))) pa_nil))))) pss_nil)))))))
      (pss_one (ps_ret (pe_lst pa_nil)))))), ?_⟩
    refine ⟨_, rfl, sz (n := 1) (by omega), fun p0 np0 => ⟨sz (n := 1) (by omega), fun D nD => ?_⟩⟩
    have s0 : Same H (upd H p0 (.lst [.int (x : Int)])) := same_upd np0
    have nDH : H D = none := s0.free nD
    have pD : p0 ≠ D := ne_of_none upd_same nD
    refine ⟨_, rfl, 0, x, rfl, by omega, ?_⟩
    obtain ⟨f1, f2⟩ := fr_one n hn x hx
    refine ⟨fun k σ H' => ∃ (m : Nat) (ls : List V) (y6 y7 : Option V), σ = [some (.ref a), some (.int wo), some (.int (x : Int)), some (.int (y : Int)), some (.ref D), some (.int (m : Int)), y6, y7] ∧ Same H H' ∧ H' D = some (.lst ls) ∧ (∀ z ∈ ls, WayL H' D n m z) ∧ m < 32 ∧ k = 2 * fr n m + ls.length ∧ k ≤ 20,
      ⟨2 * fr n (0 ||| 2 ^ x) + 1, _, [.ref p0], _, _, rfl, s0.trans (same_upd nD), upd_same, fun z hz => by rw [List.mem_singleton.mp hz]; exact ⟨p0, [], x, rfl, by rw [upd_ne pD, upd_same]; rfl, pD, hx, by show 0 + 1 + _ ≤ 5; omega⟩, f2, rfl, by omega⟩, ?_⟩
    rintro k σ H' ⟨m, ls, y6, y7, rfl, sm, hD, hls, hm, hk, hk2⟩
    refine ⟨_, rfl, by decide, fun e ne => ?_⟩
    have s1 := sm.trans (same_upd (o := .lst []) ne)
    have hD1 : (upd H' e (.lst [])) D = some (.lst ls) := same_upd ne _ _ hD
    have hls1 : ∀ z ∈ ls, WayL (upd H' e (.lst [])) D n m z := fun z hz => (hls z hz).same (same_upd ne)
    obtain ⟨ds, d1, d2, d3, d4⟩ := ways_dp (K := K) ls hls1
    refine ⟨.list ds, .list [], .lst (SqL.of hD1) d1, .lst (SqL.of upd_same) .nil, ?_, by decide +kernel, _, rfl, ite2 (fun c => ?_) (fun c => ?_)⟩
    · unfold SeqAt.shaped
      simp only [PyData.canLay0, PyData.depth, d2, Bool.true_and]
      exact decide_eq_true (by omega)
    · match ls, hls, hD, hls1, hD1, d4, hk with
      | [], _, _, _, _, d4, _ =>
        simp only [PyData.eqv] at c
        rw [d4 rfl] at c
        exact absurd c (by decide)
      | v :: ls, hls, hD, hls1, hD1, _, hk =>
        rw [List.length_cons] at hk
        refine ⟨fun σ' H' => ∃ (m : Nat) (ls : List V) (y6 y7 : Option V), σ' = [some (.ref a), some (.int wo), some (.int (x : Int)), some (.int (y : Int)), some (.ref D), some (.int (m : Int)), y6, y7] ∧ Same H H' ∧ H' D = some (.lst ls) ∧ (∀ z ∈ ls, WayL H' D n m z) ∧ m < 32 ∧ 2 * fr n m + ls.length < k,
          fun σ' H' ⟨m, ls, y5, y6, h1, h2, h3, h4, h5, h6⟩ => ⟨_, h6, m, ls, y5, y6, h1, h2, h3, h4, h5, rfl, by omega⟩, ?_⟩
        refine ⟨_, rfl, .inl ⟨rfl, _, SqL.of hD1⟩, D, _, 0, 0, v, rfl, rfl, hD1, by decide, by decide, seqIndex_of (Int.le_refl 0) (by rw [List.length_cons]; omega), rfl, ?_⟩
        rw [List.eraseIdx_cons_zero]
        have s2 := Same.updN (o := .lst ls) s1 nDH
        obtain ⟨p, qs, z, rfl, hp, hpD, hz, hq⟩ : WayL (upd (upd H' e (.lst [])) D (.lst ls)) D n m v := (hls1 v List.mem_cons_self).upd
        -- some[-1] == y
        refine ⟨_, rfl, _, rfl, p, _, _, _, rfl, rfl, SqL.of hp, atI_last qs z, _, rfl, rfl, _, rfl, ite2 (fun c => ?_) (fun c => ?_)⟩
        · exact ⟨_, rfl, q _ _ s2⟩
        refine ⟨_, rfl, a, _, rfl, .inl (SqL.of (s2 _ _ ha)), _, rfl, by rw [List.length_map, List.length_range]; exact (i62 (by omega)).1, by rw [List.length_map, List.length_range]; exact (i62 (by omega)).2, ?_⟩
        rw [List.length_map, List.length_range]
        refine for_rg (n := n) (fun i σ' H' => ∃ (m : Nat) (ls : List V) (y7 : Option V), σ' = [some (.ref a), some (.int wo), some (.int (x : Int)), some (.int (y : Int)), some (.ref D), some (.int (m : Int)), some (.ref p), y7] ∧ Same H H' ∧ H' D = some (.lst ls) ∧ H' p = some (.lst (natV (qs ++ [z]))) ∧ qs.length + 1 + fr n m ≤ 5 ∧ (∀ z ∈ ls, WayL H' D n m z) ∧ m < 32 ∧ 2 * fr n m + ls.length < k)
          ⟨m, ls, _, rfl, s2, upd_same, hp, hq, fun u hu => (hls1 u (List.mem_cons_of_mem _ hu)).upd, hm, by omega⟩ ?_ (fun σ' H' ⟨m, ls, y6, h1, h2, h3, _, _, h⟩ => ⟨m, ls, _, y6, h1, h2, h3, h⟩)
        rintro i σ' H' hi ⟨m, ls, y7, rfl, sm, hD, hp, hq, hls, hm, hk⟩
        refine ⟨_, rfl, _, rfl, m, i, rfl, _, rfl, ite2 (fun c => ?_) (fun c => iteF' ⟨m, ls, _, rfl, sm, hD, hp, hq, hls, hm, hk⟩)⟩
        refine ⟨_, rfl, _, rfl, _, rfl, p, _, _, _, rfl, rfl, SqL.of hp, atI_last qs z, a, _, _, _, rfl, rfl, SqL.of (sm _ _ ha), atI_nat (map_range_at _ hz), _, rfl, rs z, _, _, _, rfl, rfl, SqL.of (sm _ _ (hr0 z hz)), atI_nat (rowV_at _ hi), _, rfl, _, _, rfl, rfl, _, rfl, ite2 (fun c2 => ?_) (fun c2 => ⟨m, ls, _, rfl, sm, hD, hp, hq, hls, hm, hk⟩)⟩
        have cb : m.testBit i = false := by simpa using c
        obtain ⟨g1, g2⟩ := fr_set n hn m hm i hi cb
        refine ⟨_, rfl, _, rfl, m, i, rfl, by omega, ?_⟩
        -- ways.append(some + [hand])
        refine ⟨_, rfl, .inl ⟨rfl, _, SqL.of hD⟩, _, rfl, _, rfl, sz (n := 1) (by omega), fun r nr => ⟨p, r, _, _, rfl, rfl, same_upd nr _ _ hp, upd_same, ?_, fun u nu => ?_⟩⟩
        · simp only [natV_len, List.length_append, List.length_singleton]
          exact sz (by omega)
        have t1 : Same H' (upd H' r (.lst [.int (i : Int)])) := same_upd nr
        have t2 : Same H' (upd (upd H' r (.lst [.int (i : Int)])) u (.lst (natV (qs ++ [z]) ++ [.int (i : Int)]))) := t1.trans (same_upd nu)
        have uD : u ≠ D := (ne_of_none (t1 _ _ hD) nu).symm
        refine ⟨D, _, _, rfl, rfl, t2 _ _ hD, small1000 (by omega), ?_⟩
        refine ⟨_, ls ++ [.ref u], _, rfl, Same.updN (sm.trans t2) nDH, upd_same, by rw [upd_ne hpD]; exact t2 _ _ hp, by omega, fun v hv => ?_, g2, by rw [List.length_append, List.length_singleton]; omega⟩
        rcases List.mem_append.mp hv with h | h
        · exact (((hls v h).same t2).upd).less (by omega)
        · rw [List.mem_singleton.mp h]
          exact ⟨u, qs ++ [z], i, rfl, by rw [upd_ne uD, upd_same, natV_app (qs ++ [z])]; rfl, uD, hi, by rw [List.length_append, List.length_singleton]; omega⟩
    · exact ⟨by decide, fun r nr => q _ _ (s1.trans (same_upd nr))⟩
end
end Wp
end
section
set_option Elab.async false
set_option linter.all false
set_option maxRecDepth 100000
set_option maxHeartbeats 4000000
namespace Wp
open PySem PySem.Spec PyProof.Rows L2
/-! ### picks_due, told_by -/
theorem sc_s_picks_due : FnScope ["way", "strengths", "left", "picks", "hand"] ["way", "strengths"] (defScope s_picks_due) := ⟨rfl, rfl, rfl, by decide +kernel, rfl, by decide +kernel, by decide +kernel⟩
-- slots: 0 way 1 strengths 2 left 3 picks 4 hand
theorem sc_pairs_s_told_by : FnScope ["self", "paper", "hand"] ["self", "paper"] (defScope pairs_s_told_by) := ⟨rfl, rfl, rfl, by decide +kernel, rfl, by decide +kernel, by decide +kernel⟩
-- slots: 0 self 1 paper* 2 hand
theorem erase_at {k : Nat} : ∀ {l : List Nat}, k ∈ l → ∃ j, l[j]? = some k ∧ (∀ m : Nat, m < j → l[m]? ≠ some k) ∧ l.eraseIdx j = l.erase k
  | [], h => by cases h
  | x :: l, h => by
    by_cases e : x = k
    · subst e
      exact ⟨0, rfl, fun m hm => absurd hm (Nat.not_lt_zero _), by simp⟩
    · rcases List.mem_cons.mp h with h | h
      · exact absurd h.symm e
      · obtain ⟨j, h1, h2, h3⟩ := erase_at h
        refine ⟨j + 1, h1, fun m hm => ?_, ?_⟩
        · cases m with
          | zero => intro q; exact e (Option.some.inj q)
          | succ m => exact h2 m (by omega)
        · rw [List.eraseIdx_cons_succ, h3, List.erase_cons_tail (by simpa using e)]
theorem erase_map {α β : Type} (f : α → β) : ∀ (l : List α) (j : Nat), (l.map f).eraseIdx j = (l.eraseIdx j).map f
  | [], _ => rfl
  | x :: l, 0 => rfl
  | x :: l, j + 1 => by
    rw [List.map_cons, List.eraseIdx_cons_succ, List.eraseIdx_cons_succ, List.map_cons, erase_map f l j]
theorem inV_nat (h : Nat) : ∀ ps : List Nat, inV (.int (h : Int)) (natV ps) = decide (h ∈ ps)
  | [] => rfl
  | p :: ps => by
    have ih := inV_nat h ps
    unfold inV at ih ⊢
    show (eqV (.int (p : Int)) (.int (h : Int)) || (natV ps).any fun y => eqV y (.int (h : Int))) = _
    rw [ih]
    by_cases e : p = h
    · subst e
      have : eqV (.int (p : Int)) (.int (p : Int)) = true := by unfold eqV; simp
      rw [this]
      simp
    · have : eqV (.int (p : Int)) (.int (h : Int)) = false := by
        unfold eqV
        exact beq_eq_false_iff_ne.mpr fun q => e (by omega)
      rw [this]
      have e' : ¬ h = p := fun q => e q.symm
      simp [e']
theorem flat_nat : ∀ ps : List Nat, (natV ps).all flatV = true
  | [] => rfl
  | _ :: ps => flat_nat ps
section
variable {P : Program} {w : World} {K : PySem.W.Frag} {mg : Str → Option Value} {base : Heap}
theorem cal_picks_due (T : Tp K mg) : Cal P w K mg base "picks_due" 2 ["way", "strengths"] (spPicks (He.ga K "Pairs")) := by
  obtain ⟨fd, F⟩ := T.f_picks_due
  refine ⟨_, fd, T.g_picks_due, F.kp, F.bindsN fun _ _ _ _ _ _ us hl => match us, hl with | [_, _], _ => rfl, okd F sc_s_picks_due (fun vs H Q E h => ?_) (fun cdv A fr s0 H vs Q E hr h => ?_)⟩
  · obtain ⟨wa, a, n, s, ns, L, rfl, _⟩ := h
    rfl
  · obtain ⟨wa, a, n, s, ns, L, rfl, ⟨dx, lo, hw, hlo⟩, hma, hn, hlen, hns, q⟩ := h
    refine ⟨_, (pss_cons (ps_set (i := 2) sc_s_picks_due.nd rfl (.inl rfl) (pe_callTy call_list_of (by rfl) T.m_list (by decide +kernel) (pa_cons (pe_fld (pv 0) rfl) pa_nil)))
      (pss_cons (ps_set (i := 3) sc_s_picks_due.nd rfl (.inl rfl) (pe_lst pa_nil))
      (pss_cons (ps_while PassesOwn.never (PW.pt (pw_and (pt_cmpR (op_neD hr.units) (pv 2) (pe_lst pa_nil) (nomark _)) (pw_and1 (pt_cmpR op_lt (pe_callB call_len_seq (by rfl) T.m_len (by decide +kernel) (pa_cons (pv 3) pa_nil)) (pe_fld (pv 0) rfl) (nomark _))))) (pss_cons (ps_set (i := 4) sc_s_picks_due.nd rfl (.inl rfl) (pe_ix ix_list (pcl (cal_unbeaten_of T) (hr.mono (by decide)) (by rfl) (pa_cons (pv 1) (pa_cons (pv 2) pa_nil))) pe_int (fun _ _ => rfl)))
      (pss_cons (ps_expr (pe_bm PySem.F.plainAttrs_list PySem.F.slot_list_remove PySem.F.type_list_remove mt_remove (pv 2) (pa_cons (pv 4) pa_nil)))
      (pss_one (ps_expr (pe_bm PySem.F.plainAttrs_list PySem.F.slot_list_append PySem.F.type_list_append mt_append (pv 3) (pa_cons (pv 4) pa_nil)))))))
      (pss_one (ps_ret (pv 3)))))), ?_⟩
    refine ⟨_, rfl, wa, _, _, _, _, rfl, hw, T.cl, T.n_lots, wf_lots n s lo, lo, _, rfl, .inl (SqL.of hlo), fun l nl => ?_⟩
    have s1 : Same H (upd H l (.lst (natV ns))) := same_upd nl
    refine ⟨by decide, fun p np => ?_⟩
    have npH : H p = none := s1.free np
    have lp : l ≠ p := ne_of_none upd_same np
    have s2 := s1.trans (same_upd (o := .lst []) np)
    refine ⟨fun k σ H' => ∃ (i : Nat) (y4 : Option V), σ = [some (.ref wa), some (.ref a), some (.ref l), some (.ref p), y4] ∧ Same H H' ∧ H' l = some (.lst (natV (lf (stren n L) ns i))) ∧ H' p = some (.lst (natV (picks (stren n L) ns i))) ∧ i ≤ min s n ∧ k = n - i,
      ⟨n, 0, _, rfl, s2, by rw [upd_ne lp, upd_same]; rfl, upd_same, Nat.zero_le _, rfl⟩, ?_⟩
    rintro k σ H' ⟨i, y4, rfl, sm, hl, hp, hi, rfl⟩
    have hlf := lf_len (L := L) hns i (by omega)
    rw [hlen] at hlf
    refine ⟨_, rfl, by decide, fun e ne => ⟨_, _, dp_nat (same_upd ne _ _ hl), dp_none upd_same, shaped_int _, shaped_int _, _, rfl, ite2 (fun c => ?_) (fun c => iteF' ?_)⟩⟩
    · have s3 := sm.trans (same_upd (o := .lst []) ne)
      have hl1 := same_upd (o := .lst []) ne _ _ hl
      have hp1 := same_upd (o := .lst []) ne _ _ hp
      have hin : i < n := by
        rw [eqv_int] at c
        rcases Nat.lt_or_ge i n with h | h
        · exact h
        · rw [List.eq_nil_of_length_eq_zero (l := lf (stren n L) ns i) (by omega)] at c
          exact absurd c (by decide)
      refine ⟨_, rfl, p, _, rfl, .inl (SqL.of hp1), _, rfl, wa, _, _, _, _, rfl, s3 _ _ hw, T.cl, T.n_seats, wf_seats n s lo, _, _, rfl, rfl, _, rfl, ite2 (fun c2 => ?_) (fun c2 => ?_)⟩
      · rw [natV_len, picks_len] at c2
        have his : i < s := by have := of_decide_eq_true c2; omega
        refine ⟨fun σ' H' => ∃ (y4 : Option V), σ' = [some (.ref wa), some (.ref a), some (.ref l), some (.ref p), y4] ∧ Same H H' ∧ H' l = some (.lst (natV (lf (stren n L) ns (i + 1)))) ∧ H' p = some (.lst (natV (picks (stren n L) ns (i + 1)))),
          fun σ' H' ⟨y4, h1, h2, h3, h4⟩ => ⟨n - (i + 1), by omega, i + 1, y4, h1, h2, h3, h4, by omega, rfl⟩, ?_⟩
        have hne := lf_ne (L := L) hns (i := i) (by omega)
        have hall : ∀ x ∈ lf (stren n L) ns i, x < n := fun x hx => hns x (lf_sub _ _ i x hx)
        refine ⟨_, rfl, _, rfl, a, l, n, _, _, rfl, hma.same s3, hn, hl1, by omega, hall, fun H2 r t2 nr hr2 => ?_⟩
        have hcons : ∃ us, unb (stren n L) (lf (stren n L) ns i) = pick (stren n L) ns i :: us := by
          unfold pick
          cases q : unb (stren n L) (lf (stren n L) ns i) with
          | nil => exact absurd q (unb_some hall hne)
          | cons u us => exact ⟨us, rfl⟩
        obtain ⟨us, hus⟩ := hcons
        rw [hus] at hr2
        refine ⟨r, _, _, .int ((pick (stren n L) ns i : Nat) : Int), rfl, rfl, SqL.of hr2, atI_nat (j := 0) rfl, ?_⟩
        have s4 := s3.trans t2
        have hl2 := t2 _ _ hl1
        have hp2 := t2 _ _ hp1
        obtain ⟨j, j1, j2, j3⟩ := erase_at (pick_in (L := L) hns hne)
        -- left.remove(hand)
        refine ⟨_, rfl, .inl ⟨rfl, _, SqL.of hl2⟩, _, rfl, l, (lf (stren n L) ns i).map fun (k : Nat) => (k : Int), _, j, rfl, rfl, by rw [hl2, natV_map], by rw [List.getElem?_map, j1]; rfl, fun m hm e => ?_, ?_⟩
        · rw [List.getElem?_map] at e
          cases z : (lf (stren n L) ns i)[m]? with
          | none => rw [z] at e; cases e
          | some u =>
            rw [z] at e
            have e2 : (u : Int) = ((pick (stren n L) ns i : Nat) : Int) := Option.some.inj e
            exact j2 m hm (by rw [z]; congr 1; omega)
        rw [erase_map, j3, ← natV_map]
        have s5 := Same.updN (o := .lst (natV ((lf (stren n L) ns i).erase (pick (stren n L) ns i)))) s4 nl
        refine ⟨_, rfl, .inl ⟨rfl, _, SqL.of (by rw [upd_ne lp.symm]; exact hp2)⟩, _, rfl, p, _, _, rfl, rfl, by rw [upd_ne lp.symm]; exact hp2, by rw [natV_len, picks_len]; exact small1000 (by omega), ?_⟩
        refine ⟨_, rfl, Same.updN s5 npH, ?_, ?_⟩
        · rw [upd_ne lp, upd_same]; rfl
        · rw [upd_same, picks_succ, natV_app]; rfl
      · rw [natV_len, picks_len] at c2
        have his : ¬ i < s := fun z => c2 (decide_eq_true (by omega))
        have e : i = min s n := by omega
        subst e
        exact ⟨_, rfl, q _ p s3 hp1⟩
    · have hin : i = n := by
        rcases Nat.lt_or_ge i n with h | h
        · exfalso
          refine c ?_
          rw [eqv_int, decide_eq_false (fun z => ?_)]
          · rfl
          · have := congrArg List.length z
            rw [List.length_map, hlf] at this
            simp at this
            omega
        · omega
      have e : i = min s n := by omega
      subst e
      exact ⟨_, rfl, q _ p (sm.trans (same_upd ne)) (same_upd ne _ _ hp)⟩
theorem cal_told_by (T : Tp K mg) : CalM P w K mg base "told_by" 1 ["self", "paper"] (spTold (He.ga K "Pairs")) := by
  obtain ⟨fd, F⟩ := T.f_p_told_by
  refine ⟨_, fd, T.t_told_by, F.bindsN fun _ _ _ _ _ _ us hl => match us, hl with | [_, _], _ => rfl, okd F sc_pairs_s_told_by (fun vs H Q E h => ?_) (fun cdv A fr s0 H vs Q E hr h => ?_)⟩
  · obtain ⟨wa, p, n, s, ns, u, v, r, ps, rfl, _⟩ := h
    rfl
  · obtain ⟨wa, p, n, s, ns, u, v, r, ps, rfl, ⟨dx, lo, hw, hlo⟩, hn, hp, hr2, q⟩ := h
    refine ⟨_, (pss_one (ps_ret (pe_lc (own := [("hand", 2)]) (g := gName 2) (tt := tYes) rfl sc_pairs_s_told_by.nd (pi_range1 (by rfl) T.m_range (pa_cons (pe_fld (pv 0) rfl) pa_nil)) (blkOk_by (own := [("hand", 2)]) (by kernel_rfl)) (fun _ _ _ _ _ => (pg_name (i := 2) sc_pairs_s_told_by.nd rfl (Or.inl rfl))) (fun _ _ _ _ _ => pts_nil) (fun _ _ _ _ _ => (pe_callTy call_int1 (by rfl) T.m_int (by decide +kernel) (pa_cons (pe_cmpR (oIn K rfl) (pv 2) (pe_ix (ixT K rfl) (pv 1) pe_int (fun _ _ => rfl)) (by rfl)) pa_nil)))))), ?_⟩
    refine ⟨_, rfl, wa, _, _, _, _, rfl, hw, T.cl, T.n_hands, wf_hands n s lo, (n : Int), rfl, (i62 (by omega)).1, (i62 (by omega)).2, fun D nD => lcY_rg (n := n) (fun i H' => Same H H' ∧ H' D = some (.lst (rowV i fun h => if h ∈ ps then 1 else 0))) ⟨same_upd nD, upd_same⟩ ?_ ?_⟩
    · rintro i H' hi ⟨sm, hD⟩
      refine ⟨rfl, ?_⟩
      refine ⟨_, rfl, _, rfl, p, _, _, .ref r, rfl, rfl, SqT.of (sm _ _ hp), rfl, r, _, rfl, .inl (SqL.of (sm _ _ hr2)), rfl, flat_nat ps, .inr ⟨_, rfl, ?_⟩⟩
      refine ⟨_, hD, by rw [rowV_len]; exact small1000 (by omega), Same.updN sm nD, ?_⟩
      rw [upd_same, ← rowV_snoc, if_neg Bool.false_ne_true, inV_nat]
      congr 5
      by_cases e : i ∈ ps
      · rw [decide_eq_true e, if_pos e, if_pos rfl]
      · rw [decide_eq_false e, if_neg e, if_neg Bool.false_ne_true]
    · rintro H' ⟨sm, hD⟩
      exact q H' D sm hD
end
end Wp
end
section
set_option Elab.async false
set_option linter.all false
set_option maxRecDepth 100000
set_option maxHeartbeats 4000000
namespace Wp
open PySem PySem.Spec PyProof.Rows L2
/-! ### beats, unbeaten, counted, outcome -/
theorem sc_pairs_s_beats : FnScope ["self", "sheet", "x", "y", "strengths"] ["self", "sheet", "x", "y"] (defScope pairs_s_beats) := ⟨rfl, rfl, rfl, by decide +kernel, rfl, by decide +kernel, by decide +kernel⟩
-- slots: 0 self 1 sheet 2 x 3 y 4 strengths
theorem sc_pairs_s_unbeaten : FnScope ["self", "sheet", "found", "hand"] ["self", "sheet"] (defScope pairs_s_unbeaten) := ⟨rfl, rfl, rfl, by decide +kernel, rfl, by decide +kernel, by decide +kernel⟩
-- slots: 0 self 1 sheet 2 found 3 hand
theorem sc_pairs_s_counted : FnScope ["self", "sheet", "many", "leads", "strengths", "shown", "x", "y", "worth"] ["self", "sheet"] (defScope pairs_s_counted) := ⟨rfl, rfl, rfl, by decide +kernel, rfl, by decide +kernel, by decide +kernel⟩
-- slots: 0 self 1 sheet 2 many 3 leads 4 strengths 5 shown 6 x 7 y 8 worth
theorem sc_way_s_outcome : FnScope ["self", "sheet"] ["self", "sheet"] (defScope way_s_outcome) := ⟨rfl, rfl, rfl, by decide +kernel, rfl, by decide +kernel, by decide +kernel⟩
-- slots: 0 self 1 sheet
def orB (l : List Nat) : Nat := l.foldl (fun m h => m ||| 2 ^ h) 0
theorem orB_snoc (l : List Nat) (h : Nat) : orB (l ++ [h]) = orB l ||| 2 ^ h := by unfold orB; rw [List.foldl_append]; rfl
theorem orB_bitR (i : Nat) : ∀ r : List Nat, (orB r.reverse).testBit i = decide (i ∈ r)
  | [] => by show (0 : Nat).testBit i = _; rw [Nat.zero_testBit]; rfl
  | h :: r => by
    rw [List.reverse_cons, orB_snoc, Nat.testBit_or, orB_bitR i r, Nat.testBit_two_pow]
    by_cases e : h = i
    · subst e; simp
    · have e' : ¬ i = h := fun q => e q.symm
      simp [e, e']
theorem orB_bit (i : Nat) (l : List Nat) : (orB l).testBit i = decide (i ∈ l) := by
  have := orB_bitR i l.reverse
  rw [List.reverse_reverse] at this
  rw [this]
  simp
theorem orB_lt {l : List Nat} (h : ∀ x ∈ l, x < 5) : orB l < 32 := lt_of_bits (n := 5) fun i hi => by
  rw [orB_bit]
  exact decide_eq_false fun q => by have := h i q; omega
section
variable {P : Program} {w : World} {K : PySem.W.Frag} {mg : Str → Option Value} {base : Heap}
theorem cal_beats (T : Tp K mg) : CalM P w K mg base "beats" 5 ["self", "sheet", "x", "y"] (spBeats (He.ga K "Pairs")) := by
  obtain ⟨fd, F⟩ := T.f_p_beats
  refine ⟨_, fd, T.t_beats, F.bindsN fun _ _ _ _ _ _ us hl => match us, hl with | [_, _, _, _], _ => rfl, okd F sc_pairs_s_beats (fun vs H Q E h => ?_) (fun cdv A fr s0 H vs Q E hr h => ?_)⟩
  · obtain ⟨wa, a, x, y, n, s, ns, L, rfl, _⟩ := h
    rfl
  · obtain ⟨wa, a, x, y, n, s, ns, L, rfl, ⟨dx, lo, hw, hlo⟩, hL, hn, hx, hy, q⟩ := h
    refine ⟨_, (pss_cons (ps_set (i := 4) sc_pairs_s_beats.nd rfl (.inl rfl) (pcl (cal_strength T) (hr.mono (by decide)) (by rfl) (pa_cons (pcl (cal_leads_of T) (hr.mono (by decide)) (by rfl) (pa_cons (pcl (cal_overs T) (hr.mono (by decide)) (by rfl) (pa_cons (pv 1) (pa_cons (pe_fld (pv 0) rfl) pa_nil))) pa_nil)) pa_nil)))
      (pss_one (ps_ret (pe_cmpR op_gt (pe_ix ix_list (pe_ix ix_list (pv 4) (pv 2) (fun _ _ => rfl)) (pv 3) (fun _ _ => rfl)) (pe_ix ix_list (pe_ix ix_list (pv 4) (pv 3) (fun _ _ => rfl)) (pv 2) (fun _ _ => rfl)) (nomark _))))), ?_⟩
    refine ⟨_, rfl, _, rfl, wa, _, _, _, _, rfl, hw, T.cl, T.n_hands, wf_hands n s lo, a, L, n, rfl, hL, hn, fun H1 p1 s1 h1 => ?_⟩
    refine ⟨p1, n, _, rfl, h1, hn, fun H2 p2 s2 h2 => ?_⟩
    refine ⟨p2, n, _, rfl, h2, hn, fun H3 p3 s3 ⟨rs, h3, hrs⟩ => ?_⟩
    refine ⟨_, rfl, _, rfl, p3, _, _, _, rfl, rfl, SqL.of h3, atI_nat (map_range_at _ hx), _, rfl, rs x, _, _, _, rfl, rfl, SqL.of (hrs x hx), atI_nat (rowV_at _ hy),
      _, rfl, _, rfl, p3, _, _, _, rfl, rfl, SqL.of h3, atI_nat (map_range_at _ hy), _, rfl, rs y, _, _, _, rfl, rfl, SqL.of (hrs y hy), atI_nat (rowV_at _ hx), _, _, rfl, rfl, ?_⟩
    exact q H3 (s1.trans (s2.trans s3))
theorem cal_unbeaten (T : Tp K mg) : CalM P w K mg base "unbeaten" 5 ["self", "sheet"] (spUnbeaten (He.ga K "Pairs")) := by
  obtain ⟨fd, F⟩ := T.f_p_unbeaten
  refine ⟨_, fd, T.t_unbeaten, F.bindsN fun _ _ _ _ _ _ us hl => match us, hl with | [_, _], _ => rfl, okd F sc_pairs_s_unbeaten (fun vs H Q E h => ?_) (fun cdv A fr s0 H vs Q E hr h => ?_)⟩
  · obtain ⟨wa, a, n, s, ns, L, rfl, _⟩ := h
    rfl
  · obtain ⟨wa, a, n, s, ns, L, rfl, ⟨dx, lo, hw, hlo⟩, hL, hn, q⟩ := h
    refine ⟨_, (pss_cons (ps_set (i := 2) sc_pairs_s_unbeaten.nd rfl (.inl rfl) pe_int)
      (pss_cons (ps_for PassesOwn.never rfl (pi_list (pcl (cal_unbeaten_of T) (hr.mono (by decide)) (by rfl) (pa_cons (pcl (cal_strength T) (hr.mono (by decide)) (by rfl) (pa_cons (pcl (cal_leads_of T) (hr.mono (by decide)) (by rfl) (pa_cons (pcl (cal_overs T) (hr.mono (by decide)) (by rfl) (pa_cons (pv 1) (pa_cons (pe_fld (pv 0) rfl) pa_nil))) pa_nil)) pa_nil)) (pa_cons (pe_listRg rfl (by rfl) T.m_list (prg_1 (by rfl) T.m_range (pe_fld (pv 0) rfl))) pa_nil)))) (pg_name (i := 3) sc_pairs_s_unbeaten.nd rfl (.inl rfl)) (pss_one (ps_set (i := 2) sc_pairs_s_unbeaten.nd rfl (.inl rfl) (pcl (cal_with_one T) (hr.mono (by decide)) (by rfl) (pa_cons (pv 2) (pa_cons (pv 3) pa_nil))))))
      (pss_one (ps_ret (pv 2))))), ?_⟩
    refine ⟨_, rfl, _, rfl, wa, _, _, _, _, rfl, hw, T.cl, T.n_hands, wf_hands n s lo, a, L, n, rfl, hL, hn, fun H1 p1 s1 h1 => ?_⟩
    refine ⟨p1, n, _, rfl, h1, hn, fun H2 p2 s2 h2 => ?_⟩
    refine ⟨p2, n, _, rfl, h2, hn, fun H3 p3 s3 h3 => ?_⟩
    have sa := s1.trans (s2.trans s3)
    refine ⟨_, rfl, wa, _, _, _, _, rfl, sa _ _ hw, T.cl, T.n_hands, wf_hands n s lo, (n : Int), rfl, .of_le (by omega) (by omega) (by omega) (by omega), fun r nr => ?_⟩
    rw [rgV_nat]
    have s4 : Same H3 (upd H3 r (.lst (natV (List.range n)))) := same_upd nr
    refine ⟨p3, r, n, _, List.range n, rfl, h3.same s4, hn, upd_same, by rw [List.length_range]; exact hn, fun x hx => List.mem_range.mp hx, fun H5 u s5 nu hu => ?_⟩
    have sb := sa.trans (s4.trans s5)
    refine ⟨u, rfl, ⟨_, SqL.of hu⟩, for_list (K := K) (a := u) (xs := natV (unb (S n L) (List.range n))) (fun i σ H' => ∃ y3, σ = [some (.ref wa), some (.ref a), some (.int ((orB ((unb (S n L) (List.range n)).take i) : Nat) : Int)), y3] ∧ Same H5 H') ⟨none, rfl, fun _ _ e => e⟩ (fun i σ H' _ ⟨_, _, sm⟩ => SqL.of (sm _ _ hu)) ?_ ?_⟩
    · rintro i v σ H' hv ⟨y3, rfl, sm⟩
      obtain ⟨h, hh, rfl⟩ := natV_of hv
      have hlt : h < n := List.mem_range.mp (mem_unb.mp (List.mem_of_getElem? hh)).1
      refine ⟨_, rfl, _, rfl, _, h, rfl, by omega, ?_⟩
      refine ⟨some (.int (h : Int)), ?_, sm⟩
      rw [take_snoc hh, orB_snoc]
      rfl
    · rintro σ H' ⟨y3, rfl, sm⟩
      rw [natV_len, List.take_length]
      exact ⟨_, rfl, q H' _ (sb.trans sm) (orB_lt fun x hx => by have := List.mem_range.mp (mem_unb.mp hx).1; omega) fun h => orB_bit h _⟩
theorem cal_counted (T : Tp K mg) : CalM P w K mg base "counted" 5 ["self", "sheet"] (spCounted (He.ga K "Pairs")) := by
  obtain ⟨fd, F⟩ := T.f_p_counted
  refine ⟨_, fd, T.t_counted, F.bindsN fun _ _ _ _ _ _ us hl => match us, hl with | [_, _], _ => rfl, okd F sc_pairs_s_counted (fun vs H Q E h => ?_) (fun cdv A fr s0 H vs Q E hr h => ?_)⟩
  · obtain ⟨wa, a, n, s, ns, L, rfl, _⟩ := h
    rfl
  · obtain ⟨wa, a, n, s, ns, L, rfl, hway, hL, hn, hlen, hns, q⟩ := h
    obtain ⟨dx, lo, hw, hlo⟩ := hway
    refine ⟨_, (pss_cons (ps_set (i := 2) sc_pairs_s_counted.nd rfl (.inl rfl) (pcl (cal_overs T) (hr.mono (by decide)) (by rfl) (pa_cons (pv 1) (pa_cons (pe_fld (pv 0) rfl) pa_nil))))
      (pss_cons (ps_set (i := 3) sc_pairs_s_counted.nd rfl (.inl rfl) (pcl (cal_leads_of T) (hr.mono (by decide)) (by rfl) (pa_cons (pv 2) pa_nil)))
      (pss_cons (ps_set (i := 4) sc_pairs_s_counted.nd rfl (.inl rfl) (pcl (cal_strength T) (hr.mono (by decide)) (by rfl) (pa_cons (pv 3) pa_nil)))
      (pss_cons (ps_set (i := 5) sc_pairs_s_counted.nd rfl (.inl rfl) (pe_lst pa_nil))
      (pss_cons (ps_for PassesOwn.never rfl (pi_range1 (by rfl) T.m_range (pa_cons (pe_fld (pv 0) rfl) pa_nil)) (pg_name (i := 6) sc_pairs_s_counted.nd rfl (.inl rfl)) (pss_one (ps_for PassesOwn.never rfl (pi_range1 (by rfl) T.m_range (pa_cons (pe_fld (pv 0) rfl) pa_nil)) (pg_name (i := 7) sc_pairs_s_counted.nd rfl (.inl rfl)) (pss_cons (ps_if (pt_cmpR op_eq (pv 6) (pv 7) (nomark _)) (pss_one ps_continue) pss_nil)
      (pss_cons (ps_set (i := 8) sc_pairs_s_counted.nd rfl (.inl rfl) (pe_ix ix_list (pe_ix ix_list (pv 4) (pv 6) (fun _ _ => rfl)) (pv 7) (fun _ _ => rfl)))
      (pss_one (ps_expr (pe_bm PySem.F.plainAttrs_list PySem.F.slot_list_append PySem.F.type_list_append mt_append (pv 5) (pa_cons (pe_tup (pa_cons (pv 6) (pa_cons (pv 7) (pa_cons (pv 8) (pa_cons (pcl (cal_way_by T) (hr.mono (by decide)) (by rfl) (pa_cons (pv 3) (pa_cons (pv 8) (pa_cons (pv 6) (pa_cons (pv 7) pa_nil))))) (pa_cons (pcl (cal_cut_by T) (hr.mono (by decide)) (by rfl) (pa_cons (pv 3) (pa_cons (pv 8) (pa_cons (pv 6) pa_nil)))) pa_nil)))))) pa_nil)))))))))
      (pss_one (ps_ret (pe_tup (pa_cons (pv 2) (pa_cons (pv 5) (pa_cons (pcl (cal_picks_due T) (hr.mono (by decide)) (by rfl) (pa_cons (pv 0) (pa_cons (pv 4) pa_nil))) pa_nil))))))))))), ?_⟩
    refine ⟨_, rfl, _, rfl, wa, _, _, _, _, rfl, hw, T.cl, T.n_hands, wf_hands n s lo, a, L, n, rfl, hL, hn, fun H1 p1 s1 h1 => ?_⟩
    refine ⟨_, rfl, p1, n, _, rfl, h1, hn, fun H2 p2 s2 h2 => ?_⟩
    refine ⟨_, rfl, p2, n, _, rfl, h2, hn, fun H3 p3 s3 h3 => ?_⟩
    have sa := s1.trans (s2.trans s3)
    refine ⟨by decide, fun sh nsh => ?_⟩
    have h2' := h2.same s3
    obtain ⟨rs, h3l, hrs⟩ := h3
    have s4 : Same H3 (upd H3 sh (.lst [])) := same_upd nsh
    refine ⟨_, rfl, wa, _, _, _, _, rfl, s4 _ _ (sa _ _ hw), T.cl, T.n_hands, wf_hands n s lo, (n : Int), rfl, (i62 (by omega)).1, (i62 (by omega)).2, for_rg (n := n) (fun x σ H' => ∃ y6 y7 y8 vs, σ = [some (.ref wa), some (.ref a), some (.ref p1), some (.ref p2), some (.ref p3), some (.ref sh), y6, y7, y8] ∧ Same H3 H' ∧ H' sh = some (.lst vs) ∧ vs.length ≤ 5 * x)
      ⟨_, _, _, [], rfl, s4, upd_same, Nat.zero_le _⟩ ?_ ?_⟩
    · rintro x σ H' hx ⟨y6, y7, y8, vs, rfl, sm, hsh, hvs⟩
      refine ⟨_, rfl, wa, _, _, _, _, rfl, sm _ _ (sa _ _ hw), T.cl, T.n_hands, wf_hands n s lo, (n : Int), rfl, (i62 (by omega)).1, (i62 (by omega)).2, for_rg (n := n) (fun y σ H' => ∃ y7 y8 vs, σ = [some (.ref wa), some (.ref a), some (.ref p1), some (.ref p2), some (.ref p3), some (.ref sh), some (.int (x : Int)), y7, y8] ∧ Same H3 H' ∧ H' sh = some (.lst vs) ∧ vs.length ≤ 5 * x + y)
        ⟨_, _, vs, rfl, sm, hsh, hvs⟩ ?_ ?_⟩
      · rintro y σ H' hy ⟨y7, y8, vs, rfl, sm, hsh, hvs⟩
        refine ⟨_, rfl, _, rfl, rfl, _, rfl, ite2 (fun c => ?_) (fun c => ?_)⟩
        · exact ⟨_, _, vs, rfl, sm, hsh, by omega⟩
        · refine ⟨_, rfl, _, rfl, p3, _, _, _, rfl, rfl, SqL.of (sm _ _ h3l), atI_nat (map_range_at _ hx), _, rfl, rs x, _, _, _, rfl, rfl, SqL.of (sm _ _ (hrs x hx)), atI_nat (rowV_at _ hy), ?_⟩
          refine ⟨_, rfl, .inl ⟨rfl, _, SqL.of hsh⟩, _, rfl, _, rfl, _, rfl, ?_⟩
          refine ⟨_, rfl, _, rfl, _, rfl, _, rfl, p2, n, _, _, x, y, rfl, h2'.same sm, hn, hx, fun u5 H5 s5 => ?_⟩
          refine ⟨_, rfl, _, rfl, _, rfl, p2, n, _, _, x, rfl, h2'.same (sm.trans s5), hn, hx, fun u6 H6 s6 => ?_⟩
          refine ⟨sz (n := 5) (by omega), fun t nt => ?_⟩
          have s7 := s5.trans (s6.trans (same_upd (o := .tup [.int (x : Int), .int (y : Int), .int (S n L x y), u5, u6]) nt))
          refine ⟨sh, _, _, rfl, rfl, s7 _ _ hsh, small1000 (by omega), ?_⟩
          refine ⟨_, _, _, rfl, Same.updN (sm.trans s7) nsh, upd_same, ?_⟩
          rw [List.length_append, List.length_singleton]
          omega
      · rintro σ H' ⟨y7, y8, vs, rfl, sm, hsh, hvs⟩
        exact ⟨_, _, _, vs, rfl, sm, hsh, by omega⟩
    · rintro σ H' ⟨y6, y7, y8, vs, rfl, sm, hsh, hvs⟩
      refine ⟨_, rfl, _, rfl, _, rfl, _, rfl, wa, p3, n, s, ns, _, rfl, ⟨dx, lo, sm _ _ (sa _ _ hw), sm _ _ (sa _ _ hlo)⟩, ⟨rs, sm _ _ h3l, fun i hi => sm _ _ (hrs i hi)⟩, hn, hlen, hns, fun H5 r s5 hr5 => ?_⟩
      refine ⟨sz (n := 3) (by omega), fun t nt => ?_⟩
      exact q _ t _ _ r (sa.trans (sm.trans (s5.trans (same_upd nt)))) upd_same (same_upd nt _ _ hr5)
theorem cal_outcome (T : Tp K mg) : CalM P w K mg base "outcome" 6 ["self", "sheet"] (spOutcome (He.ga K "Pairs")) := by
  obtain ⟨fd, F⟩ := T.f_w_outcome
  refine ⟨_, fd, T.t_outcome, F.bindsN fun _ _ _ _ _ _ us hl => match us, hl with | [_, _], _ => rfl, okd F sc_way_s_outcome (fun vs H Q E h => ?_) (fun cdv A fr s0 H vs Q E hr h => ?_)⟩
  · obtain ⟨wa, a, n, s, ns, L, rfl, _⟩ := h
    rfl
  · obtain ⟨wa, a, n, s, ns, L, rfl, hway, hL, hn, hlen, hns, q⟩ := h
    obtain ⟨dx, lo, hw, hlo⟩ := hway
    refine ⟨_, (pss_one (ps_ret (pcm (cal_told_by T) T.cl (hr.mono (by decide)) (pv 0) (pa_cons (pcm (cal_counted T) T.cl (hr.mono (by decide)) (pv 0) (pa_cons (pv 1) pa_nil)) pa_nil)))), ?_⟩
    refine ⟨_, rfl, wa, _, _, rfl, hw, wf_no n s lo (by decide +kernel) (by decide +kernel) (by decide +kernel), ?_⟩
    refine ⟨_, rfl, wa, _, _, rfl, hw, wf_no n s lo (by decide +kernel) (by decide +kernel) (by decide +kernel), ?_⟩
    refine ⟨_, rfl, wa, a, n, s, ns, L, rfl, ⟨dx, lo, hw, hlo⟩, hL, hn, hlen, hns, fun H1 p u v r s1 h1 h2 => ?_⟩
    exact ⟨wa, p, n, s, ns, u, v, r, _, rfl, ⟨dx, lo, s1 _ _ hw, s1 _ _ hlo⟩, hn, h1, h2, fun H2 p2 s2 h3 => q H2 p2 (s1.trans s2) h3⟩
end
end Wp
end
section
set_option Elab.async false
set_option linter.all false
set_option maxRecDepth 100000
set_option maxHeartbeats 4000000
namespace Wp
open PySem PySem.Spec PyProof.Rows L2
/-! ### _law_bag, _law_take, _law_one, _law_alike -/
theorem sc_s_law_bag : FnScope ["_law_script", "_law_cell"] ["_law_script"] (defScope s_law_bag) := ⟨rfl, rfl, rfl, by decide +kernel, rfl, by decide +kernel, by decide +kernel⟩
-- slots: 0 _law_script 1 _law_cell
theorem sc_s_law_take : FnScope ["_law_bag_here", "_law_many", "_law_cell", "_law_mixed_here", "_law_drawn", "_law_early", "_law_second"] ["_law_bag_here", "_law_many"] (defScope s_law_take) := ⟨rfl, rfl, rfl, by decide +kernel, rfl, by decide +kernel, by decide +kernel⟩
-- slots: 0 _law_bag_here 1 _law_many 2 _law_cell 3 _law_mixed_here 4 _law_drawn 5 _law_early 6 _law_second
theorem sc_s_law_one : FnScope ["_law_bag_here", "_law_some"] ["_law_bag_here", "_law_some"] (defScope s_law_one) := ⟨rfl, rfl, rfl, by decide +kernel, rfl, by decide +kernel, by decide +kernel⟩
-- slots: 0 _law_bag_here 1 _law_some
theorem sc_s_law_alike : FnScope ["_law_found", "_law_due"] ["_law_found", "_law_due"] (defScope s_law_alike) := ⟨rfl, rfl, rfl, by decide +kernel, rfl, by decide +kernel, by decide +kernel⟩
-- slots: 0 _law_found 1 _law_due
theorem cut_all {ns : List Int} (h : ns.length ≤ 63) : cutV (ns.map V.int) none (some 63) = ns.map V.int := by
  unfold cutV
  have e1 : HT.sIx (ns.map V.int).length 0 none = 0 := rfl
  have e2 : HT.sIx (ns.map V.int).length (ns.map V.int).length (some 63) = ns.length := by
    rw [show (some 63 : Option Int) = some ((63 : Nat) : Int) from rfl, HT.sIx_nat, List.length_map]
    omega
  rw [e1, e2, List.drop_zero, Nat.sub_zero]
  exact List.take_of_length_le (by rw [List.length_map]; exact Nat.le_refl _)
theorem cut_head (cs : List Int) (lo hi : Option Int) (h : ∀ c ∈ cs, 0 ≤ c) : ∃ c : Int, 0 ≤ c ∧ (cutV (cs.map V.int) lo hi ++ [V.int 0])[0]? = some (.int c) := by
  cases e : cutV (cs.map V.int) lo hi with
  | nil => exact ⟨0, Int.le_refl _, rfl⟩
  | cons v r =>
    have hv : v ∈ cutV (cs.map V.int) lo hi := by rw [e]; exact List.mem_cons_self
    unfold cutV at hv
    have h2 := List.mem_of_mem_drop (List.mem_of_mem_take hv)
    obtain ⟨c, hc, rfl⟩ := List.mem_map.mp h2
    exact ⟨c, h c hc, rfl⟩
theorem take_val {z : Int} {m : Nat} (h : 1 ≤ m) : ∃ r : Nat, r < m ∧ z % (m : Int) = (r : Int) := by
  have h1 := Int.emod_nonneg z (b := (m : Int)) (by omega)
  have h2 := Int.emod_lt_of_pos z (b := (m : Int)) (by omega)
  exact ⟨(z % (m : Int)).toNat, by omega, by omega⟩
theorem take_q {Q : VK} {H : Hp} {z : Int} {m : Nat} (h : 1 ≤ m) (q : ∀ r : Nat, r < m → Q (.int (r : Int)) H) : Q (.int (z % (m : Int))) H := by
  obtain ⟨r, hr, e⟩ := take_val (z := z) h
  rw [e]
  exact q r hr
section
variable {P : Program} {w : World} {K : PySem.W.Frag} {mg : Str → Option Value} {base : Heap}
theorem cal_bag (T : Tp K mg) : Cal P w K mg base "_law_bag" 1 ["_law_script"] (spBag K) := by
  obtain ⟨fd, F⟩ := T.f_bag
  refine ⟨_, fd, T.g_bag, F.kp, F.bindsN fun _ _ _ _ _ _ us hl => match us, hl with | [_], _ => rfl, okd F sc_s_law_bag (fun vs H Q E h => ?_) (fun cdv A fr s0 H vs Q E hr h => ?_)⟩
  · obtain ⟨a, ns, rfl, _⟩ := h
    rfl
  · obtain ⟨a, ns, rfl, hs, hn, q⟩ := h
    refine ⟨_, (pss_one (ps_ret (pe_lst (pa_cons pe_int (pa_cons pe_int (pa_cons pe_int (pa_cons (pe_lc (own := [("_law_cell", 1)]) (g := gName 1) (tt := tYes) rfl sc_s_law_bag.nd (pi_list (pe_slice sl_list (pv 0) po_none (po_some pe_int))) (blkOk_by (own := [("_law_cell", 1)]) (by kernel_rfl)) (fun _ _ _ _ _ => (pg_name (i := 1) sc_s_law_bag.nd rfl (Or.inl rfl))) (fun _ _ _ _ _ => pts_nil) (fun _ _ _ _ _ => (pe_callB call_abs (by rfl) T.m_abs (by decide +kernel) (pa_cons (pv 1) pa_nil)))) pa_nil))))))), ?_⟩
    refine ⟨_, rfl, _, rfl, a, _, rfl, hs, fun p np => ?_⟩
    rw [cut_all hn]
    have s1 : Same H (upd H p (.lst (ns.map V.int))) := same_upd np
    refine ⟨p, rfl, ⟨_, SqL.of upd_same⟩, fun D nD => lcY_list (K := K) (a := p) (xs := ns.map V.int) (fun i H' => Same (upd H p (.lst (ns.map V.int))) H' ∧ H' D = some (.lst (((ns.take i).map fun c => if c < 0 then -c else c).map V.int))) ⟨same_upd nD, upd_same⟩ (fun i H' _ x => SqL.of (x.1 _ _ upd_same)) ?_ ?_⟩
    · rintro i v H' hv ⟨sm, hD⟩
      rw [List.getElem?_map] at hv
      cases hc : ns[i]? with
      | none => rw [hc] at hv; cases hv
      | some c =>
        rw [hc] at hv
        cases hv
        refine ⟨rfl, _, rfl, _, rfl, _, hD, ?_, Same.updN sm nD, ?_⟩
        · rw [List.length_map, List.length_map, List.length_take]; exact small1000 (by omega)
        · rw [upd_same, take_snoc hc, List.map_append, List.map_append]; rfl
    · rintro H' ⟨sm, hD⟩
      rw [List.length_map, List.take_length] at hD
      refine ⟨sz (n := 4) (by omega), fun b nb => ?_⟩
      have s2 := s1.trans (sm.trans (same_upd (o := .lst [.int 0, .int 1234567891, .int 0, .ref D]) nb))
      refine q _ b D s2 ⟨0, 1234567891, 0, _, upd_same, same_upd nb _ _ hD, ne_of_none hD nb, by decide, by decide, by decide, by rw [List.length_map]; exact hn, fun c hc => ?_⟩
      obtain ⟨d, _, rfl⟩ := List.mem_map.mp hc
      split <;> omega
theorem cal_take (T : Tp K mg) : Cal P w K mg base "_law_take" 1 ["_law_bag_here", "_law_many"] spTake := by
  obtain ⟨fd, F⟩ := T.f_take
  refine ⟨_, fd, T.g_take, F.kp, F.bindsN fun _ _ _ _ _ _ us hl => match us, hl with | [_, _], _ => rfl, okd F sc_s_law_take (fun vs H Q E h => ?_) (fun cdv A fr s0 H vs Q E hr h => ?_)⟩
  · obtain ⟨cl, b, m, rfl, _⟩ := h
    rfl
  · obtain ⟨cl, b, m, rfl, ⟨z0, z1, k, cs, hb, hcl, clb, p0, p1, pk, hlen, hcs⟩, m1, m2, q⟩ := h
    refine ⟨_, (pss_cons (ps_if (pt_cmpR op_eq (pe_ix ix_list (pv 0) pe_int (fun _ _ => rfl)) pe_int (nomark _)) (pss_cons (ps_set (i := 2) sc_s_law_take.nd rfl (.inl rfl) (pe_ix ix_list (pe_op op_cat (pe_slice sl_list (pe_ix ix_list (pv 0) pe_int (fun _ _ => rfl)) (po_some (pe_ix ix_list (pv 0) pe_int (fun _ _ => rfl))) po_none) (pe_lst (pa_cons pe_int pa_nil))) pe_int (fun _ _ => rfl)))
      (pss_cons (ps_augS (pv 0) pe_int gt_list pe_int ip_add set_list)
      (pss_cons (ps_asg (pe_op op_mul (pv 2) (pe_callTy call_int1 (by rfl) T.m_int (by decide +kernel) (pa_cons (pe_cmpR op_ge (pv 2) (pe_op op_pow pe_int pe_int) (nomark _)) pa_nil))) (pg_sub (pv 0) pe_int set_list))
      (pss_cons (ps_set (i := 3) sc_s_law_take.nd rfl (.inl rfl) (pe_op op_add (pe_op op_add (pe_op op_mul (pe_ix ix_list (pv 0) pe_int (fun _ _ => rfl)) pe_int) (pe_op op_mod (pe_callTy call_int1 (by rfl) T.m_int (by decide +kernel) (pa_cons (pv 2) pa_nil)) pe_int)) (pe_op op_mul pe_int (pe_ix ix_list (pv 0) pe_int (fun _ _ => rfl)))))
      (pss_one (ps_asg (pe_op op_mod (pe_callTy call_int1 (by rfl) T.m_int (by decide +kernel) (pa_cons (pv 3) pa_nil)) pe_int) (pg_sub (pv 0) pe_int set_list))))))) pss_nil)
      (pss_cons (ps_if (pt_cmpR op_gt (pe_ix ix_list (pv 0) pe_int (fun _ _ => rfl)) pe_int (nomark _)) (pss_cons (ps_set (i := 4) sc_s_law_take.nd rfl (.inl rfl) (pe_op op_mod (pe_callTy call_int1 (by rfl) T.m_int (by decide +kernel) (pa_cons (pe_ix ix_list (pv 0) pe_int (fun _ _ => rfl)) pa_nil)) (pv 1)))
      (pss_cons (ps_asg (pe_op op_fdiv (pe_callTy call_int1 (by rfl) T.m_int (by decide +kernel) (pa_cons (pe_ix ix_list (pv 0) pe_int (fun _ _ => rfl)) pa_nil)) (pv 1)) (pg_sub (pv 0) pe_int set_list))
      (pss_one (ps_ret (pv 4))))) pss_nil)
      (pss_cons (ps_set (i := 5) sc_s_law_take.nd rfl (.inl rfl) (pe_op op_mod (pe_callTy call_int1 (by rfl) T.m_int (by decide +kernel) (pa_cons (pe_op op_mul (pe_op op_add (pe_ix ix_list (pv 0) pe_int (fun _ _ => rfl)) pe_int) pe_int) pa_nil)) pe_int))
      (pss_cons (ps_set (i := 6) sc_s_law_take.nd rfl (.inl rfl) (pe_op op_mod (pe_callTy call_int1 (by rfl) T.m_int (by decide +kernel) (pa_cons (pe_op op_mul (pe_op op_mod (pe_callTy call_int1 (by rfl) T.m_int (by decide +kernel) (pa_cons (pe_op op_mul (pv 5) (pv 5)) pa_nil)) pe_int) pe_int) pa_nil)) pe_int))
      (pss_one (ps_ret (pe_op op_mod (pe_callTy call_int1 (by rfl) T.m_int (by decide +kernel) (pa_cons (pe_op op_fdiv (pv 6) pe_int) pa_nil)) (pv 1)))))))), ?_⟩
    refine ⟨_, rfl, b, _, 0, .int z0, rfl, rfl, SqL.of hb, atI_nat (j := 0) rfl, rfl, _, rfl, ite2 (fun c => ?thn) (fun c => ?els)⟩
    case' thn =>
      refine ⟨_, rfl, b, _, 3, .ref cl, rfl, rfl, SqL.of hb, atI_nat (j := 3) rfl, _, rfl, b, _, 2, .int k, rfl, rfl, SqL.of hb, atI_nat (j := 2) rfl, k, rfl, cl, _, rfl, SqL.of hcl, fun p np => ?_⟩
      have s1 : Same H (upd H p (.lst (cutV (cs.map V.int) (some k) none))) := same_upd np
      refine ⟨sz (n := 1) (by omega), fun r nr => ⟨p, r, _, _, rfl, rfl, same_upd nr _ _ upd_same, upd_same, ?_, fun u nu => ?_⟩⟩
      case' refine_1 =>
        have := cutV_length (cs.map V.int) (some k) none
        rw [List.length_map] at this
        rw [List.length_singleton]
        exact sz (by omega)
      have s2 := s1.trans (same_upd (o := .lst [.int 0]) nr)
      have s3 := s2.trans (same_upd (o := .lst (cutV (cs.map V.int) (some k) none ++ [.int 0])) nu)
      obtain ⟨ce, pc, hce⟩ := cut_head cs (some k) none hcs
      refine ⟨u, _, _, _, rfl, rfl, SqL.of upd_same, atI_nat (j := 0) hce, ?_⟩
      refine ⟨_, rfl, b, _, 2, _, rfl, rfl, SqL.of (s3 _ _ hb), atI_nat (j := 2) rfl, _, _, rfl, rfl, b, _, _, 2, rfl, rfl, s3 _ _ hb, ixn (n := 4) (j := 2) (by omega), ?_⟩
      refine ⟨_, rfl, _, rfl, _, _, rfl, rfl, ⟨by decide, by decide, by decide⟩, _, _, rfl, rfl, .inr ⟨_, rfl, ?_⟩⟩
      refine ⟨_, _, rfl, rfl, .inr (by split <;> decide), ?_⟩
      refine ⟨_, rfl, b, _, _, 0, rfl, rfl, upd_same, ixn (n := 4) (j := 0) (by omega), ?_⟩
      refine ⟨_, rfl, b, _, 1, .int z1, rfl, rfl, SqL.of upd_same, atI_nat (j := 1) rfl, _, _, rfl, rfl, .inr (by decide), ?_⟩
      refine ⟨_, rfl, .inl ⟨_, rfl, _, _, rfl, rfl, by omega, _, _, rfl, rfl, ?_⟩⟩
      refine ⟨_, rfl, b, _, 2, .int (k + 1), rfl, rfl, SqL.of upd_same, atI_nat (j := 2) rfl, _, _, rfl, rfl, .inl (by decide), _, _, rfl, rfl, ?_⟩
      refine ⟨_, rfl, .inl ⟨_, rfl, _, _, rfl, rfl, by omega, ?_⟩⟩
      refine ⟨_, rfl, b, _, _, 1, rfl, rfl, upd_same, ixn (n := 4) (j := 1) (by omega), ?_⟩
      have sb1 := (((SameBut.of (b := b) s3).trans (sameBut_upd (o := .lst [.int z0, .int z1, .int (k + 1), .ref cl]))).trans (sameBut_upd (o := .lst [.int (ce * if decide ((10 : Int) ^ (18 : Int).toNat ≤ ce) = true then 1 else 0), .int z1, .int (k + 1), .ref cl]))).trans (sameBut_upd (o := .lst [.int (ce * if decide ((10 : Int) ^ (18 : Int).toNat ≤ ce) = true then 1 else 0), .int ((z1 * 48271 + ce % 2147483647 + 7919 * (k + 1)) % 2147483647), .int (k + 1), .ref cl]))
      have pz0 : (0 : Int) ≤ ce * if decide ((10 : Int) ^ (18 : Int).toNat ≤ ce) = true then 1 else 0 := by split <;> omega
      have pz1 : (0 : Int) ≤ (z1 * 48271 + ce % 2147483647 + 7919 * (k + 1)) % 2147483647 := by omega
      have pkk : (0 : Int) ≤ k + 1 := by omega
      have hb1 := upd_same (H := upd (upd (upd (upd (upd H p (.lst (cutV (cs.map V.int) (some k) none))) r (.lst [.int 0])) u (.lst (cutV (cs.map V.int) (some k) none ++ [.int 0]))) b (.lst [.int z0, .int z1, .int (k + 1), .ref cl])) b (.lst [.int (ce * if decide ((10 : Int) ^ (18 : Int).toNat ≤ ce) = true then 1 else 0), .int z1, .int (k + 1), .ref cl])) (a := b) (o := .lst [.int (ce * if decide ((10 : Int) ^ (18 : Int).toNat ≤ ce) = true then 1 else 0), .int ((z1 * 48271 + ce % 2147483647 + 7919 * (k + 1)) % 2147483647), .int (k + 1), .ref cl])
      have hcl1 := sb1 _ _ hcl clb
    case' els =>
      have sb1 := SameBut.refl b H
      have pz0 := p0
      have pz1 := p1
      have pkk := pk
      have hb1 := hb
      have hcl1 := hcl
    all_goals
      refine ⟨_, rfl, b, _, 0, _, rfl, rfl, SqL.of hb1, atI_nat (j := 0) rfl, _, _, rfl, rfl, _, rfl, ite2 (fun c2 => ?_) (fun c2 => ?_)⟩
      · refine ⟨_, rfl, b, _, 0, _, rfl, rfl, SqL.of hb1, atI_nat (j := 0) rfl, .inl ⟨_, rfl, _, rfl, _, _, rfl, rfl, by omega, ?_⟩⟩
        refine ⟨_, rfl, b, _, 0, _, rfl, rfl, SqL.of hb1, atI_nat (j := 0) rfl, .inl ⟨_, rfl, _, rfl, _, _, rfl, rfl, ⟨by omega, by omega⟩, _, rfl, b, _, _, 0, rfl, rfl, hb1, ixn (n := 4) (j := 0) (by omega), ?_⟩⟩
        refine ⟨_, rfl, ?_⟩
        refine take_q m1 fun v hv => ?_
        exact q _ v hv ⟨_, _, _, cs, upd_same, by rw [upd_ne clb]; exact hcl1, clb, Int.ediv_nonneg pz0 (by omega), pz1, pkk, hlen, hcs⟩ (sb1.trans sameBut_upd)
      · refine ⟨_, rfl, b, _, 1, _, rfl, rfl, SqL.of hb1, atI_nat (j := 1) rfl, _, _, rfl, rfl, _, _, rfl, rfl, .inr (by decide), .inl ⟨_, rfl, _, _, rfl, rfl, by omega, ?_⟩⟩
        refine ⟨_, rfl, _, rfl, _, _, rfl, rfl, .inl ?_, .inl ⟨_, rfl, _, _, rfl, rfl, by omega, _, _, rfl, rfl, .inr (by decide), .inl ⟨_, rfl, _, _, rfl, rfl, by omega, ?_⟩⟩⟩
        · omega
        refine ⟨_, rfl, _, _, rfl, rfl, ⟨by decide, by decide⟩, .inl ⟨_, rfl, _, rfl, _, _, rfl, rfl, by omega, ?_⟩⟩
        refine take_q m1 fun v hv => ?_
        exact q _ v hv ⟨_, _, _, cs, hb1, hcl1, clb, pz0, pz1, pkk, hlen, hcs⟩ sb1
theorem cal_one (T : Tp K mg) : Cal P w K mg base "_law_one" 2 ["_law_bag_here", "_law_some"] spOne := by
  obtain ⟨fd, F⟩ := T.f_one
  refine ⟨_, fd, T.g_one, F.kp, F.bindsN fun _ _ _ _ _ _ us hl => match us, hl with | [_, _], _ => rfl, okd F sc_s_law_one (fun vs H Q E h => ?_) (fun cdv A fr s0 H vs Q E hr h => ?_)⟩
  · obtain ⟨cl, b, a, xs, rfl, _⟩ := h
    rfl
  · obtain ⟨cl, b, a, xs, rfl, hb, ha, hab, hne, hlen, q⟩ := h
    refine ⟨_, (pss_one (ps_ret (pe_ix ix_list (pv 1) (pcl (cal_take T) (hr.mono (by decide)) (by rfl) (pa_cons (pv 0) (pa_cons (pe_callB call_len_seq (by rfl) T.m_len (by decide +kernel) (pa_cons (pv 1) pa_nil)) pa_nil))) (fun _ _ => rfl)))), ?_⟩
    have hpos : 1 ≤ xs.length := by
      cases xs with
      | nil => exact absurd rfl hne
      | cons x r => rw [List.length_cons]; omega
    refine ⟨_, rfl, _, rfl, _, rfl, a, _, rfl, .inl (SqL.of ha), cl, b, xs.length, rfl, hb, hpos, hlen, fun H' r hr hb' sb => ?_⟩
    exact ⟨a, xs, _, xs[r], rfl, rfl, SqL.of (sb _ _ ha hab), atI_nat (List.getElem?_eq_getElem hr), q H' _ (List.getElem_mem hr) hb' sb⟩
theorem cal_alike (T : Tp K mg) : CalG P w K mg base "_law_alike" 1 ["_law_found", "_law_due"] spAlike := by
  obtain ⟨fd, F⟩ := T.f_alike
  refine ⟨_, fd, T.g_alike, F.kp, F.bindsN fun _ _ _ _ _ _ us hl => match us, hl with | [_, _], _ => rfl, fnG_of F sc_s_law_alike (fun vs H Q E h => ?_) (fun cdv A fr s0 H vs Q gg hr h => ?_)⟩
  · rcases h with ⟨b, rfl, _⟩ | ⟨p, q, ns, rfl, _⟩ <;> rfl
  · rcases h with ⟨b, rfl, hq⟩ | ⟨p, r, ns, rfl, hp, hr2, ⟨k1, k2, k3, k4⟩, hq⟩
    · refine ⟨_, (pss_one (ps_ret (pe_and (pe_cmpR (op_eqD hr.units) (pv 0) (pv 1) (nomark _)) (pe_one (pe_cmpR op_eq (pe_callB cr_reprB (by rfl) T.m_repr (by decide +kernel) (pa_cons (pv 0) pa_nil)) (pe_callB cr_reprB (by rfl) T.m_repr (by decide +kernel) (pa_cons (pv 1) pa_nil)) (nomark _)))))), ?_⟩
      refine ⟨_, rfl, _, rfl, .bool b, .bool b, .bl b, .bl b, by cases b <;> decide +kernel, by cases b <;> decide +kernel, _, rfl, ite2 (fun c => ?_) (fun c => ?_)⟩
      · refine ⟨_, rfl, b, rfl, _, rfl, b, rfl, rfl, ?_⟩
        rw [decide_eq_true rfl]
        exact hq
      · refine absurd ?_ c
        simp only [PyData.eqv]
        exact beq_self_eq_true b
    · refine ⟨_, (pss_one (ps_ret (pe_and (pe_cmpR (op_eqD hr.units) (pv 0) (pv 1) (nomark _)) (pe_one (pe_cmpR op_eq (pe_callB (cr_reprL gg hr.units) (by rfl) T.m_repr (by decide +kernel) (pa_cons (pv 0) pa_nil)) (pe_callB (cr_reprL gg hr.units) (by rfl) T.m_repr (by decide +kernel) (pa_cons (pv 1) pa_nil)) (nomark _)))))), ?_⟩
      have d1 : Dp K H (.ref p) (.list (ns.map PyData.int)) := .lst (SqL.of hp) (dp_ints ns)
      have d2 : Dp K H (.ref r) (.list (ns.map PyData.int)) := .lst (SqL.of hr2) (dp_ints ns)
      refine ⟨_, rfl, _, rfl, _, _, d1, d2, shaped_int ns, shaped_int ns, _, rfl, ite2 (fun c => ?_) (fun c => ?_)⟩
      · refine ⟨_, rfl, _, _, rfl, d1, k2, k3, k4, k1, _, rfl, _, _, rfl, d2, k2, k3, k4, k1, rfl, ?_⟩
        rw [decide_eq_true rfl]
        exact hq
      · refine absurd ?_ c
        rw [eqv_int]
        exact decide_eq_true rfl
end
end Wp
end
section
set_option Elab.async false
set_option linter.all false
set_option maxRecDepth 100000
set_option maxHeartbeats 4000000
namespace Wp
open PySem PySem.Spec PyProof.Rows L2
/-! ### _law_mixed, _law_slip, _law_lines -/
theorem sc_s_law_mixed : FnScope ["_law_bag_here", "_law_things", "_law_found", "_law_thing"] ["_law_bag_here", "_law_things"] (defScope s_law_mixed) := ⟨rfl, rfl, rfl, by decide +kernel, rfl, by decide +kernel, by decide +kernel⟩
-- slots: 0 _law_bag_here 1 _law_things 2 _law_found 3 _law_thing
theorem sc_s_law_slip : FnScope ["_law_bag_here", "_law_hands", "_law_many", "_law_found", "_law_hand", "_law_tier"] ["_law_bag_here", "_law_hands"] (defScope s_law_slip) := ⟨rfl, rfl, rfl, by decide +kernel, rfl, by decide +kernel, by decide +kernel⟩
-- slots: 0 _law_bag_here 1 _law_hands 2 _law_many 3 _law_found 4 _law_hand 5 _law_tier
theorem sc_s_law_lines : FnScope ["_law_bag_here", "_law_hands", "_law_many", "_law_most", "_law_found", "_law_k", "_law_slip_here"] ["_law_bag_here", "_law_hands", "_law_many", "_law_most"] (defScope s_law_lines) := ⟨rfl, rfl, rfl, by decide +kernel, rfl, by decide +kernel, by decide +kernel⟩
-- slots: 0 _law_bag_here 1 _law_hands 2 _law_many 3 _law_most 4 _law_found 5 _law_k 6 _law_slip_here
/-- hands dealt to tiers -/
structure Deal (i : Nat) (f : Nat → Nat) : Prop where
  lt : ∀ j, f j < 2 ^ i
  dis : ∀ j k, j ≠ k → f j &&& f k = 0
theorem Deal.step {i r : Nat} {f : Nat → Nat} (d : Deal i f) : Deal (i + 1) (fun j => if j = r then f r + 2 ^ i else f j) := by
  have h2 : (2 : Nat) ^ (i + 1) = 2 ^ i + 2 ^ i := by rw [Nat.pow_succ]; omega
  have key : ∀ k, k ≠ r → (f r + 2 ^ i) &&& f k = 0 := fun k hk => by
    have e : f r + 2 ^ i = 2 ^ i ||| f r := by
      rw [Nat.add_comm]
      have := Nat.two_pow_add_eq_or_of_lt (d.lt r) 1
      rwa [Nat.mul_one] at this
    rw [e]
    refine dis_bit fun h hh => ?_
    rw [Nat.testBit_or] at hh
    cases e2 : (f r).testBit h with
    | true => exact bit_dis (d.dis r k fun q => hk q.symm) e2
    | false =>
      rw [e2, Bool.or_false, two_bit] at hh
      have := of_decide_eq_true hh
      exact big_bit (d.lt k) (by omega)
  refine ⟨fun j => ?_, fun j k hjk => ?_⟩
  · have := d.lt j
    have := d.lt r
    split <;> omega
  · by_cases e1 : j = r
    · rw [if_pos e1, if_neg (fun e2 => hjk (e1.trans e2.symm))]
      exact key k fun e2 => hjk (e1.trans e2.symm)
    · rw [if_neg e1]
      by_cases e2 : k = r
      · rw [if_pos e2]
        exact dis_comm (key j e1)
      · rw [if_neg e2]
        exact d.dis j k hjk
def dealt (m : Nat) (f : Nat → Nat) : List Nat := (List.range m).map fun j => f (j + 1)
theorem Deal.ok {n m : Nat} {f : Nat → Nat} (d : Deal n f) : SlipOk n ((dealt m f).filter fun t => decide (0 < t)) := by
  refine ⟨fun t ht => by simpa using (List.mem_filter.mp ht).2, fun t ht => ?_, ?_⟩
  · obtain ⟨j, _, rfl⟩ := List.mem_map.mp (List.mem_filter.mp ht).1
    exact d.lt _
  · refine List.Pairwise.filter _ ?_
    unfold dealt
    rw [List.pairwise_map]
    exact List.pairwise_lt_range.imp fun h => d.dis _ _ (by omega)
theorem dealt_cut (m : Nat) (f : Nat → Nat) : cutV (rowV (m + 1) fun j => (f j : Int)) (some 1) none = natV (dealt m f) := by
  unfold cutV
  have e1 : HT.sIx (rowV (m + 1) fun j => (f j : Int)).length 0 (some 1) = 1 := by
    rw [show (some 1 : Option Int) = some ((1 : Nat) : Int) from rfl, HT.sIx_nat, rowV_len]; omega
  have e2 : HT.sIx (rowV (m + 1) fun j => (f j : Int)).length (rowV (m + 1) fun j => (f j : Int)).length none = m + 1 := by rw [HT.sIx_none, rowV_len]
  rw [e1, e2]
  unfold rowV dealt natV
  rw [List.map_map, List.range_succ_eq_map, List.map_cons, List.drop_succ_cons, List.drop_zero, List.map_map]
  exact List.take_of_length_le (by rw [List.length_map, List.length_range]; omega)
theorem paired_snoc {α β : Type} {F : α → β → Prop} {a : α} {b : β} : ∀ {xs : List α} {ys : List β}, Paired F xs ys → F a b → Paired F (xs ++ [a]) (ys ++ [b])
  | _, _, .nil, r => .cons r .nil
  | _, _, .cons h t, r => .cons h (paired_snoc t r)
theorem paired_len {α β : Type} {F : α → β → Prop} {xs : List α} {ys : List β} (h : Paired F xs ys) : xs.length = ys.length := Paired.length h
theorem LinesAt.snoc {H H1 : Hp} {D p t : Addr} {vs : List V} {L : List Line} {s : List Nat} {k : Int} (hP : Paired (LineAt H) vs L) (e : ∀ c o, H c = some o → c ≠ D → H1 c = some o) (hD : ∃ xs, H D = some (.lst xs)) (hD1 : H1 D = some (.lst (vs ++ [.ref p])))
    (hp : H1 p = some (.tup [.ref t, .int k])) (ht : TupAt H1 t s) : LinesAt H1 D (L ++ [(s, k)]) :=
  ⟨_, hD1, paired_snoc (Paired.mapP hP fun v l x => x.but e hD) ⟨p, t, rfl, hp, ht⟩⟩
theorem linesOk_nil (n : Nat) : LinesOk n [] := fun _ h => by cases h
theorem one_slip {n r : Nat} (hr : r < n) : SlipOk n [2 ^ r] :=
  ⟨fun t ht => by rw [List.mem_singleton.mp ht]; exact Nat.two_pow_pos r, fun t ht => by rw [List.mem_singleton.mp ht]; exact Nat.pow_lt_pow_right (by decide) hr, List.pairwise_singleton _ _⟩
theorem shl_nat (r : Nat) : (1 : Int) * 2 ^ (r : Int).toNat = ((2 ^ r : Nat) : Int) := by
  rw [Int.one_mul, Int.toNat_natCast, Int.natCast_pow]; rfl
section
variable {P : Program} {w : World} {K : PySem.W.Frag} {mg : Str → Option Value} {base : Heap}
theorem cal_mixed (T : Tp K mg) : Cal P w K mg base "_law_mixed" 2 ["_law_bag_here", "_law_things"] spMixed := by
  obtain ⟨fd, F⟩ := T.f_mixed
  refine ⟨_, fd, T.g_mixed, F.kp, F.bindsN fun _ _ _ _ _ _ us hl => match us, hl with | [_, _], _ => rfl, okd F sc_s_law_mixed (fun vs H Q E h => ?_) (fun cdv A fr s0 H vs Q E hr h => ?_)⟩
  · obtain ⟨cl, b, a, ns, rfl, _⟩ := h
    rfl
  · obtain ⟨cl, b, a, ns, rfl, hb, ha, hab, hlen, q⟩ := h
    refine ⟨_, (pss_cons (ps_set (i := 2) sc_s_law_mixed.nd rfl (.inl rfl) (pe_lst pa_nil))
      (pss_cons (ps_for PassesOwn.never rfl (pi_list (pv 1)) (pg_name (i := 3) sc_s_law_mixed.nd rfl (.inl rfl)) (pss_one (ps_expr (pe_bm PySem.F.plainAttrs_list PySem.F.slot_list_insert PySem.F.type_list_insert mt_insert (pv 2) (pa_cons (pcl (cal_take T) (hr.mono (by decide)) (by rfl) (pa_cons (pv 0) (pa_cons (pe_op op_add (pe_callB call_len_seq (by rfl) T.m_len (by decide +kernel) (pa_cons (pv 2) pa_nil)) pe_int) pa_nil))) (pa_cons (pv 3) pa_nil))))))
      (pss_one (ps_ret (pv 2))))), ?_⟩
    refine ⟨by decide, fun D nD => ?_⟩
    have s1 : Same H (upd H D (.lst [])) := same_upd nD
    have ne : D ≠ b := by
      obtain ⟨xs, hx⟩ := hb.lst
      exact (ne_of_none hx nD).symm
    refine ⟨_, rfl, a, rfl, ⟨_, SqL.of (s1 _ _ ha)⟩, for_list (K := K) (a := a) (xs := natV ns) (fun i σ H' => ∃ y3 ls, σ = [some (.ref b), some (.ref a), some (.ref D), y3] ∧ SameBut b H H' ∧ BagAt cl H' b ∧ H' D = some (.lst (natV ls)) ∧ ls.Perm (ns.take i))
      ⟨none, [], rfl, .of s1, hb.same s1, upd_same, List.Perm.refl _⟩ (fun i σ H' _ ⟨_, _, _, sb, _⟩ => SqL.of (sb _ _ ha hab)) ?_ ?_⟩
    · rintro i v σ H' hv ⟨y3, ls, rfl, sb, hb', hD, hp⟩
      obtain ⟨k, hk, rfl⟩ := natV_of hv
      have hl : ls.length ≤ 100 := by rw [hp.length_eq, List.length_take]; omega
      refine ⟨_, rfl, .inl ⟨rfl, _, SqL.of hD⟩, _, rfl, _, rfl, D, _, rfl, .inl (SqL.of hD), _, _, rfl, rfl, cl, b, (natV ls).length + 1, rfl, hb', by omega, by rw [natV_len]; omega, fun H2 r hr hb2 sb2 => ?_⟩
      have hD2 := sb2 _ _ hD ne
      rw [natV_len] at hr
      refine ⟨_, rfl, D, _, _, _, rfl, rfl, hD2, by rw [natV_len]; exact small1000 (by omega), by omega, by omega, ?_⟩
      refine ⟨_, ls.take r ++ [k] ++ ls.drop r, rfl, (sb.trans sb2).updN nD, ?_, ?_, ?_⟩
      · exact hb.updN hb2 nD
      · rw [upd_same, natV_app, natV_app, Int.toNat_natCast]
        unfold natV
        rw [List.map_take, List.map_drop]
        rfl
      · rw [take_snoc hk]
        refine (List.perm_append_comm.append_right _).trans ?_
        rw [List.append_assoc, List.take_append_drop]
        exact (List.perm_append_comm).trans (hp.append_right [k])
    · rintro σ H' ⟨y3, ls, rfl, sb, hb', hD, hp⟩
      rw [natV_len, List.take_length] at hp
      exact ⟨_, rfl, q H' D ls hp hb' sb nD hD⟩
theorem cal_slip (T : Tp K mg) : Cal P w K mg base "_law_slip" 3 ["_law_bag_here", "_law_hands"] spSlip := by
  obtain ⟨fd, F⟩ := T.f_slip
  refine ⟨_, fd, T.g_slip, F.kp, F.bindsN fun _ _ _ _ _ _ us hl => match us, hl with | [_, _], _ => rfl, okd F sc_s_law_slip (fun vs H Q E h => ?_) (fun cdv A fr s0 H vs Q E hr h => ?_)⟩
  · obtain ⟨cl, b, n, rfl, _⟩ := h
    rfl
  · obtain ⟨cl, b, n, rfl, hb, hn2, hn, q⟩ := h
    refine ⟨_, (pss_cons (ps_set (i := 2) sc_s_law_slip.nd rfl (.inl rfl) (pcl (cal_one T) (hr.mono (by decide)) (by rfl) (pa_cons (pv 0) (pa_cons (pe_lst (pa_cons pe_int (pa_cons pe_int (pa_cons pe_int (pa_cons (pv 1) pa_nil))))) pa_nil))))
      (pss_cons (ps_set (i := 3) sc_s_law_slip.nd rfl (.inl rfl) (pe_op op_rep (pe_lst (pa_cons pe_int pa_nil)) (pe_op op_add (pv 2) pe_int)))
      (pss_cons (ps_for PassesOwn.never rfl (pi_range1 (by rfl) T.m_range (pa_cons (pv 1) pa_nil)) (pg_name (i := 4) sc_s_law_slip.nd rfl (.inl rfl)) (pss_one (ps_augS (pv 3) (pcl (cal_take T) (hr.mono (by decide)) (by rfl) (pa_cons (pv 0) (pa_cons (pe_op op_add (pv 2) pe_int) pa_nil))) gt_list (pe_op op_shl pe_int (pv 4)) ip_add set_list)))
      (pss_one (ps_ret (pe_callTy call_tuple_of (by rfl) T.m_tuple (by decide +kernel) (pa_cons (pe_lc (own := [("_law_tier", 5)]) (g := gName 5) rfl sc_s_law_slip.nd (pi_list (pe_slice sl_list (pv 3) (po_some pe_int) po_none)) (blkOk_by (own := [("_law_tier", 5)]) (by kernel_rfl)) (fun _ _ _ _ _ => (pg_name (i := 5) sc_s_law_slip.nd rfl (Or.inl rfl))) (fun _ _ _ _ _ => pts_one (pt_cmpR op_gt (pv 5) pe_int (nomark _))) (fun _ _ _ _ _ => (pv 5))) pa_nil))))))), ?_⟩
    -- many = one(bag, [1, 2, 3, hands])
    refine ⟨_, rfl, _, rfl, sz (n := 4) (by omega), fun l nl => ?_⟩
    have s1 : Same H (upd H l (.lst [.int 1, .int 2, .int 3, .int (n : Int)])) := same_upd nl
    refine ⟨cl, b, l, _, rfl, hb.same s1, upd_same, hb.new nl, by simp, show 4 ≤ 1000 by omega, fun H2 v hv hb2 sb2 => ?_⟩
    obtain ⟨m, rfl, m1, m5⟩ : ∃ m : Nat, v = .int (m : Int) ∧ 1 ≤ m ∧ m ≤ 5 := by
      rcases List.mem_cons.mp hv with h | hv
      · exact ⟨1, h, by omega, by omega⟩
      rcases List.mem_cons.mp hv with h | hv
      · exact ⟨2, h, by omega, by omega⟩
      rcases List.mem_cons.mp hv with h | hv
      · exact ⟨3, h, by omega, by omega⟩
      · exact ⟨n, List.mem_singleton.mp hv, by omega, by omega⟩
    have sbA := (SameBut.of (b := b) s1).trans sb2
    -- found = [0] * (many + 1)
    refine ⟨by decide, fun l2 nl2 => ⟨_, rfl, _, _, rfl, rfl, l2, _, _, rfl, rfl, upd_same, by omega, by omega, ?_, fun D np => ?_⟩⟩
    · show 1 * ((m : Int) + 1).toNat ≤ sizeLine
      exact sz (by omega)
    have ep : (List.replicate ((m : Int) + 1).toNat [V.int 0]).flatten = rowV (m + 1) fun _ => 0 := by
      rw [show ((m : Int) + 1).toNat = m + 1 by omega]; exact rep_row (m + 1) 0
    have s3 : Same H2 (upd (upd H2 l2 (.lst [.int 0])) D (.lst (List.replicate ((m : Int) + 1).toNat [V.int 0]).flatten)) := (same_upd nl2).trans (same_upd np)
    have nD2 : H2 D = none := (same_upd nl2).free np
    have nD : H D = none := sbA.free hb2 nD2
    have hb3 := hb2.same s3
    -- for hand in range(hands)
    refine ⟨_, rfl, (n : Int), rfl, (i62 (by omega)).1, (i62 (by omega)).2, for_rg (n := n) (fun i σ H' => ∃ y4 y5 f, σ = [some (.ref b), some (.int (n : Int)), some (.int (m : Int)), some (.ref D), y4, y5] ∧ SameBut b H H' ∧ BagAt cl H' b ∧ H' D = some (.lst (rowV (m + 1) fun j => (f j : Int))) ∧ Deal i f)
      ⟨_, _, fun _ => 0, rfl, sbA.trans (.of s3), hb3, by rw [upd_same, ep]; rfl, fun _ => Nat.two_pow_pos 0, fun _ _ _ => rfl⟩ ?_ ?_⟩
    · rintro i σ H' hi ⟨y4, y5, f, rfl, sb, hb', hD, df⟩
      refine ⟨_, rfl, _, rfl, _, rfl, _, _, rfl, rfl, cl, b, m + 1, rfl, hb', by omega, by omega, fun H4 r hr4 hb4 sb4 => ?_⟩
      have hD4 := sb4 _ _ hD (hb.new nD)
      refine ⟨D, _, _, _, rfl, rfl, SqL.of hD4, atI_nat (rowV_at _ hr4), _, rfl, _, _, rfl, rfl, ⟨by omega, by omega, by decide⟩, ?_⟩
      refine ⟨_, _, rfl, rfl, D, _, _, r, rfl, rfl, hD4, by rw [rowV_len]; exact ixn hr4, ?_⟩
      refine ⟨_, _, fun j => if j = r then f r + 2 ^ i else f j, rfl, (sb.trans sb4).updN nD, hb.updN hb4 nD, ?_, df.step⟩
      rw [upd_same, rowV_set, shl_nat]
      refine congrArg (fun r => some (HO.lst r)) (rowV_congr fun j _ => ?_)
      by_cases e : j = r
      · subst e
        dsimp only
        rw [if_pos rfl, if_pos rfl]
        omega
      · dsimp only
        rw [if_neg e, if_neg e]
    · rintro σ H' ⟨y4, y5, f, rfl, sb, hb', hD, df⟩
      refine ⟨_, rfl, _, rfl, D, _, rfl, SqL.of hD, fun p np => ?_⟩
      rw [dealt_cut]
      have s4 : Same H' (upd H' p (.lst (natV (dealt m f)))) := same_upd np
      refine ⟨p, rfl, ⟨_, SqL.of upd_same⟩, fun D2 nD2 => lc_list (K := K) (a := p) (xs := natV (dealt m f)) (fun i H5 => Same (upd H' p (.lst (natV (dealt m f)))) H5 ∧ H5 D2 = some (.lst (natV (((dealt m f).take i).filter fun t => decide (0 < t))))) ⟨same_upd nD2, upd_same⟩ (fun i H' _ x => SqL.of (x.1 _ _ upd_same)) ?_ ?_⟩
      · rintro i v H5 hv ⟨sm, hD2⟩
        obtain ⟨t, ht, rfl⟩ := natV_of hv
        refine ⟨rfl, _, rfl, _, _, rfl, rfl, _, rfl, ite2 (fun c => ?_) (fun c => ?_)⟩
        · have c2 : decide (0 < t) = true := by have := of_decide_eq_true c; exact decide_eq_true (by omega)
          refine ⟨_, rfl, _, hD2, ?_, Same.updN sm nD2, ?_⟩
          · rw [natV_len]
            exact small1000 (Nat.le_trans (List.length_filter_le _ _) (by rw [List.length_take]; unfold dealt; rw [List.length_map, List.length_range]; omega))
          · rw [upd_same, take_snoc ht, List.filter_append, List.filter_cons, if_pos c2, List.filter_nil, natV_app]
            rfl
        · have c2 : ¬ decide (0 < t) = true := fun z => c (decide_eq_true (by have := of_decide_eq_true z; omega))
          refine ⟨sm, ?_⟩
          rw [hD2, take_snoc ht, List.filter_append, List.filter_cons, if_neg c2, List.filter_nil, List.append_nil]
      · rintro H5 ⟨sm, hD2⟩
        rw [natV_len, List.take_length] at hD2
        refine ⟨D2, _, rfl, .inl ⟨SqL.of hD2, fun t nt => ?_⟩⟩
        have s5 := s4.trans (sm.trans (same_upd (o := .tup (natV ((dealt m f).filter fun t => decide (0 < t)))) nt))
        exact q _ t _ df.ok (hb'.same s5) (sb.trans (.of s5)) (sb.free hb' ((s4.trans sm).free nt)) upd_same
theorem cal_lines (T : Tp K mg) : Cal P w K mg base "_law_lines" 4 ["_law_bag_here", "_law_hands", "_law_many", "_law_most"] spLines := by
  obtain ⟨fd, F⟩ := T.f_lines
  refine ⟨_, fd, T.g_lines, F.kp, F.bindsN fun _ _ _ _ _ _ us hl => match us, hl with | [_, _, _, _], _ => rfl, okd F sc_s_law_lines (fun vs H Q E h => ?_) (fun cdv A fr s0 H vs Q E hr h => ?_)⟩
  · obtain ⟨cl, b, n, m, k, rfl, _⟩ := h
    rfl
  · obtain ⟨cl, b, n, m, k, rfl, hb, hn2, hn, hm, hk1, hk2, q⟩ := h
    refine ⟨_, (pss_cons (ps_set (i := 4) sc_s_law_lines.nd rfl (.inl rfl) (pe_lst pa_nil))
      (pss_cons (ps_for PassesOwn.never rfl (pi_range1 (by rfl) T.m_range (pa_cons (pv 2) pa_nil)) (pg_name (i := 5) sc_s_law_lines.nd rfl (.inl rfl)) (pss_cons (ps_set (i := 6) sc_s_law_lines.nd rfl (.inl rfl) (pe_ifExp (pt_cmpR op_eq (pcl (cal_take T) (hr.mono (by decide)) (by rfl) (pa_cons (pv 0) (pa_cons pe_int pa_nil))) pe_int (nomark _)) (pe_tup (pa_cons (pe_op op_shl pe_int (pcl (cal_take T) (hr.mono (by decide)) (by rfl) (pa_cons (pv 0) (pa_cons (pv 1) pa_nil)))) pa_nil)) (pcl (cal_slip T) (hr.mono (by decide)) (by rfl) (pa_cons (pv 0) (pa_cons (pv 1) pa_nil)))))
      (pss_one (ps_expr (pe_bm PySem.F.plainAttrs_list PySem.F.slot_list_append PySem.F.type_list_append mt_append (pv 4) (pa_cons (pe_tup (pa_cons (pv 6) (pa_cons (pe_op op_add pe_int (pcl (cal_take T) (hr.mono (by decide)) (by rfl) (pa_cons (pv 0) (pa_cons (pcl (cal_one T) (hr.mono (by decide)) (by rfl) (pa_cons (pv 0) (pa_cons (pe_lst (pa_cons pe_int (pa_cons pe_int (pa_cons (pv 3) pa_nil)))) pa_nil))) pa_nil)))) pa_nil))) pa_nil))))))
      (pss_one (ps_ret (pv 4))))), ?_⟩
    refine ⟨by decide, fun D nD => ?_⟩
    have s1 : Same H (upd H D (.lst [])) := same_upd nD
    have Db := hb.new nD
    refine ⟨_, rfl, (m : Int), rfl, (i62 (by omega)).1, (i62 (by omega)).2, for_rg (n := m) (fun i σ H' => ∃ y5 y6 L vs, σ = [some (.ref b), some (.int (n : Int)), some (.int (m : Int)), some (.int (k : Int)), some (.ref D), y5, y6] ∧ SameBut b H H' ∧ BagAt cl H' b ∧ H' D = some (.lst vs) ∧ Paired (LineAt H') vs L ∧ LinesOk n L ∧ L.length = i)
      ⟨_, _, [], [], rfl, .of s1, hb.same s1, upd_same, .nil, linesOk_nil n, rfl⟩ ?_ ?_⟩
    · rintro i σ H' hi ⟨y5, y6, L, vs, rfl, sb, hb', hD, hP, hL, hlen⟩
      have hvs : vs.length = i := (paired_len hP).trans hlen
      refine ⟨_, rfl, cl, b, 2, rfl, hb', by omega, by omega, fun H2 r2 hr2 hb2 sb2 => ⟨rfl, _, rfl, ite2 (fun c => ?thn) (fun c => ?els)⟩⟩
      case' thn =>
        refine ⟨_, rfl, _, rfl, cl, b, n, rfl, hb2, by omega, by omega, fun H3 r3 hr3 hb3 sb3 => ⟨_, _, rfl, rfl, ⟨by omega, by omega, by decide⟩, ?_⟩⟩
        refine ⟨sz (n := 1) (by omega), fun t nt => ?_⟩
        have s4 : Same H3 (upd H3 t (.tup [.int (1 * 2 ^ (r3 : Int).toNat)])) := same_upd nt
        have sbx := (sb2.trans sb3).trans (SameBut.of (b := b) s4)
        have hbx := hb3.same s4
        obtain ⟨sl, okx, htx⟩ : ∃ sl, SlipOk n sl ∧ TupAt (upd H3 t (.tup [.int (1 * 2 ^ (r3 : Int).toNat)])) t sl := ⟨[2 ^ r3], one_slip hr3, by unfold TupAt; rw [upd_same, shl_nat]; rfl⟩
      case' els =>
        refine ⟨_, rfl, _, rfl, cl, b, n, rfl, hb2, hn2, hn, fun H3 t sl okx hb3 sb3 nt htx => ?_⟩
        have sbx := sb2.trans sb3
        have hbx := hb3
      all_goals
        have hDx := sbx _ _ hD Db
        refine ⟨_, rfl, .inl ⟨rfl, _, SqL.of hDx⟩, _, rfl, _, rfl, _, rfl, _, rfl, sz (n := 3) (by omega), fun l nl => ?_⟩
        have s5 := same_upd (o := .lst [.int 3, .int 9, .int (k : Int)]) nl
        refine ⟨cl, b, l, _, rfl, hbx.same s5, upd_same, hbx.new nl, by simp, show 3 ≤ 1000 by omega, fun H6 v hv hb6 sb6 => ?_⟩
        obtain ⟨m6, rfl, m61, m65⟩ : ∃ m : Nat, v = .int (m : Int) ∧ 1 ≤ m ∧ m ≤ 1000 := by
          rcases List.mem_cons.mp hv with h | hv
          · exact ⟨3, h, by omega, by omega⟩
          rcases List.mem_cons.mp hv with h | hv
          · exact ⟨9, h, by omega, by omega⟩
          · exact ⟨k, List.mem_singleton.mp hv, by omega, by omega⟩
        refine ⟨cl, b, m6, rfl, hb6, m61, m65, fun H7 r7 hr7 hb7 sb7 => ⟨_, _, rfl, rfl, sz (n := 2) (by omega), fun p np => ?_⟩⟩
        have s8 := same_upd (o := .tup [.ref t, .int (1 + (r7 : Int))]) np
        have sball := ((((SameBut.of (b := b) s5).trans sb6).trans sb7).trans (.of s8))
        have sbtot := sbx.trans sball
        have hD8 := sball _ _ hDx Db
        refine ⟨D, _, _, rfl, rfl, hD8, small1000 (by omega), ?_⟩
        have hb8 := hb7.same s8
        have htT : TupAt _ t sl := sball _ _ htx (by
          obtain ⟨xs, hx⟩ := hbx.lst
          exact ne_of htx hx (by intro e; cases e))
        have hDl : ∃ xs, (upd H7 p (.tup [.ref t, .int (1 + (r7 : Int))])) D = some (.lst xs) := ⟨_, hD8⟩
        have hPl := Paired.mapP hP fun v l x => LineAt.but sbtot hb'.lst x
        have ptD : p ≠ D := ne_of upd_same hD8 (by intro e; cases e)
        have ttD : t ≠ D := ne_of htT hD8 (by intro e; cases e)
        refine ⟨_, _, L ++ [(sl, 1 + (r7 : Int))], _, rfl, (sb.trans sbtot).updN nD, hb.updN hb8 nD, upd_same, ?_, ?_, by rw [List.length_append, hlen]; rfl⟩
        · exact paired_snoc (Paired.mapP hPl fun v l x => x.but (sameBut_upd) hDl) ⟨p, t, rfl, by rw [upd_ne ptD, upd_same], by unfold TupAt; rw [upd_ne ttD]; exact htT⟩
        · intro l hl
          rcases List.mem_append.mp hl with h | h
          · exact hL l h
          · rw [List.mem_singleton.mp h]
            exact ⟨okx, by show (0 : Int) ≤ 1 + (r7 : Int); omega⟩
    · rintro σ H' ⟨y5, y6, L, vs, rfl, sb, hb', hD, hP, hL, hlen⟩
      exact ⟨_, rfl, q H' D L hL hlen hb' sb nD Db ⟨vs, hD, hP⟩⟩
end
end Wp
end
section
set_option Elab.async false
set_option linter.all false
set_option maxRecDepth 100000
set_option maxHeartbeats 4000000
namespace Wp
open PySem PySem.Spec PyProof.Rows L2
/-! ### _law_together, _law_members, _law_turned, _law_put_ahead -/
theorem sc_s_law_together : FnScope ["_law_lines_here", "_law_held", "_law_slip_here", "_law_many"] ["_law_lines_here"] (defScope s_law_together) := ⟨rfl, rfl, rfl, by decide +kernel, rfl, by decide +kernel, by decide +kernel⟩
-- slots: 0 _law_lines_here 1 _law_held* 2 _law_slip_here 3 _law_many
theorem sc_s_law_members : FnScope ["_law_mask", "_law_hands", "_law_hand"] ["_law_mask", "_law_hands"] (defScope s_law_members) := ⟨rfl, rfl, rfl, by decide +kernel, rfl, by decide +kernel, by decide +kernel⟩
-- slots: 0 _law_mask* 1 _law_hands 2 _law_hand
theorem sc_s_law_turned : FnScope ["_law_slip_here", "_law_hands", "_law_rest", "_law_tier"] ["_law_slip_here", "_law_hands"] (defScope s_law_turned) := ⟨rfl, rfl, rfl, by decide +kernel, rfl, by decide +kernel, by decide +kernel⟩
-- slots: 0 _law_slip_here 1 _law_hands 2 _law_rest 3 _law_tier
theorem sc_s_law_put_ahead : FnScope ["_law_slip_here", "_law_hand", "_law_rest", "_law_tier"] ["_law_slip_here", "_law_hand"] (defScope s_law_put_ahead) := ⟨rfl, rfl, rfl, by decide +kernel, rfl, by decide +kernel, by decide +kernel⟩
-- slots: 0 _law_slip_here 1 _law_hand* 2 _law_rest 3 _law_tier
def kk (s : List Nat) : List Key := s.map fun (t : Nat) => Sum.inl (t : Int)
def nis (s : List Nat) : List Int := s.map fun (t : Nat) => (t : Int)
def kvD (M : List Line) : List (List Key × V) := M.map fun l => (kk l.1, .int l.2)
theorem kk_inj {s s' : List Nat} (h : kk s = kk s') : s = s' := by
  refine (List.map_inj_right (f := fun t : Nat => (Sum.inl (t : Int) : Key)) (fun x y e => ?_)).mp h
  exact Int.ofNat.inj (Sum.inl.inj e)
theorem kk_V (s : List Nat) : (kk s).map kV = natV s := by
  unfold kk natV
  rw [List.map_map]
  rfl
theorem nis_V (s : List Nat) : (nis s).map V.int = natV s := (natV_map s).symm
theorem valV_kv (s : List Nat) : ∀ M : List Line, valV (kvD M) (kk s) = (M.find? fun l => decide (l.1 = s)).map fun l => V.int l.2
  | [] => rfl
  | l :: M => by
    show valV ((kk l.1, V.int l.2) :: kvD M) (kk s) = _
    rw [List.find?_cons]
    by_cases e : l.1 = s
    · rw [valV_pos (p := (kk l.1, V.int l.2)) (by rw [e]), decide_eq_true e]
      rfl
    · rw [valV_neg (p := (kk l.1, V.int l.2)) (fun q => e (kk_inj q)), decide_eq_false e, valV_kv s M]
theorem valV_get (M : List Line) (s : List Nat) : (valV (kvD M) (kk s)).getD (.int 0) = .int (getL M s) := by
  rw [valV_kv]
  unfold getL
  cases M.find? fun l => decide (l.1 = s) <;> rfl
theorem valV_some {M : List Line} {s : List Nat} (h : s ∈ M.map (·.1)) : valV (kvD M) (kk s) = some (.int (getL M s)) := by
  rw [valV_kv]
  unfold getL
  cases e : M.find? fun l => decide (l.1 = s) with
  | some l => rfl
  | none =>
    obtain ⟨l, hl, rfl⟩ := List.mem_map.mp h
    have := List.find?_eq_none.mp e l hl
    simp at this
theorem any_kv (M : List Line) (s : List Nat) : ((kvD M).any fun kv => decide (kv.1 = kk s)) = true ↔ s ∈ M.map (·.1) := by
  unfold kvD
  rw [List.any_map, List.any_eq_true]
  constructor
  · rintro ⟨l, hl, e⟩
    exact List.mem_map.mpr ⟨l, hl, kk_inj (of_decide_eq_true e)⟩
  · intro h
    obtain ⟨l, hl, rfl⟩ := List.mem_map.mp h
    exact ⟨l, hl, decide_eq_true rfl⟩
theorem putK_kv {M : List Line} {s : List Nat} {k : Int} (nd : (M.map (·.1)).Nodup) : putK (kvD M) (kk s) (.int (getL M s + k)) = kvD (addL M s k) := by
  unfold putK addL
  by_cases h : s ∈ M.map (·.1)
  · rw [if_pos ((any_kv M s).mpr h), if_pos h]
    unfold kvD
    rw [List.map_map, List.map_map]
    refine List.map_congr_left fun l hl => ?_
    show (if kk l.1 = kk s then (kk l.1, V.int (getL M s + k)) else (kk l.1, V.int l.2)) = (kk (if l.1 = s then (l.1, l.2 + k) else l).1, V.int (if l.1 = s then (l.1, l.2 + k) else l).2)
    by_cases e : l.1 = s
    · rw [if_pos (by rw [e]), if_pos e, ← e, find_mem nd hl]
    · rw [if_neg (fun q => e (kk_inj q)), if_neg e]
  · rw [if_neg (fun q => h ((any_kv M s).mp q)), if_neg h]
    unfold kvD
    rw [List.map_append]
    congr 2
    have : getL M s = 0 := by
      unfold getL
      rw [List.find?_eq_none.mpr fun l hl => by
        rw [decide_eq_true_eq]
        exact fun q => h (q ▸ List.mem_map.mpr ⟨l, hl, rfl⟩)]
      rfl
    rw [this, Int.zero_add]
theorem keys_kv (M : List Line) : (kvD M).map (·.1) = ((M.map (·.1)).map nis).map fun k => k.map Sum.inl := by
  unfold kvD
  rw [List.map_map, List.map_map, List.map_map]
  refine List.map_congr_left fun l _ => ?_
  show kk l.1 = (nis l.1).map Sum.inl
  unfold kk nis
  rw [List.map_map]
  rfl
theorem nis_back (s : List Nat) : (nis s).map Int.toNat = s := by
  unfold nis
  rw [List.map_map]
  conv => rhs; rw [← List.map_id s]
  exact List.map_congr_left fun t _ => Int.toNat_natCast t
theorem perm_nis {ys : List (List Int)} {ss : List (List Nat)} (h : ys.Perm (ss.map nis)) : ∃ zs : List (List Nat), ys = zs.map nis ∧ zs.Perm ss := by
  refine ⟨ys.map fun y => y.map Int.toNat, ?_, ?_⟩
  · rw [List.map_map]
    conv => lhs; rw [← List.map_id ys]
    refine List.map_congr_left fun y hy => ?_
    obtain ⟨s, _, rfl⟩ := List.mem_map.mp (h.mem_iff.mp hy)
    show nis s = nis ((nis s).map Int.toNat)
    rw [nis_back]
  · refine (h.map _).trans ?_
    rw [List.map_map]
    have : ss.map ((fun y => y.map Int.toNat) ∘ nis) = ss := by
      conv => rhs; rw [← List.map_id ss]
      exact List.map_congr_left fun s _ => nis_back s
    rw [this]
theorem paired_atR {α β : Type} {F : α → β → Prop} : ∀ {xs : List α} {ys : List β} {i : Nat} {y : β}, Paired F xs ys → ys[i]? = some y → ∃ x, xs[i]? = some x ∧ F x y
  | _, _, _, _, .nil, h => by simp at h
  | _, _, 0, x, .cons r _, h => by
    have e := Option.some.inj h
    subst e
    exact ⟨_, rfl, r⟩
  | _, _, i + 1, x, .cons _ r, h => paired_atR (i := i) r h
theorem paired_at' {α β : Type} {F : α → β → Prop} : ∀ {xs : List α} {ys : List β} {i : Nat} {x : α}, Paired F xs ys → xs[i]? = some x → ∃ y, ys[i]? = some y ∧ F x y
  | _, _, _, _, .nil, h => by simp at h
  | _, _, 0, x, .cons r _, h => by
    have e := Option.some.inj h
    subst e
    exact ⟨_, rfl, r⟩
  | _, _, i + 1, x, .cons _ r, h => paired_at' (i := i) r h
theorem pow_big {h : Nat} (hh : h < 5) : (2 : Nat) ^ h ≤ 32 := pow32 (by omega)
theorem mem_bit {m h : Nat} : decide (V.int ((m : Int) / (1 * 2 ^ (h : Int).toNat) % 2) = V.int 1) = m.testBit h := by
  rw [shl_nat, Nat.testBit_eq_decide_div_mod_eq]
  have e : (m : Int) / ((2 ^ h : Nat) : Int) % 2 = ((m / 2 ^ h % 2 : Nat) : Int) := by omega
  rw [e]
  by_cases c : m / 2 ^ h % 2 = 1
  · rw [decide_eq_true c, c]; rfl
  · rw [decide_eq_false c]
    refine decide_eq_false fun q => c ?_
    have := V.int.inj q
    omega
theorem nis_sum : ∀ s : List Nat, (nis s).sum = ((s.sum : Nat) : Int)
  | [] => rfl
  | t :: s => by
    have ih := nis_sum s
    unfold nis at ih ⊢
    rw [List.map_cons, List.sum_cons, ih, List.sum_cons]
    omega
theorem clr_int (t h : Nat) : (t : Int) - Builtin.bitAnd (t : Int) (1 * 2 ^ (h : Int).toNat) = ((clr h t : Nat) : Int) := by
  rw [shl_nat, bitAnd_pp (Int.natCast_nonneg _) (Int.natCast_nonneg _), Int.toNat_natCast, Int.toNat_natCast]
  unfold clr
  have : t &&& 2 ^ h ≤ t := Nat.and_le_left
  omega
theorem natV_rev (s : List Nat) : (natV s).reverse = natV s.reverse := by unfold natV; rw [List.map_reverse]
section
variable {P : Program} {w : World} {K : PySem.W.Frag} {mg : Str → Option Value} {base : Heap}
theorem cal_together (T : Tp K mg) : Cal P w K mg base "_law_together" 1 ["_law_lines_here"] spTog := by
  obtain ⟨fd, F⟩ := T.f_together
  refine ⟨_, fd, T.g_together, F.kp, F.bindsN fun _ _ _ _ _ _ us hl => match us, hl with | [_], _ => rfl, okd F sc_s_law_together (fun vs H Q E h => ?_) (fun cdv A fr s0 H vs Q E hr h => ?_)⟩
  · obtain ⟨a, L, rfl, _⟩ := h
    rfl
  · obtain ⟨a, L, rfl, ⟨ls, hla, hls⟩, hlen, q⟩ := h
    refine ⟨_, (pss_cons (ps_set (i := 1) sc_s_law_together.nd rfl (.inr rfl) pe_dnewT)
      (pss_cons (ps_for PassesOwn.never rfl (pi_list (pv 0)) (pg_tup rfl (pgs_cons (pg_name (i := 2) sc_s_law_together.nd rfl (.inl rfl)) (pgs_cons (pg_name (i := 3) sc_s_law_together.nd rfl (.inl rfl)) pgs_nil))) (pss_one (ps_dput (hu_of hr) (pv 1) (pv 2) (pe_op op_add (pe_dget2 (hu_of hr) (pv 1) (pv 2) pe_int ⟨rfl, rfl, rfl, rfl⟩) (pv 3)) rfl)))
      (pss_one (ps_ret (pe_lc (own := [("_law_slip_here", 2)]) (g := gName 2) (tt := tYes) rfl sc_s_law_together.nd (pi_list (pe_callB (cr_sortedDT rfl hr.units) (by rfl) T.m_sorted (by decide +kernel) (pa_cons (pv 1) pa_nil))) (blkOk_by (own := [("_law_slip_here", 2)]) (by kernel_rfl)) (fun _ _ _ _ _ => (pg_name (i := 2) sc_s_law_together.nd rfl (Or.inl rfl))) (fun _ _ _ _ _ => pts_nil) (fun _ _ _ _ _ => (pe_tup (pa_cons (pv 2) (pa_cons (pe_dget (hu_of hr) (pv 1) (pv 2) (fun _ _ => rfl)) pa_nil))))))))), ?_⟩
    refine fun d nd => ?_
    have s1 : Same H (upd H d (.dT [])) := same_upd nd
    have hl2 : ls.length = L.length := paired_len hls
    refine ⟨_, rfl, a, rfl, ⟨_, SqL.of (s1 _ _ hla)⟩, for_list (K := K) (a := a) (xs := ls) (fun i σ H' => ∃ y2 y3, σ = [some (.ref a), some (.ref d), y2, y3] ∧ Same H H' ∧ H' d = some (.dT (kvD (dictOf (L.take i)))))
      ⟨none, none, rfl, s1, upd_same⟩ (fun i σ H' _ ⟨_, _, _, sm, _⟩ => SqL.of (sm _ _ hla)) ?_ ?_⟩
    · rintro i v σ H' hv ⟨y2, y3, rfl, sm, hd⟩
      obtain ⟨l, hl, pl, t, rfl, hp, ht⟩ := paired_at' hls hv
      refine ⟨pl, _, rfl, SqT.of (sm _ _ hp), rfl, _, _, rfl, _, _, rfl, rfl, ?_⟩
      have htk : H' t = some (.tup ((kk l.1).map kV)) := by rw [kk_V]; exact sm _ _ ht
      refine ⟨_, rfl, d, rfl, .inr ⟨_, .inl hd⟩, _, rfl, _, DGet.t hd htk, _, rfl, _, _, valV_get _ _, rfl, ?_⟩
      refine ⟨_, rfl, _, rfl, d, _, rfl, DPut.t hd htk ?_, ?_⟩
      · obtain ⟨_, _, e3, _⟩ := dict_facts (L.take i).reverse
        rw [List.reverse_reverse, List.length_reverse, List.length_take] at e3
        unfold kvD
        rw [List.length_map]
        exact small1000 (by omega)
      · refine ⟨_, _, rfl, Same.updN sm nd, ?_⟩
        rw [upd_same, take_snoc hl, dictOf_snoc, putK_kv (dict_nodup _)]
    · rintro σ H' ⟨y2, y3, rfl, sm, hd⟩
      rw [hl2, List.take_length] at hd
      refine ⟨_, rfl, d, _, (dictOf L).map (·.1) |>.map nis, rfl, .inl hd, keys_kv _, fun p ys bs np hperm hbs => ?_⟩
      obtain ⟨zs, rfl, hz⟩ := perm_nis hperm
      have s2 : Same H' (upd H' p (.lst (bs.map V.ref))) := same_upd np
      refine ⟨p, rfl, ⟨_, SqL.of upd_same⟩, fun D nD => lcY_list (K := K) (a := p) (xs := bs.map V.ref) (fun i H2 => Same (upd H' p (.lst (bs.map V.ref))) H2 ∧ ∃ vs, H2 D = some (.lst vs) ∧ Paired (LineAt H2) vs ((zs.take i).map fun s => (s, getL (dictOf L) s)))
        ⟨same_upd nD, [], upd_same, .nil⟩ (fun i H' _ x => SqL.of (x.1 _ _ upd_same)) ?_ ?_⟩
      · rintro i v H2 hv ⟨s3, vs, hD, hP⟩
        rw [List.getElem?_map] at hv
        cases hb : bs[i]? with
        | none => rw [hb] at hv; cases hv
        | some bb =>
          rw [hb] at hv
          cases hv
          obtain ⟨y, hy, htb⟩ := paired_atR hbs hb
          rw [List.getElem?_map] at hy
          cases hzi : zs[i]? with
          | none => rw [hzi] at hy; cases hy
          | some s =>
            rw [hzi] at hy
            cases hy
            rw [nis_V] at htb
            have hmem : s ∈ (dictOf L).map (·.1) := hz.mem_iff.mp (List.mem_of_getElem? hzi)
            have s4 := s2.trans s3
            have htb2 : H2 bb = some (.tup ((kk s).map kV)) := by rw [kk_V]; exact s4 _ _ htb
            refine ⟨rfl, _, rfl, _, rfl, _, rfl, d, .int (getL (dictOf L) s), rfl, by rw [← valV_some hmem]; exact DGet.t (s4 _ _ hd) htb2, sz (n := 2) (by omega), fun u nu => ?_⟩
            have s5 : Same H2 (upd H2 u (.tup [.ref bb, .int (getL (dictOf L) s)])) := same_upd nu
            have hD5 := s5 _ _ hD
            have uD : u ≠ D := (ne_of_none hD nu).symm
            have bD : bb ≠ D := ne_of htb2 hD (by intro e; cases e)
            refine ⟨_, hD5, ?_, Same.updN (s3.trans s5) nD, _, upd_same, ?_⟩
            · have e1 := paired_len hP
              rw [List.length_map, List.length_take] at e1
              have e2 := hz.length_eq
              rw [List.length_map] at e2
              obtain ⟨_, _, e3, _⟩ := dict_facts L.reverse
              rw [List.reverse_reverse, List.length_reverse] at e3
              exact small1000 (by omega)
            · rw [take_snoc hzi, List.map_append]
              refine paired_snoc (Paired.mapP hP fun v l x => (x.same s5).but sameBut_upd ⟨_, hD5⟩) ⟨u, bb, rfl, by rw [upd_ne uD, upd_same], ?_⟩
              unfold TupAt
              rw [upd_ne bD]
              refine s5 _ _ ?_
              rw [htb2, kk_V]
      · rintro H2 ⟨s3, vs, hD, hP⟩
        have e1 : zs.length = bs.length := by
          have := paired_len hbs
          rwa [List.length_map] at this
        rw [List.length_map, ← e1, List.take_length] at hP
        exact q H2 D _ (dict_tog L hz) (sm.trans (s2.trans s3)) ((sm.trans s2).free nD) ⟨vs, hD, hP⟩
theorem cal_members (T : Tp K mg) : Cal P w K mg base "_law_members" 1 ["_law_mask", "_law_hands"] spMem := by
  obtain ⟨fd, F⟩ := T.f_members
  refine ⟨_, fd, T.g_members, F.kp, F.bindsN fun _ _ _ _ _ _ us hl => match us, hl with | [_, _], _ => rfl, okd F sc_s_law_members (fun vs H Q E h => ?_) (fun cdv A fr s0 H vs Q E hr h => ?_)⟩
  · obtain ⟨m, n, rfl, _⟩ := h
    rfl
  · obtain ⟨m, n, rfl, hn, q⟩ := h
    refine ⟨_, (pss_one (ps_ret (pe_lc (own := [("_law_hand", 2)]) (g := gName 2) rfl sc_s_law_members.nd (pi_range1 (by rfl) T.m_range (pa_cons (pv 1) pa_nil)) (blkOk_by (own := [("_law_hand", 2)]) (by kernel_rfl)) (fun _ _ _ _ _ => (pg_name (i := 2) sc_s_law_members.nd rfl (Or.inl rfl))) (fun _ _ _ _ _ => pts_one (pt_cmpR op_eq (pe_op op_mod (pe_callTy call_int1 (by rfl) T.m_int (by decide +kernel) (pa_cons (pe_op op_fdiv (pv 0) (pe_op op_shl pe_int (pv 2))) pa_nil)) pe_int) pe_int (nomark _))) (fun _ _ _ _ _ => (pv 2))))), ?_⟩
    refine ⟨_, rfl, (n : Int), rfl, (i62 (by omega)).1, (i62 (by omega)).2, fun D nD => lc_rg (n := n) (fun i H' => Same H H' ∧ H' D = some (.lst (natV ((List.range i).filter fun h => m.testBit h)))) ⟨same_upd nD, upd_same⟩ ?_ ?_⟩
    · rintro i H' hi ⟨sm, hD⟩
      have hp := pow_big (show i < 5 by omega)
      have hp0 := Nat.two_pow_pos i
      refine ⟨rfl, _, rfl, _, rfl, _, _, rfl, rfl, ⟨by omega, by omega, by decide⟩, _, _, rfl, rfl, ⟨by rw [shl_nat]; omega, by rw [shl_nat]; omega⟩, .inl ⟨_, rfl, _, _, rfl, rfl, (by omega), rfl, _, rfl, ite2 (fun c => ?_) (fun c => ?_)⟩⟩
      · have c2 : m.testBit i = true := by rw [← mem_bit]; exact c
        refine ⟨_, rfl, _, hD, ?_, Same.updN sm nD, ?_⟩
        · rw [natV_len]
          exact small1000 (Nat.le_trans (List.length_filter_le _ _) (by rw [List.length_range]; omega))
        · rw [upd_same, List.range_succ, List.filter_append, List.filter_cons, if_pos c2, List.filter_nil, natV_app]; rfl
      · have c2 : ¬ m.testBit i = true := by rw [← mem_bit]; exact c
        refine ⟨sm, ?_⟩
        rw [hD, List.range_succ, List.filter_append, List.filter_cons, if_neg c2, List.filter_nil, List.append_nil]
    · rintro H' ⟨sm, hD⟩
      exact q H' D sm nD hD
theorem cal_turned (T : Tp K mg) : Cal P w K mg base "_law_turned" 1 ["_law_slip_here", "_law_hands"] spTurned := by
  obtain ⟨fd, F⟩ := T.f_turned
  refine ⟨_, fd, T.g_turned, F.kp, F.bindsN fun _ _ _ _ _ _ us hl => match us, hl with | [_, _], _ => rfl, okd F sc_s_law_turned (fun vs H Q E h => ?_) (fun cdv A fr s0 H vs Q E hr h => ?_)⟩
  · obtain ⟨t, s, n, rfl, _⟩ := h
    rfl
  · obtain ⟨t, s, n, rfl, ht, ok, hn, q⟩ := h
    refine ⟨_, (pss_cons (ps_set (i := 2) sc_s_law_turned.nd rfl (.inl rfl) (pe_op op_sub (pe_op op_sub (pe_op op_shl pe_int (pv 1)) pe_int) (pe_callB (cr_sumT rfl) (by rfl) T.m_sum (by decide +kernel) (pa_cons (pv 0) pa_nil))))
      (pss_one (ps_ret (pe_callTy call_tuple_of (by rfl) T.m_tuple (by decide +kernel) (pa_cons (pe_lc (own := [("_law_tier", 3)]) (g := gName 3) rfl sc_s_law_turned.nd (pi_list (pe_op op_cat (pe_lst (pa_cons (pv 2) pa_nil)) (pe_callTy call_list_of (by rfl) T.m_list (by decide +kernel) (pa_cons (pe_revT (pv 0)) pa_nil)))) (blkOk_by (own := [("_law_tier", 3)]) (by kernel_rfl)) (fun _ _ _ _ _ => (pg_name (i := 3) sc_s_law_turned.nd rfl (Or.inl rfl))) (fun _ _ _ _ _ => pts_one (pt_cmpR op_gt (pv 3) pe_int (nomark _))) (fun _ _ _ _ _ => (pv 3))) pa_nil))))), ?_⟩
    have hlen := slip_len hn ok
    have hsum := sum_lt hn ok
    have hrest : (1 : Int) * 2 ^ (n : Int).toNat - 1 - (nis s).sum = ((2 ^ n - 1 - s.sum : Nat) : Int) := by
      rw [shl_nat, nis_sum]; omega
    refine ⟨_, rfl, _, _, rfl, rfl, ⟨by omega, by omega, by decide⟩, _, _, rfl, rfl, _, rfl, t, nis s, rfl, SqT.of (by rw [nis_V]; exact ht), _, _, rfl, rfl, ?_⟩
    refine ⟨_, rfl, sz (n := 1) (by omega), fun l nl => ⟨_, rfl, t, _, rfl, SqT.of (same_upd nl _ _ ht), fun u nu => ⟨u, _, rfl, .inr (SqT.of upd_same), fun l2 nl2 => ⟨l, l2, _, _, rfl, rfl, same_upd nl2 _ _ (same_upd nu _ _ upd_same), upd_same, ?_, fun p np => ?_⟩⟩⟩⟩
    · rw [List.length_singleton, List.length_reverse, natV_len]
      exact sz (by omega)
    have sall := ((same_upd nl).trans (same_upd nu)).trans ((same_upd nl2).trans (same_upd (o := .lst ([V.int (1 * 2 ^ (n : Int).toNat - 1 - (nis s).sum)] ++ (natV s).reverse)) np))
    have ep : [V.int (1 * 2 ^ (n : Int).toNat - 1 - (nis s).sum)] ++ (natV s).reverse = natV ((2 ^ n - 1 - s.sum) :: s.reverse) := by
      rw [hrest, natV_rev]; rfl
    have hp : ∀ H0 : Hp, upd H0 p (.lst ([V.int (1 * 2 ^ (n : Int).toNat - 1 - (nis s).sum)] ++ (natV s).reverse)) p = some (.lst (natV ((2 ^ n - 1 - s.sum) :: s.reverse))) := fun H0 => by rw [upd_same, ep]
    refine ⟨p, rfl, ⟨_, SqL.of upd_same⟩, fun D nD => lc_list (K := K) (a := p) (xs := natV ((2 ^ n - 1 - s.sum) :: s.reverse)) (fun i H5 => Same _ H5 ∧ H5 D = some (.lst (natV ((((2 ^ n - 1 - s.sum) :: s.reverse).take i).filter fun t => decide (0 < t))))) ⟨same_upd nD, upd_same⟩ (fun i H' _ x => SqL.of (x.1 _ _ (hp _))) ?_ ?_⟩
    · rintro i v H5 hv ⟨sm, hD⟩
      obtain ⟨t, ht, rfl⟩ := natV_of hv
      refine ⟨rfl, _, rfl, _, _, rfl, rfl, _, rfl, ite2 (fun c => ?_) (fun c => ?_)⟩
      · have c2 : decide (0 < t) = true := by have := of_decide_eq_true c; exact decide_eq_true (by omega)
        refine ⟨_, rfl, _, hD, ?_, Same.updN sm nD, ?_⟩
        · rw [natV_len]
          refine small1000 (Nat.le_trans (List.length_filter_le _ _) ?_)
          rw [List.length_take, List.length_cons, List.length_reverse]
          omega
        · rw [upd_same, take_snoc ht, List.filter_append, List.filter_cons, if_pos c2, List.filter_nil, natV_app]
          rfl
      · have c2 : ¬ decide (0 < t) = true := fun z => c (decide_eq_true (by have := of_decide_eq_true z; omega))
        refine ⟨sm, ?_⟩
        rw [hD, take_snoc ht, List.filter_append, List.filter_cons, if_neg c2, List.filter_nil, List.append_nil]
    · rintro H5 ⟨sm, hD⟩
      rw [natV_len, List.take_length] at hD
      refine ⟨D, _, rfl, .inl ⟨SqL.of hD, fun t nt => ?_⟩⟩
      exact q _ t (sall.trans (sm.trans (same_upd nt))) upd_same
theorem cal_put_ahead (T : Tp K mg) : Cal P w K mg base "_law_put_ahead" 1 ["_law_slip_here", "_law_hand"] spAhead := by
  obtain ⟨fd, F⟩ := T.f_put_ahead
  refine ⟨_, fd, T.g_put_ahead, F.kp, F.bindsN fun _ _ _ _ _ _ us hl => match us, hl with | [_, _], _ => rfl, okd F sc_s_law_put_ahead (fun vs H Q E h => ?_) (fun cdv A fr s0 H vs Q E hr h => ?_)⟩
  · obtain ⟨t, s, n, h, rfl, _⟩ := h
    rfl
  · obtain ⟨t, s, n, h, rfl, ht, ok, hn, hh, q⟩ := h
    refine ⟨_, (pss_cons (ps_setLc (i := 2) (own := [("_law_tier", 3)]) (g := gName 3) (tt := tYes) rfl sc_s_law_put_ahead.nd rfl rfl (sw_true rfl rfl rfl (by decide +kernel)) (pi_tup (pv 0)) (blkOk_by (own := [("_law_tier", 3)]) (by kernel_rfl)) (fun _ _ _ _ _ => (pg_name (i := 3) sc_s_law_put_ahead.nd rfl (Or.inl rfl))) (fun _ _ _ _ _ => pts_nil) (fun _ _ _ _ _ => (pe_op op_sub (pv 3) (pe_op op_and (pv 3) (pe_op op_shl pe_int (pv 1))))))
      (pss_one (ps_ret (pe_callTy call_tuple_of (by rfl) T.m_tuple (by decide +kernel) (pa_cons (pe_lc (own := [("_law_tier", 3)]) (g := gName 3) rfl sc_s_law_put_ahead.nd (pi_list (pe_op op_cat (pe_lst (pa_cons (pe_op op_shl pe_int (pv 1)) pa_nil)) (pv 2))) (blkOk_by (own := [("_law_tier", 3)]) (by kernel_rfl)) (fun _ _ _ _ _ => (pg_name (i := 3) sc_s_law_put_ahead.nd rfl (Or.inl rfl))) (fun _ _ _ _ _ => pts_one (pt_cmpR op_gt (pv 3) pe_int (nomark _))) (fun _ _ _ _ _ => (pv 3))) pa_nil))))), ?_⟩
    have hlen := slip_len hn ok
    refine ⟨_, rfl, t, rfl, ⟨_, SqT.of ht⟩, fun R nR => lcY_tup (K := K) (a := t) (xs := natV s) (fun i H' => Same H H' ∧ H' R = some (.lst (natV ((s.take i).map (clr h))))) ⟨same_upd nR, upd_same⟩ (fun i H' _ x => SqT.of (x.1 _ _ ht)) ?_ ?_⟩
    · rintro i v H' hv ⟨sm, hR⟩
      obtain ⟨u, hu, rfl⟩ := natV_of hv
      refine ⟨rfl, _, rfl, _, rfl, _, rfl, _, _, rfl, rfl, ⟨by omega, by omega, by decide⟩, _, _, rfl, rfl, _, _, rfl, rfl, ?_⟩
      refine ⟨_, hR, ?_, Same.updN sm nR, ?_⟩
      · rw [natV_len, List.length_map, List.length_take]; exact small1000 (by omega)
      · rw [upd_same, take_snoc hu, List.map_append, natV_app]
        show some (HO.lst (_ ++ [V.int ((u : Int) - Builtin.bitAnd (u : Int) (1 * 2 ^ (h : Int).toNat))])) = _
        rw [clr_int]; rfl
    · rintro H' ⟨sm, hR⟩
      rw [natV_len, List.take_length] at hR
      refine ⟨_, rfl, _, _, rfl, rfl, ⟨by omega, by omega, by decide⟩, sz (n := 1) (by omega), fun l nl => ⟨_, rfl, l, R, _, _, rfl, rfl, upd_same, same_upd nl _ _ hR, ?_, fun p np => ?_⟩⟩
      · rw [List.length_singleton, natV_len, List.length_map]
        exact sz (by omega)
      have sall := sm.trans ((same_upd (o := .lst [.int (1 * 2 ^ (h : Int).toNat)]) nl).trans (same_upd (o := .lst ([.int (1 * 2 ^ (h : Int).toNat)] ++ natV (s.map (clr h)))) np))
      have ep : [V.int (1 * 2 ^ (h : Int).toNat)] ++ natV (s.map (clr h)) = natV (2 ^ h :: s.map (clr h)) := by
        rw [shl_nat]; rfl
      have hp : ∀ H0 : Hp, upd H0 p (.lst ([V.int (1 * 2 ^ (h : Int).toNat)] ++ natV (s.map (clr h)))) p = some (.lst (natV (2 ^ h :: s.map (clr h)))) := fun H0 => by rw [upd_same, ep]
      refine ⟨p, rfl, ⟨_, SqL.of upd_same⟩, fun D nD => lc_list (K := K) (a := p) (xs := natV (2 ^ h :: s.map (clr h))) (fun i H5 => Same _ H5 ∧ H5 D = some (.lst (natV (((2 ^ h :: s.map (clr h)).take i).filter fun t => decide (0 < t))))) ⟨same_upd nD, upd_same⟩ (fun i H' _ x => SqL.of (x.1 _ _ (hp _))) ?_ ?_⟩
      · rintro i v H5 hv ⟨sm, hD⟩
        obtain ⟨t, ht, rfl⟩ := natV_of hv
        refine ⟨rfl, _, rfl, _, _, rfl, rfl, _, rfl, ite2 (fun c => ?_) (fun c => ?_)⟩
        · have c2 : decide (0 < t) = true := by have := of_decide_eq_true c; exact decide_eq_true (by omega)
          refine ⟨_, rfl, _, hD, ?_, Same.updN sm nD, ?_⟩
          · rw [natV_len]
            refine small1000 (Nat.le_trans (List.length_filter_le _ _) ?_)
            rw [List.length_take, List.length_cons, List.length_map]
            omega
          · rw [upd_same, take_snoc ht, List.filter_append, List.filter_cons, if_pos c2, List.filter_nil, natV_app]
            rfl
        · have c2 : ¬ decide (0 < t) = true := fun z => c (decide_eq_true (by have := of_decide_eq_true z; omega))
          refine ⟨sm, ?_⟩
          rw [hD, take_snoc ht, List.filter_append, List.filter_cons, if_neg c2, List.filter_nil, List.append_nil]
      · rintro H5 ⟨s6, hD⟩
        rw [natV_len, List.take_length] at hD
        refine ⟨D, _, rfl, .inl ⟨SqL.of hD, fun t nt => ?_⟩⟩
        exact q _ t (sall.trans (s6.trans (same_upd nt))) upd_same
end
end Wp
end
section
set_option Elab.async false
set_option linter.all false
set_option maxRecDepth 100000
set_option maxHeartbeats 4000000
namespace Wp
open PySem PySem.Spec PyProof.Rows L2
/-! ### _law_set_first, _law_seats_right -/
theorem sc_s_law_set_first : FnScope ["_law_way", "_law_sheet", "_law_hands", "_law_leads", "_law_picks", "_law_mask", "_law_inside", "_law_worst", "_law_y", "_law_x", "_law_first", "_law_hand"] ["_law_way", "_law_sheet", "_law_hands"] (defScope s_law_set_first) := ⟨rfl, rfl, rfl, by decide +kernel, rfl, by decide +kernel, by decide +kernel⟩
-- slots: 0 _law_way 1 _law_sheet 2 _law_hands* 3 _law_leads* 4 _law_picks 5 _law_mask 6 _law_inside* 7 _law_worst 8 _law_y 9 _law_x* 10 _law_first 11 _law_hand
theorem sc_s_law_seats_right : FnScope ["_law_sheet", "_law_hands", "_law_lots", "_law_elder", "_law_seats", "_law_way", "_law_picks", "_law_hand"] ["_law_sheet", "_law_hands", "_law_lots"] (defScope s_law_seats_right) := ⟨rfl, rfl, rfl, by decide +kernel, rfl, by decide +kernel, by decide +kernel⟩
-- slots: 0 _law_sheet 1 _law_hands 2 _law_lots 3 _law_elder 4 _law_seats 5 _law_way 6 _law_picks* 7 _law_hand
def outs (n m : Nat) : List Nat := (List.range n).filter fun y => !decide (y ∈ mems n m)
theorem mask_facts : ∀ n, n ≤ 5 → ∀ m, m < 32 → 1 ≤ m → m + 1 < 2 ^ n → 0 < (mems n m).length ∧ 0 < (outs n m).length := by decide +kernel
def told01 (n m : Nat) : List Int := (List.range n).map fun h => if m.testBit h = true then 1 else 0
theorem told_shown : ∀ n, n ≤ 5 → ∀ m, m < 32 → (PyData.list ((told01 n m).map PyData.int)).shown.length ≤ 1000 ∧ (PyData.list ((told01 n m).map PyData.int)).showable = true ∧ (PyData.list ((told01 n m).map PyData.int)).hasDict = false := by decide +kernel
theorem told_ok {n : Nat} (hn : n ≤ 5) {ps : List Nat} (h : ∀ x ∈ ps, x < 5) : shownOk ((List.range n).map fun h => if h ∈ ps then 1 else 0) := by
  have e : ((List.range n).map fun h => if h ∈ ps then (1 : Int) else 0) = told01 n (orB ps) := by
    unfold told01
    refine List.map_congr_left fun h _ => ?_
    rw [orB_bit]
    by_cases c : h ∈ ps
    · rw [if_pos c, if_pos (decide_eq_true c)]
    · rw [if_neg c, if_neg (by rw [decide_eq_false c]; exact Bool.false_ne_true)]
  rw [e]
  obtain ⟨a, b, c⟩ := told_shown n hn (orB ps) (orB_lt h)
  refine ⟨Nat.le_trans a (sz (Nat.le_refl _)), b, c, ?_⟩
  simp only [PyData.depth, depth_ints]
  omega
theorem toldV_eq (n : Nat) (ps : List Nat) : toldV n ps = ((List.range n).map fun h => if h ∈ ps then (1 : Int) else 0).map V.int := by
  unfold toldV rowV
  rw [List.map_map]
  rfl
theorem cut_nat (ps : List Nat) (k : Nat) : cutV (natV ps) none (some (k : Int)) = natV (ps.take k) := by
  unfold cutV
  have e1 : HT.sIx (natV ps).length 0 none = 0 := rfl
  rw [e1, HT.sIx_nat, natV_len, List.drop_zero, Nat.sub_zero]
  unfold natV
  rw [List.map_take]
  rcases Nat.le_total k ps.length with h | h
  · rw [Nat.min_eq_left h]
  · rw [Nat.min_eq_right h, List.take_of_length_le (by rw [List.length_map]; exact Nat.le_refl _), List.take_of_length_le (by rw [List.length_map]; exact h)]
theorem range_lt {lo : Nat} {i : Nat} : V.int ((lo : Int) + (i : Int)) = V.int ((lo + i : Nat) : Int) := rfl
/-- a new way -/
theorem make_ok {C : Addr} {H1 : Hp} {x dx a : Addr} {n s : Nat} {ns : List Nat} {Q : Hp → Prop} {E : XK} (nx : H1 x = none) (ndx : H1 dx = none) (ne : dx ≠ x) (n1 : 1 ≤ n) (n5 : n ≤ 5) (s1 : 1 ≤ s) (s60 : s ≤ 60) (ha : H1 a = some (.lst (natV ns))) (hp : ns.Perm (List.range n))
    (q : ∀ H', Same H1 H' → WayAt C H' x n s ns → Q H') : spInit C [.ref x, .int (n : Int), .int (s : Int), .ref a] (upd (upd H1 dx (.own x)) x (.ins C dx [])) (fun v H2 => v = .non ∧ Q H2) E := by
  have e1 : Same H1 (upd (upd H1 dx (.own x)) x (.ins C dx [])) := (same_upd ndx).trans (same_upd (by rw [upd_ne ne.symm]; exact nx))
  exact ⟨x, dx, n, s, a, ns, rfl, upd_same, n1, n5, s1, s60, e1 _ _ ha, hp, fun H' way keep => ⟨rfl, q H' (fun b o hb => keep b o (e1 _ _ hb) (ne_of_none hb nx)) way⟩⟩
theorem mem_mems {n m x : Nat} : x ∈ mems n m ↔ x < n ∧ m.testBit x = true := by
  unfold mems
  rw [List.mem_filter, List.mem_range]
theorem mem_outs {n m y : Nat} : y ∈ outs n m ↔ y < n ∧ ¬ m.testBit y = true := by
  unfold outs
  rw [List.mem_filter, List.mem_range, Bool.not_eq_true', decide_eq_false_iff_not, mem_mems]
  constructor
  · rintro ⟨a, b⟩; exact ⟨a, fun c => b ⟨a, c⟩⟩
  · rintro ⟨a, b⟩; exact ⟨a, fun c => b c.2⟩
theorem mems_len (n m : Nat) : (mems n m).length ≤ n := by
  unfold mems
  have := List.length_filter_le (fun h => m.testBit h) (List.range n)
  rwa [List.length_range] at this
theorem first_mems {n m : Nat} {ns : List Nat} {L : Mat} (hp : ns.Perm (List.range n)) (an : ∀ x y, L x y = - L y x) (hI : ∀ x ∈ mems n m, ∀ y ∈ outs n m, 0 < L x y) : ∀ x ∈ (picks (stren n L) ns n).take (mems n m).length, x ∈ mems n m := by
  intro x hx
  rw [picks_take _ _ (mems_len n m)] at hx
  unfold picks at hx
  obtain ⟨i, hi, rfl⟩ := List.mem_map.mp hx
  have hi := List.mem_range.mp hi
  have hlt : ∀ x ∈ ns, x < n := natV_lt hp
  have hl : (ns.filter m.testBit).length = (mems n m).length := (hp.filter _).length_eq
  have hb := first_in (L := L) hlt m.testBit (fun x y hx hy bx bY => hI x (mem_mems.mpr ⟨hx, bx⟩) y (mem_outs.mpr ⟨hy, by rw [bY]; exact Bool.false_ne_true⟩)) an i (by rw [hl]; exact hi)
  refine mem_mems.mpr ⟨?_, hb⟩
  have hln : ns.length = n := perm_len hp
  have := mems_len n m
  exact hlt _ (lf_sub _ _ i _ (pick_in (L := L) hlt (lf_ne hlt (by omega))))
section
variable {P : Program} {w : World} {K : PySem.W.Frag} {mg : Str → Option Value} {base : Heap}
theorem cal_set_first (T : Tp K mg) : Cal P w K mg base "_law_set_first" 6 ["_law_way", "_law_sheet", "_law_hands"] (spSetF (He.ga K "Pairs")) := by
  obtain ⟨fd, F⟩ := T.f_set_first
  refine ⟨_, fd, T.g_set_first, F.kp, F.bindsN fun _ _ _ _ _ _ us hl => match us, hl with | [_, _, _], _ => rfl, okd F sc_s_law_set_first (fun vs H Q E h => ?_) (fun cdv A fr s0 H vs Q E hr h => ?_)⟩
  · obtain ⟨wa, a, n, ns, L, rfl, _⟩ := h
    rfl
  · obtain ⟨wa, a, n, ns, L, rfl, ⟨dx, lo, hw, hlo⟩, hL, hn2, hn, hperm, q⟩ := h
    have hns := natV_lt hperm
    have hlen := perm_len hperm
    refine ⟨_, (pss_cons (ps_asg (pe_tup (pa_cons (pcl (cal_leads_of T) (hr.mono (by decide)) (by rfl) (pa_cons (pcl (cal_overs T) (hr.mono (by decide)) (by rfl) (pa_cons (pv 1) (pa_cons (pv 2) pa_nil))) pa_nil)) (pa_cons (pe_ix ix_tup (pcm (cal_counted T) T.cl (hr.mono (by decide)) (pv 0) (pa_cons (pv 1) pa_nil)) pe_int (fun _ _ => rfl)) pa_nil))) (pg_tup rfl (pgs_cons (pg_name (i := 3) sc_s_law_set_first.nd rfl (.inr rfl)) (pgs_cons (pg_name (i := 4) sc_s_law_set_first.nd rfl (.inl rfl)) pgs_nil))))
      (pss_cons (ps_for PassesOwn.never rfl (pi_range2 (by rfl) T.m_range (pa_cons pe_int (pa_cons (pe_op op_sub (pe_op op_shl pe_int (pv 2)) pe_int) pa_nil))) (pg_name (i := 5) sc_s_law_set_first.nd rfl (.inl rfl)) (pss_cons (ps_set (i := 6) sc_s_law_set_first.nd rfl (.inr rfl) (pcl (cal_members T) (hr.mono (by decide)) (by rfl) (pa_cons (pv 5) (pa_cons (pv 2) pa_nil))))
      (pss_cons (ps_set (i := 7) sc_s_law_set_first.nd rfl (.inl rfl) (pe_callB (cr_min rfl) (by rfl) T.m_min (by decide +kernel) (pa_cons (pe_lc (own := [("_law_x", 9)]) (g := gName 9) (tt := tYes) rfl sc_s_law_set_first.nd (pi_list (pv 6)) (blkOk_by (own := [("_law_x", 9)]) (by kernel_rfl)) (fun _ _ _ _ _ => (pg_name (i := 9) sc_s_law_set_first.nd rfl (Or.inr rfl))) (fun _ _ _ _ _ => pts_nil) (fun _ _ _ _ _ => (pe_callB (cMn K rfl rfl) (by rfl) T.m_min (by decide +kernel) (pa_cons (pe_lc (own := [("_law_y", 8)]) (g := gName 8) rfl sc_s_law_set_first.nd (pi_range1 (by rfl) T.m_range (pa_cons (pv 2) pa_nil)) (blkOk_by (own := [("_law_y", 8)]) (by kernel_rfl)) (fun _ _ _ _ _ => (pg_name (i := 8) sc_s_law_set_first.nd rfl (Or.inl rfl))) (fun _ _ _ _ _ => pts_one (pt_cmpR (oNi K rfl) (pv 8) (pv 6) (by rfl))) (fun _ _ _ _ _ => (pe_ix (ixL K rfl) (pe_ix (ixL K rfl) (pv 3) (pv 9) (fun _ _ => rfl)) (pv 8) (fun _ _ => rfl)))) pa_nil)))) pa_nil)))
      (pss_cons (ps_set (i := 10) sc_s_law_set_first.nd rfl (.inl rfl) (pe_slice sl_list (pv 4) po_none (po_some (pe_callB call_len_seq (by rfl) T.m_len (by decide +kernel) (pa_cons (pv 6) pa_nil)))))
      (pss_one (ps_if (PW.pt (pw_and (pt_cmpR op_gt (pv 7) pe_int (nomark _)) (pw_and1 (pt_cmpR (op_neD hr.units) (pe_lc (own := [("_law_hand", 11)]) (g := gName 11) rfl sc_s_law_set_first.nd (pi_list (pv 10)) (blkOk_by (own := [("_law_hand", 11)]) (by kernel_rfl)) (fun _ _ _ _ _ => (pg_name (i := 11) sc_s_law_set_first.nd rfl (Or.inl rfl))) (fun _ _ _ _ _ => pts_one (pt_cmpR (oNi K rfl) (pv 11) (pv 6) (by rfl))) (fun _ _ _ _ _ => (pv 11))) (pe_lst pa_nil) (nomark _))))) (pss_one (ps_ret pe_bl)) pss_nil))))))
      (pss_one (ps_ret pe_bl)))), ?_⟩
    refine ⟨_, rfl, _, rfl, a, L, n, rfl, hL, hn, fun H1 p1 s1 h1 => ⟨p1, n, _, rfl, h1, hn, fun H2 p2 s2 h2 => ?_⟩⟩
    have sa := s1.trans s2
    refine ⟨_, rfl, wa, _, _, rfl, sa _ _ hw, wf_no n n lo (by decide +kernel) (by decide +kernel) (by decide +kernel), _, rfl, wa, a, n, n, ns, L, rfl, ⟨dx, lo, sa _ _ hw, sa _ _ hlo⟩, hL.same sa, hn, hlen, hns, fun H3 p u v r s3 h3 h4 => ?_⟩
    refine ⟨p, _, 2, .ref r, rfl, rfl, SqT.of h3, atI_nat (j := 2) rfl, sz (n := 2) (by omega), fun t nt => ⟨t, _, rfl, SqT.of upd_same, rfl, _, _, rfl, _, _, rfl, rfl, ?_⟩⟩
    have st : Same H3 (upd H3 t (.tup [.ref p2, .ref r])) := same_upd nt
    rw [Nat.min_self] at h4
    have h4 := st _ _ h4
    obtain ⟨rs, hl2, hrs⟩ := h2.same (s3.trans st)
    have sb := sa.trans (s3.trans st)
    refine ⟨_, rfl, _, _, rfl, rfl, ⟨by omega, by omega, by decide⟩, _, _, rfl, rfl, _, _, rfl, ⟨by decide, by decide, by show -(2 ^ 62) ≤ (1 : Int) * 2 ^ (n : Int).toNat - 1; rw [shl_nat]; have := Nat.two_pow_pos n; generalize (2 : Nat) ^ n = z at *; omega, ?_⟩, for_range (lo := 1) (fun i σ H' => ∃ y5 y6 y7 y8 y9 y10 y11, σ = [some (.ref wa), some (.ref a), some (.int (n : Int)), some (.ref p2), some (.ref r), y5, y6, y7, y8, y9, y10, y11] ∧ Same (upd H3 t (.tup [.ref p2, .ref r])) H') ⟨_, _, _, _, _, _, _, rfl, fun _ _ e => e⟩ ?_ ?_⟩
    · show (1 : Int) * 2 ^ (n : Int).toNat - 1 < 2 ^ 62
      rw [shl_nat]
      have := pow32 hn
      omega
    · rintro i σ H' hi ⟨y5, y6, y7, y8, y9, y10, y11, rfl, sm⟩
      have hp32 := pow32 hn
      have hi2 : i < 2 ^ n - 2 := by
        have hi : i < ((1 : Int) * 2 ^ (n : Int).toNat - 1 - 1).toNat := hi
        rw [shl_nat] at hi
        omega
      obtain ⟨f1, f2⟩ := mask_facts n hn (1 + i) (by omega) (by omega) (by omega)
      -- inside
      refine ⟨_, rfl, _, rfl, 1 + i, n, rfl, hn, fun H4 ins s4 n4 h4i => ?_⟩
      have smA := sm.trans s4
      -- worst
      refine ⟨_, rfl, ins, rfl, ⟨_, SqL.of h4i⟩, fun D nD => lcY_list (K := K) (a := ins) (xs := natV (mems n (1 + i))) (fun j H5 => Same H4 H5 ∧ ∃ ms : List Int, H5 D = some (.lst (ms.map V.int)) ∧ Paired (fun (x : Nat) (mm : Int) => ∀ y ∈ outs n (1 + i), mm ≤ ld (ov n L) x y) ((mems n (1 + i)).take j) ms) ⟨same_upd nD, [], upd_same, .nil⟩ (fun i H' _ x => SqL.of (x.1 _ _ h4i)) ?_ ?_⟩
      · rintro j v H5 hv ⟨s5, ms, hD, hP⟩
        obtain ⟨x, hx, rfl⟩ := natV_of hv
        have hxn := (mem_mems.mp (List.mem_of_getElem? hx)).1
        refine ⟨rfl, ?_⟩
        refine ⟨_, rfl, (n : Int), rfl, (i62 (by omega)).1, (i62 (by omega)).2, fun D2 nD2 => lc_rg (n := n) (fun k H6 => Same H5 H6 ∧ H6 D2 = some (.lst ((((List.range k).filter fun y => !decide (y ∈ mems n (1 + i))).map fun y => ld (ov n L) x y).map V.int))) ⟨same_upd nD2, upd_same⟩ ?_ ?_⟩
        · rintro k H6 hk ⟨s6, hD2⟩
          have s36 := smA.trans (s5.trans s6)
          refine ⟨rfl, _, rfl, _, rfl, ins, _, rfl, .inl (SqL.of ((s5.trans s6) _ _ h4i)), rfl, flat_nat _, _, rfl, ?_⟩
          rw [if_pos rfl, inV_nat]
          refine ite2 (fun c => ?_) (fun c => ?_)
          · refine ⟨_, rfl, _, rfl, p2, _, _, _, rfl, rfl, SqL.of (s36 _ _ hl2), atI_nat (map_range_at _ hxn), _, rfl, rs x, _, _, _, rfl, rfl, SqL.of (s36 _ _ (hrs x hxn)), atI_nat (rowV_at _ hk), ?_⟩
            refine ⟨_, hD2, ?_, Same.updN s6 nD2, ?_⟩
            · rw [List.length_map, List.length_map]
              exact small1000 (Nat.le_trans (List.length_filter_le _ _) (by rw [List.length_range]; omega))
            · rw [upd_same, List.range_succ, List.filter_append, List.filter_cons, if_pos c, List.filter_nil, List.map_append, List.map_append]; rfl
          · refine ⟨s6, ?_⟩
            rw [hD2, List.range_succ, List.filter_append, List.filter_cons, if_neg c, List.filter_nil, List.append_nil]
        · rintro H6 ⟨s6, hD2⟩
          refine ⟨D2, _, rfl, SqL.of hD2, by rw [List.length_map]; exact f2, fun mm _ hle => ?_⟩
          refine ⟨_, s6 _ _ hD, ?_, Same.updN (s5.trans s6) nD, ms ++ [mm], by rw [upd_same, List.map_append]; rfl, ?_⟩
          · rw [List.length_map, ← paired_len hP, List.length_take]
            have := mems_len n (1 + i)
            exact small1000 (by omega)
          · rw [take_snoc hx]
            exact paired_snoc hP fun y hy => hle _ (List.mem_map.mpr ⟨y, hy, rfl⟩)
      · rintro H5 ⟨s5, ms, hD, hP⟩
        rw [natV_len, List.take_length] at hP
        refine ⟨D, ms, rfl, SqL.of hD, by rw [← paired_len hP]; exact f1, fun mm _ hle => ?_⟩
        have hworst : ∀ x ∈ mems n (1 + i), ∀ y ∈ outs n (1 + i), mm ≤ ld (ov n L) x y := fun x hx y hy => by
          obtain ⟨k, hk⟩ := List.getElem?_of_mem hx
          obtain ⟨m1, hm1, hle1⟩ := paired_at' hP hk
          exact Int.le_trans (hle m1 (List.mem_of_getElem? hm1)) (hle1 y hy)
        have sc := smA.trans s5
        -- first
        refine ⟨_, rfl, _, rfl, ins, _, rfl, .inl (SqL.of (s5 _ _ h4i)), _, rfl, r, _, rfl, SqL.of (sc _ _ h4), fun fs nfs => ?_⟩
        rw [natV_len, cut_nat]
        have s6 : Same H5 (upd H5 fs (.lst (natV ((picks (S n L) ns n).take (mems n (1 + i)).length)))) := same_upd nfs
        have sd := sc.trans s6
        refine ⟨_, rfl, _, _, rfl, rfl, _, rfl, ite2 (fun c => ?_) (fun _ => iteF' ⟨_, _, _, _, _, _, _, rfl, sd⟩)⟩
        have hpos : ∀ x ∈ mems n (1 + i), ∀ y ∈ outs n (1 + i), 0 < ld (ov n L) x y := fun x hx y hy => by
          have := hworst x hx y hy
          have := of_decide_eq_true c
          omega
        have hin := first_mems (L := ld (ov n L)) hperm (ld_anti _) hpos
        refine ⟨_, rfl, fs, rfl, ⟨_, SqL.of upd_same⟩, fun D3 nD3 => lc_list (K := K) (a := fs) (xs := natV ((picks (S n L) ns n).take (mems n (1 + i)).length)) (fun j H7 => Same (upd H5 fs (.lst (natV ((picks (S n L) ns n).take (mems n (1 + i)).length)))) H7 ∧ H7 D3 = some (.lst [])) ⟨same_upd nD3, upd_same⟩ (fun i H' _ x => SqL.of (x.1 _ _ upd_same)) ?_ ?_⟩
        · rintro j v H7 hv ⟨s7, hD3⟩
          obtain ⟨x, hx, rfl⟩ := natV_of hv
          have hmem := hin x (List.mem_of_getElem? hx)
          refine ⟨rfl, _, rfl, _, rfl, ins, _, rfl, .inl (SqL.of ((s5.trans (s6.trans s7)) _ _ h4i)), rfl, flat_nat _, _, rfl, ?_⟩
          rw [if_pos rfl, inV_nat, decide_eq_true hmem]
          exact ite2 (fun c => absurd c (by decide)) (fun _ => ⟨s7, hD3⟩)
        · rintro H7 ⟨s7, hD3⟩
          refine ⟨by decide, fun e ne => ⟨_, _, dp_none (same_upd ne _ _ hD3), dp_none upd_same, shaped_int _, shaped_int _, _, rfl, ite2 (fun c => ?_) (fun _ => ?_)⟩⟩
          · rw [eqv_int] at c
            exact absurd c (by decide)
          · exact ⟨_, _, _, _, _, _, _, rfl, sd.trans (s7.trans (same_upd ne))⟩
    · rintro σ H' ⟨y5, y6, y7, y8, y9, y10, y11, rfl, sm⟩
      exact q H' (sb.trans sm)
theorem cal_seats_right (T : Tp K mg) : CalG P w K mg base "_law_seats_right" 7 ["_law_sheet", "_law_hands", "_law_lots"] spSeats := by
  obtain ⟨fd, F⟩ := T.f_seats_right
  refine ⟨_, fd, T.g_seats_right, F.kp, F.bindsN fun _ _ _ _ _ _ us hl => match us, hl with | [_, _, _], _ => rfl, fnG_of F sc_s_law_seats_right (fun vs H Q E h => ?_) (fun cdv A fr s0 H vs Q gg hr h => ?_)⟩
  · obtain ⟨a, l, n, ns, L, rfl, _⟩ := h
    rfl
  · obtain ⟨a, l, n, ns, L, rfl, hl, hL, hn2, hn, hperm, q⟩ := h
    have hns := natV_lt hperm
    have hlen := perm_len hperm
    refine ⟨_, (pss_cons (ps_set (i := 3) sc_s_law_seats_right.nd rfl (.inl rfl) (pe_lst pa_nil))
      (pss_cons (ps_for PassesOwn.never rfl (pi_range2 (by rfl) T.m_range (pa_cons pe_int (pa_cons (pe_op op_add (pv 1) pe_int) pa_nil))) (pg_name (i := 4) sc_s_law_seats_right.nd rfl (.inl rfl)) (pss_cons (ps_set (i := 5) sc_s_law_seats_right.nd rfl (.inl rfl) (pci (cal_init T) (hr.mono (by decide)) (by rfl) T.g_Pairs (pa_cons (pv 1) (pa_cons (pv 4) (pa_cons (pv 2) pa_nil)))))
      (pss_cons (ps_set (i := 6) sc_s_law_seats_right.nd rfl (.inr rfl) (pe_ix ix_tup (pcm (cal_counted T) T.cl (hr.mono (by decide)) (pv 5) (pa_cons (pv 0) pa_nil)) pe_int (fun _ _ => rfl)))
      (pss_cons (ps_if (PW.pt (pw_or (pt_cmpR (op_neD hr.units) (pe_slice sl_list (pv 6) po_none (po_some (pe_callB call_len_seq (by rfl) T.m_len (by decide +kernel) (pa_cons (pv 3) pa_nil)))) (pv 3) (nomark _)) (pw_or1 (pt_cmpR op_ne (pe_callB call_len_seq (by rfl) T.m_len (by decide +kernel) (pa_cons (pv 6) pa_nil)) (pe_callB (call_min2 rfl) (by rfl) T.m_min (by decide +kernel) (pa_cons (pv 4) (pa_cons (pv 1) pa_nil))) (nomark _))))) (pss_one (ps_ret pe_bl)) pss_nil)
      (pss_cons (ps_if (pt_not (pt_val (pcg (cal_alike T) gg (hr.mono (by decide)) (by rfl) (pa_cons (pcm (cal_outcome T) T.cl (hr.mono (by decide)) (pv 5) (pa_cons (pv 0) pa_nil)) (pa_cons (pe_lc (own := [("_law_hand", 7)]) (g := gName 7) (tt := tYes) rfl sc_s_law_seats_right.nd (pi_range1 (by rfl) T.m_range (pa_cons (pv 1) pa_nil)) (blkOk_by (own := [("_law_hand", 7)]) (by kernel_rfl)) (fun _ _ _ _ _ => (pg_name (i := 7) sc_s_law_seats_right.nd rfl (Or.inl rfl))) (fun _ _ _ _ _ => pts_nil) (fun _ _ _ _ _ => (pe_callTy call_int1 (by rfl) T.m_int (by decide +kernel) (pa_cons (pe_cmpR (oIn K rfl) (pv 7) (pv 6) (by rfl)) pa_nil)))) pa_nil))))) (pss_one (ps_ret pe_bl)) pss_nil)
      (pss_one (ps_set (i := 3) sc_s_law_seats_right.nd rfl (.inl rfl) (pv 6))))))))
      (pss_one (ps_ret (pe_cmpR (op_eqD hr.units) (pe_callB cr_sorted (by rfl) T.m_sorted (by decide +kernel) (pa_cons (pv 3) pa_nil)) (pe_listRg rfl (by rfl) T.m_list (prg_1 (by rfl) T.m_range (pv 1))) (nomark _)))))), ?_⟩
    refine ⟨by decide, fun e0 ne0 => ?_⟩
    have s1 : Same H (upd H e0 (.lst [])) := same_upd ne0
    have hrg : ((n : Int) + 1 - 1 + 1).toNat = n + 1 := by omega
    refine ⟨_, rfl, _, _, rfl, rfl, _, _, rfl, ⟨by decide, by decide, by show -(2 ^ 62) ≤ (n : Int) + 2; omega, by show (n : Int) + 2 < 2 ^ 62; omega⟩, for_range (lo := 1) (fun i σ H' => ∃ el y4 y5 y6 y7, σ = [some (.ref a), some (.int (n : Int)), some (.ref l), some (.ref el), y4, y5, y6, y7] ∧ Same H H' ∧ H' el = some (.lst (natV (picks (S n L) ns (min i n))))) ⟨e0, _, _, _, _, rfl, s1, by rw [Nat.zero_min]; exact upd_same⟩ ?_ ?_⟩
    · rintro i σ H' hi ⟨el, y4, y5, y6, y7, rfl, sm, hel⟩
      have hi : i < ((n : Int) + 2 - 1).toNat := hi
      -- way
      refine ⟨_, rfl, _, rfl, _, rfl, fun x dy nx ndy ne => make_ok (n := n) (s := 1 + i) (a := l) (ns := ns) nx ndy ne (by omega) hn (by omega) (by omega) (sm _ _ hl) hperm fun H2 s2 hway => ?_⟩
      obtain ⟨dx, lo, hw, hlo⟩ := hway
      have sa := sm.trans s2
      -- picks
      refine ⟨_, rfl, x, _, _, rfl, hw, wf_no n (1 + i) lo (by decide +kernel) (by decide +kernel) (by decide +kernel), _, rfl, x, a, n, 1 + i, ns, L, rfl, ⟨dx, lo, hw, hlo⟩, hL.same sa, hn, hlen, hns, fun H3 p u v r s3 h3 h4 => ?_⟩
      refine ⟨p, _, 2, .ref r, rfl, rfl, SqT.of h3, atI_nat (j := 2) rfl, ?_⟩
      have sb := sa.trans s3
      have hel3 := (s2.trans s3) _ _ hel
      -- picks[:len(elder)] != elder
      refine ⟨_, rfl, _, rfl, el, _, rfl, .inl (SqL.of hel3), _, rfl, r, _, rfl, SqL.of h4, fun ct nct => ?_⟩
      have ecut : cutV (natV (picks (S n L) ns (min (1 + i) n))) none (some ((natV (picks (S n L) ns (min i n))).length : Int)) = natV (picks (S n L) ns (min i n)) := by
        rw [cut_nat, natV_len, picks_len, picks_take _ _ (by omega)]
      have s4 : Same H3 (upd H3 ct (.lst (cutV (natV (picks (S n L) ns (min (1 + i) n))) none (some ((natV (picks (S n L) ns (min i n))).length : Int))))) := same_upd nct
      have sc := sb.trans s4
      refine ⟨_, rfl, _, _, dp_nat (by rw [upd_same, ecut]), dp_nat (s4 _ _ hel3), shaped_int _, shaped_int _, _, rfl, ite2 (fun c => ?_) (fun _ => ?_)⟩
      · rw [eqv_int, decide_eq_true rfl] at c
        exact absurd c (by decide)
      refine ⟨_, rfl, r, _, rfl, .inl (SqL.of (s4 _ _ h4)), _, rfl, _, rfl, _, _, rfl, rfl, _, rfl, ite2 (fun c => ?_) (fun _ => ?_)⟩
      · rw [natV_len, picks_len] at c
        have e : (if (n : Int) < 1 + (i : Int) then (n : Int) else 1 + (i : Int)) = ((min (1 + i) n : Nat) : Int) := by split <;> omega
        have c2 : (!decide (V.int ((min (1 + i) n : Nat) : Int) = V.int (if (n : Int) < 1 + (i : Int) then (n : Int) else 1 + (i : Int)))) = true := c
        rw [e, decide_eq_true rfl] at c2
        exact absurd c2 (by decide)
      -- alike(outcome, ..)
      have sd := s3.trans s4
      refine ⟨_, rfl, x, _, _, rfl, sd _ _ hw, wf_no n (1 + i) lo (by decide +kernel) (by decide +kernel) (by decide +kernel), _, rfl, x, a, n, 1 + i, ns, L, rfl, ⟨dx, lo, sd _ _ hw, sd _ _ hlo⟩, hL.same sc, hn, hlen, hns, fun H5 p5 s5 h5 => ?_⟩
      refine ⟨_, rfl, (n : Int), rfl, (i62 (by omega)).1, (i62 (by omega)).2, fun D nD => lcY_rg (n := n) (fun i2 H6 => Same H5 H6 ∧ H6 D = some (.lst (toldV i2 (picks (S n L) ns (min (1 + i) n))))) ⟨same_upd nD, upd_same⟩ ?_ ?_⟩
      · rintro j H6 hj ⟨s6, hD⟩
        refine ⟨rfl, _, rfl, _, rfl, r, _, rfl, .inl (SqL.of ((s4.trans (s5.trans s6)) _ _ h4)), rfl, flat_nat _, .inr ⟨_, rfl, ?_⟩⟩
        refine ⟨_, hD, by unfold toldV; rw [rowV_len]; exact small1000 (by omega), Same.updN s6 nD, ?_⟩
        unfold toldV
        rw [upd_same, ← rowV_snoc, if_neg Bool.false_ne_true, inV_nat]
        congr 5
        by_cases e : j ∈ picks (S n L) ns (min (1 + i) n)
        · rw [decide_eq_true e, if_pos e, if_pos rfl]
        · rw [decide_eq_false e, if_neg e, if_neg Bool.false_ne_true]
      · rintro H6 ⟨s6, hD⟩
        have hpl : ∀ z ∈ picks (S n L) ns (min (1 + i) n), z < 5 := fun z hz => by
          have e := picks_take (S n L) ns (show min (1 + i) n ≤ n by omega)
          rw [← e] at hz
          have hz := List.mem_of_mem_take hz
          have hpp := picks_perm (L := ld (ov n L)) hns
          rw [hlen] at hpp
          have := hns z (hpp.mem_iff.mp hz)
          omega
        refine .inr ⟨p5, D, _, rfl, by rw [s6 _ _ h5, toldV_eq], by rw [hD, toldV_eq], told_ok hn hpl, _, rfl, ite2 (fun c => absurd c (by decide)) (fun _ => ?_)⟩
        refine ⟨_, rfl, r, _, _, _, _, rfl, sc.trans (s5.trans s6), ?_⟩
        rw [(s4.trans (s5.trans s6)) _ _ h4, Nat.add_comm 1 i]
    · rintro σ H' ⟨el, y4, y5, y6, y7, rfl, sm, hel⟩
      have e : min ((n : Int) + 2 - 1).toNat n = n := by omega
      have hel : H' el = some (.lst (natV (picks (S n L) ns (min ((n : Int) + 2 - 1).toNat n)))) := hel
      rw [e] at hel
      have hpp := picks_perm (L := ld (ov n L)) hns
      rw [hlen] at hpp
      refine ⟨_, rfl, el, _, rfl, by rw [← natV_map]; exact SqL.of hel, by rw [List.length_map, picks_len]; omega, fun ms p mp ms' np => ?_⟩
      have s2 : Same H' (upd H' p (.lst (ms.map V.int))) := same_upd np
      refine ⟨_, rfl, (n : Int), rfl, .of_le (by omega) (by omega) (by omega) (by omega), fun r nr => ?_⟩
      rw [rgV_nat]
      refine ⟨_, _, .lst (SqL.of (same_upd nr _ _ upd_same)) (dp_ints ms), dp_nat upd_same, shaped_int _, shaped_int _, ?_⟩
      rw [eqv_int, decide_eq_true (sorted_range (hpp.trans hperm) mp ms')]
      exact q _ (sm.trans (s2.trans (same_upd nr)))
end
end Wp
end
section
set_option Elab.async false
set_option linter.all false
set_option maxRecDepth 100000
set_option maxHeartbeats 4000000
namespace Wp
open PySem PySem.Spec PyProof.Rows L2
/-! ### _law_turned_right, _law_raised_right -/
theorem sc_s_law_turned_right : FnScope ["_law_way", "_law_sheet", "_law_hands", "_law_other", "_law_slip_here", "_law_many", "_law_x", "_law_y"] ["_law_way", "_law_sheet", "_law_hands"] (defScope s_law_turned_right) := ⟨rfl, rfl, rfl, by decide +kernel, rfl, by decide +kernel, by decide +kernel⟩
-- slots: 0 _law_way 1 _law_sheet 2 _law_hands* 3 _law_other 4 _law_slip_here 5 _law_many 6 _law_x 7 _law_y
theorem sc_s_law_raised_right : FnScope ["_law_bag_here", "_law_way", "_law_sheet", "_law_hands", "_law_free", "_law_hand", "_law_k", "_law_lines_here", "_law_slip_here", "_law_many"] ["_law_bag_here", "_law_way", "_law_sheet", "_law_hands"] (defScope s_law_raised_right) := ⟨rfl, rfl, rfl, by decide +kernel, rfl, by decide +kernel, by decide +kernel⟩
-- slots: 0 _law_bag_here* 1 _law_way 2 _law_sheet 3 _law_hands 4 _law_free 5 _law_hand* 6 _law_k 7 _law_lines_here 8 _law_slip_here 9 _law_many
theorem mems_of {n m : Nat} {l : List Nat} (h : ∀ h, m.testBit h = decide (h ∈ l)) {x : Nat} : x ∈ mems n m ↔ x < n ∧ x ∈ l := by
  rw [mem_mems, h]
  constructor
  · rintro ⟨a, b⟩; exact ⟨a, of_decide_eq_true b⟩
  · rintro ⟨a, b⟩; exact ⟨a, decide_eq_true b⟩
section
variable {P : Program} {w : World} {K : PySem.W.Frag} {mg : Str → Option Value} {base : Heap}
theorem cal_turned_right (T : Tp K mg) : CalG P w K mg base "_law_turned_right" 6 ["_law_way", "_law_sheet", "_law_hands"] (spTurnR (He.ga K "Pairs")) := by
  obtain ⟨fd, F⟩ := T.f_turned_right
  refine ⟨_, fd, T.g_turned_right, F.kp, F.bindsN fun _ _ _ _ _ _ us hl => match us, hl with | [_, _, _], _ => rfl, fnG_of F sc_s_law_turned_right (fun vs H Q E h => ?_) (fun cdv A fr s0 H vs Q gg hr h => ?_)⟩
  · obtain ⟨wa, a, n, s, ns, L, rfl, _⟩ := h
    rfl
  · obtain ⟨wa, a, n, s, ns, L, rfl, ⟨dx, lo, hw, hlo⟩, ⟨ls, hla, hls⟩, hok, hlen, hn2, hn, q⟩ := h
    have hl2 : ls.length = L.length := paired_len hls
    refine ⟨_, (pss_cons (ps_set (i := 3) sc_s_law_turned_right.nd rfl (.inl rfl) (pcl (cal_together T) (hr.mono (by decide)) (by rfl) (pa_cons (pe_lc (own := [("_law_slip_here", 4), ("_law_many", 5)]) (tt := tYes) rfl sc_s_law_turned_right.nd (pi_list (pv 1)) (blkOk_by (own := [("_law_slip_here", 4), ("_law_many", 5)]) (by kernel_rfl)) (fun _ _ _ _ _ => (pgT K 2 rfl rfl (pgs_cons (pg_name (i := 4) sc_s_law_turned_right.nd rfl (Or.inl rfl)) (pgs_cons (pg_name (i := 5) sc_s_law_turned_right.nd rfl (Or.inl rfl)) pgs_nil)))) (fun _ _ _ _ _ => pts_nil) (fun _ _ _ _ _ => (pe_tup (pa_cons (pcl (cal_turned T) (hr.mono (by decide)) (by rfl) (pa_cons (pv 4) (pa_cons (pv 2) pa_nil))) (pa_cons (pv 5) pa_nil))))) pa_nil)))
      (pss_cons (ps_for PassesOwn.never rfl (pi_range1 (by rfl) T.m_range (pa_cons (pv 2) pa_nil)) (pg_name (i := 6) sc_s_law_turned_right.nd rfl (.inl rfl)) (pss_one (ps_for PassesOwn.never rfl (pi_range1 (by rfl) T.m_range (pa_cons (pv 2) pa_nil)) (pg_name (i := 7) sc_s_law_turned_right.nd rfl (.inl rfl)) (pss_one (ps_if (pt_not (pt_val (pcg (cal_alike T) gg (hr.mono (by decide)) (by rfl) (pa_cons (pcm (cal_beats T) T.cl (hr.mono (by decide)) (pv 0) (pa_cons (pv 1) (pa_cons (pv 6) (pa_cons (pv 7) pa_nil)))) (pa_cons (pcm (cal_beats T) T.cl (hr.mono (by decide)) (pv 0) (pa_cons (pv 3) (pa_cons (pv 7) (pa_cons (pv 6) pa_nil)))) pa_nil))))) (pss_one (ps_ret pe_bl)) pss_nil)))))
      (pss_one (ps_ret pe_bl)))), ?_⟩
    refine ⟨_, rfl, a, rfl, ⟨_, SqL.of hla⟩, fun D nD => lcY_list (K := K) (a := a) (xs := ls) (fun i H' => Same H H' ∧ ∃ vs, H' D = some (.lst vs) ∧ Paired (LineAt H') vs ((L.take i).map fun l => (turned n l.1, l.2))) ⟨same_upd nD, [], upd_same, .nil⟩ (fun i H' _ x => SqL.of (x.1 _ _ hla)) ?_ ?_⟩
    · rintro i v H' hv ⟨sm, vs, hD, hP⟩
      obtain ⟨l, hl, pl, t, rfl, hp, ht⟩ := paired_at' hls hv
      refine ⟨pl, _, rfl, SqT.of (sm _ _ hp), rfl, _, _, rfl, _, _, rfl, rfl, rfl, ?_⟩
      refine ⟨_, rfl, _, rfl, t, l.1, n, rfl, ht.same sm, (hok l (List.mem_of_getElem? hl)).1, hn, fun H2 u s2 hu => ⟨_, rfl, sz (n := 2) (by omega), fun p np => ?_⟩⟩
      have s3 : Same H2 (upd H2 p (.tup [.ref u, .int l.2])) := same_upd np
      have hD3 := (s2.trans s3) _ _ hD
      have pD : p ≠ D := ne_of upd_same hD3 (by intro e; cases e)
      have uD : u ≠ D := ne_of (s3 _ _ hu) hD3 (by intro e; cases e)
      refine ⟨_, hD3, ?_, Same.updN (sm.trans (s2.trans s3)) nD, _, upd_same, ?_⟩
      · have e1 := paired_len hP
        rw [List.length_map, List.length_take] at e1
        exact small1000 (by omega)
      · rw [take_snoc hl, List.map_append]
        refine paired_snoc (Paired.mapP hP fun v l x => (x.same (s2.trans s3)).but sameBut_upd ⟨_, hD3⟩) ⟨p, u, rfl, by rw [upd_ne pD, upd_same], ?_⟩
        unfold TupAt
        rw [upd_ne uD]
        exact s3 _ _ hu
    · rintro H1 ⟨s1, vs, hD, hP⟩
      rw [hl2, List.take_length] at hP
      refine ⟨D, _, rfl, ⟨vs, hD, hP⟩, by rw [List.length_map]; omega, fun H2 o L' tog s2 no hL' => ?_⟩
      have sa := s1.trans s2
      refine ⟨_, rfl, (n : Int), rfl, (i62 (by omega)).1, (i62 (by omega)).2, for_rg (n := n) (fun x σ H' => ∃ y4 y5 y6 y7, σ = [some (.ref wa), some (.ref a), some (.int (n : Int)), some (.ref o), y4, y5, y6, y7] ∧ Same H2 H') ⟨_, _, _, _, rfl, fun _ _ e => e⟩ ?_ ?_⟩
      · rintro x σ H' hx ⟨y4, y5, y6, y7, rfl, sm⟩
        refine ⟨_, rfl, (n : Int), rfl, (i62 (by omega)).1, (i62 (by omega)).2, for_rg (n := n) (fun y σ H' => ∃ y4 y5 y7, σ = [some (.ref wa), some (.ref a), some (.int (n : Int)), some (.ref o), y4, y5, some (.int (x : Int)), y7] ∧ Same H2 H') ⟨_, _, _, rfl, sm⟩ ?_ ?_⟩
        · rintro y σ H' hy ⟨y4, y5, y7, rfl, sm⟩
          have sb := sa.trans sm
          refine ⟨_, rfl, wa, _, _, rfl, sb _ _ hw, wf_no n s lo (by decide +kernel) (by decide +kernel) (by decide +kernel), _, rfl, _, rfl, _, rfl, wa, a, x, y, n, s, ns, L, rfl, ⟨dx, lo, sb _ _ hw, sb _ _ hlo⟩, LinesAt.same sb ⟨ls, hla, hls⟩, hn, hx, hy, fun H3 s3 => ?_⟩
          have sc := sb.trans s3
          refine ⟨_, rfl, wa, _, _, rfl, sc _ _ hw, wf_no n s lo (by decide +kernel) (by decide +kernel) (by decide +kernel), _, rfl, _, rfl, _, rfl, wa, o, y, x, n, s, ns, L', rfl, ⟨dx, lo, sc _ _ hw, sc _ _ hlo⟩, hL'.same (sm.trans s3), hn, hy, hx, fun H4 s4 => ?_⟩
          refine .inl ⟨decide (S n L y x < S n L x y), ?_, _, rfl, ite2 (fun c => absurd c (by decide)) (fun _ => ⟨_, _, _, rfl, sm.trans (s3.trans s4)⟩)⟩
          have e1 : S n L' x y = S n L y x := turned_stren hn hok tog hx hy
          have e2 : S n L' y x = S n L x y := turned_stren hn hok tog hy hx
          rw [e1, e2]
        · rintro σ H' ⟨y4, y5, y7, rfl, sm⟩
          exact ⟨_, _, _, _, rfl, sm⟩
      · rintro σ H' ⟨y4, y5, y6, y7, rfl, sm⟩
        exact q H' (sa.trans sm)
theorem cal_raised_right (T : Tp K mg) : Cal P w K mg base "_law_raised_right" 6 ["_law_bag_here", "_law_way", "_law_sheet", "_law_hands"] (spRaise (He.ga K "Pairs")) := by
  obtain ⟨fd, F⟩ := T.f_raised_right
  refine ⟨_, fd, T.g_raised_right, F.kp, F.bindsN fun _ _ _ _ _ _ us hl => match us, hl with | [_, _, _, _], _ => rfl, okd F sc_s_law_raised_right (fun vs H Q E h => ?_) (fun cdv A fr s0 H vs Q E hr h => ?_)⟩
  · obtain ⟨cl, b, wa, a, n, s, ns, L, rfl, _⟩ := h
    rfl
  · obtain ⟨cl, b, wa, a, n, s, ns, L, rfl, hb, hway, hL, hok, hlen, hn2, hn, q⟩ := h
    refine ⟨_, (pss_cons (ps_set (i := 4) sc_s_law_raised_right.nd rfl (.inl rfl) (pcl (cal_members T) (hr.mono (by decide)) (by rfl) (pa_cons (pcm (cal_unbeaten T) T.cl (hr.mono (by decide)) (pv 1) (pa_cons (pv 2) pa_nil)) (pa_cons (pv 3) pa_nil))))
      (pss_cons (ps_if (pt_cmpR (op_eqD hr.units) (pv 4) (pe_lst pa_nil) (nomark _)) (pss_one (ps_ret pe_bl)) pss_nil)
      (pss_cons (ps_set (i := 5) sc_s_law_raised_right.nd rfl (.inr rfl) (pcl (cal_one T) (hr.mono (by decide)) (by rfl) (pa_cons (pv 0) (pa_cons (pv 4) pa_nil))))
      (pss_cons (ps_for PassesOwn.never rfl (pi_range1 (by rfl) T.m_range (pa_cons pe_int pa_nil)) (pg_name (i := 6) sc_s_law_raised_right.nd rfl (.inl rfl)) (pss_cons (ps_setLc (i := 7) (own := [("_law_slip_here", 8), ("_law_many", 9)]) (tt := tYes) rfl sc_s_law_raised_right.nd rfl rfl (sw_true rfl rfl rfl (by decide +kernel)) (pi_list (pv 2)) (blkOk_by (own := [("_law_slip_here", 8), ("_law_many", 9)]) (by kernel_rfl)) (fun _ _ _ _ _ => (pgT K 2 rfl rfl (pgs_cons (pg_name (i := 8) sc_s_law_raised_right.nd rfl (Or.inl rfl)) (pgs_cons (pg_name (i := 9) sc_s_law_raised_right.nd rfl (Or.inl rfl)) pgs_nil)))) (fun _ _ _ _ _ => pts_nil) (fun _ _ _ _ _ => (pe_tup (pa_cons (pe_ifExp (pt_cmpR op_eq (pcl (cal_take T) (hr.mono (by decide)) (by rfl) (pa_cons (pv 0) (pa_cons pe_int pa_nil))) pe_int (nomark _)) (pcl (cal_put_ahead T) (hr.mono (by decide)) (by rfl) (pa_cons (pv 8) (pa_cons (pv 5) pa_nil))) (pv 8)) (pa_cons (pv 9) pa_nil)))))
      (pss_one (ps_if (pt_cmpR op_notIn_seq (pv 5) (pcl (cal_members T) (hr.mono (by decide)) (by rfl) (pa_cons (pcm (cal_unbeaten T) T.cl (hr.mono (by decide)) (pv 1) (pa_cons (pcl (cal_together T) (hr.mono (by decide)) (by rfl) (pa_cons (pv 7) pa_nil)) pa_nil)) (pa_cons (pv 3) pa_nil))) (by rfl)) (pss_one (ps_ret pe_bl)) pss_nil))))
      (pss_one (ps_ret pe_bl)))))), ?_⟩
    obtain ⟨dx, lo, hw, hlo⟩ := hway
    have hab := hL.ne hb
    -- free
    refine ⟨_, rfl, wa, _, _, rfl, hw, wf_no n s lo (by decide +kernel) (by decide +kernel) (by decide +kernel), _, rfl, wa, a, n, s, ns, L, rfl, ⟨dx, lo, hw, hlo⟩, hL, hn, fun H1 m s1 hm hbit => ⟨_, rfl, m, n, rfl, hn, fun H2 p s2 np hp => ?_⟩⟩
    have sa := s1.trans s2
    have hml := mems_len n m
    refine ⟨_, rfl, by decide, fun e ne => ⟨_, _, dp_nat (same_upd ne _ _ hp), dp_none upd_same, shaped_int _, shaped_int _, _, rfl, ite2 (fun c => ?_) (fun c => ?_)⟩⟩
    · rw [eqv_int] at c
      have c2 := of_decide_eq_true c
      have hu := unb_some (n := n) (L := ld (ov n L)) (l := List.range n) (fun x hx => List.mem_range.mp hx) (fun e => by
        have := congrArg List.length e
        rw [List.length_range] at this
        simp at this
        omega)
      obtain ⟨x, hx⟩ := List.exists_mem_of_ne_nil _ hu
      have hxm : x ∈ mems n m := (mems_of hbit).mpr ⟨List.mem_range.mp (mem_unb.mp hx).1, hx⟩
      have : mems n m = [] := nat_inj (c2.trans rfl)
      rw [this] at hxm
      cases hxm
    have sb := sa.trans (same_upd (o := .lst []) ne)
    have hp3 := same_upd (o := .lst []) ne _ _ hp
    have hb3 := hb.same sb
    refine ⟨_, rfl, _, rfl, cl, b, p, _, rfl, hb3, hp3, hb3.ne hp3 (natV_nb _), ?_, by rw [natV_len]; omega, fun H4 v hv hb4 sb4 => ?_⟩
    · intro e0
      refine c ?_
      rw [eqv_int]
      refine decide_eq_true ?_
      have : (mems n m).length = 0 := by rw [← natV_len, e0]; rfl
      rw [List.eq_nil_of_length_eq_zero this]
      rfl
    have hv : ∃ h : Nat, v = .int (h : Int) ∧ h ∈ mems n m := by
      unfold natV at hv
      obtain ⟨h, hh, rfl⟩ := List.mem_map.mp hv
      exact ⟨h, rfl, hh⟩
    obtain ⟨h, rfl, hmem⟩ := hv
    obtain ⟨hh, hu⟩ := (mems_of hbit).mp hmem
    have sc : SameBut b H H4 := (SameBut.of sb).trans sb4
    -- for k in range(3)
    refine ⟨((3 : Nat) : Int), rfl, by decide, by decide, for_rg (n := 3) (fun k σ H' => ∃ y6 y7 y8 y9, σ = [some (.ref b), some (.ref wa), some (.ref a), some (.int (n : Int)), some (.ref p), some (.int (h : Int)), y6, y7, y8, y9] ∧ SameBut b H H' ∧ BagAt cl H' b) ⟨_, _, _, _, rfl, sc, hb4⟩ ?_ ?_⟩
    · rintro k σ H5 _ ⟨y6, y7, y8, y9, rfl, sm, hb5⟩
      have hL5 := hL.but sm hb
      obtain ⟨ls, hla, hls⟩ := hL5
      have hl2 : ls.length = L.length := paired_len hls
      refine ⟨_, rfl, a, rfl, ⟨_, SqL.of hla⟩, fun D nD => lcY_list (K := K) (a := a) (xs := ls) (fun i H' => SameBut b H5 H' ∧ BagAt cl H' b ∧ ∃ vs M, H' D = some (.lst vs) ∧ Paired (LineAt H') vs M ∧ Rz h (L.take i) M) ⟨.of (same_upd nD), hb5.same (same_upd nD), [], [], upd_same, .nil, .nil⟩ (fun i H' _ x => SqL.of (x.1 _ _ hla hab)) ?_ ?_⟩
      · rintro i v H' hv ⟨sm6, hb6, vs, M, hD, hP, hR⟩
        obtain ⟨l, hl, hline⟩ := paired_at' hls hv
        obtain ⟨pl, t, rfl, hpl, ht⟩ := hline.but sm6 hb5.lst
        have Db := hb5.new nD
        have hM : M.length ≤ 100 := by rw [hR.len, List.length_take]; omega
        have okl := (hok l (List.mem_of_getElem? hl)).1
        refine ⟨pl, _, rfl, SqT.of hpl, rfl, _, _, rfl, _, _, rfl, rfl, rfl, ?_⟩
        refine ⟨_, rfl, cl, b, 2, rfl, hb6, by omega, by omega, fun H7 r hr7 hb7 sb7 => ⟨rfl, _, rfl, ite2 (fun c => ?thn) (fun c => ?els)⟩⟩
        case' thn =>
          have ht7 : TupAt H7 t l.1 := sb7 _ _ ht (by
            obtain ⟨xs, hx⟩ := hb6.lst
            exact ne_of ht hx (by intro e; cases e))
          refine ⟨_, rfl, _, rfl, t, l.1, n, h, rfl, ht7, okl, hn, hh, fun H8 t s8 hu => ?_⟩
          have sbx := sb7.trans (SameBut.of (b := b) s8)
          have hbx := hb7.same s8
          obtain ⟨sl, hslx, hRx⟩ : ∃ sl, TupAt H8 t sl ∧ Rz h (L.take (i + 1)) (M ++ [(sl, l.2)]) := ⟨_, hu, by rw [take_snoc hl]; exact hR.snocP l⟩
        case' els =>
          refine ⟨_, rfl, ?_⟩
          have sbx := sb7
          have hbx := hb7
          obtain ⟨sl, hslx, hRx⟩ : ∃ sl, TupAt H7 t sl ∧ Rz h (L.take (i + 1)) (M ++ [(sl, l.2)]) := ⟨l.1, sb7 _ _ ht (by
            obtain ⟨xs, hx⟩ := hb6.lst
            exact ne_of ht hx (by intro e; cases e)), by rw [take_snoc hl]; exact hR.snocS l⟩
        all_goals
          refine ⟨_, rfl, sz (n := 2) (by omega), fun pp npp => ?_⟩
          have s9 := same_upd (o := .tup [.ref t, .int l.2]) npp
          have sbt := sbx.trans (SameBut.of (b := b) s9)
          have hD9 := sbt _ _ hD Db
          have pD : pp ≠ D := ne_of upd_same hD9 (by intro e; cases e)
          have hs9 := s9 _ _ hslx
          have uD := ne_of hs9 hD9 (by intro e; cases e)
          refine ⟨_, hD9, ?_, (sm6.trans sbt).updN nD, hb5.updN (hbx.same s9) nD, _, _, upd_same, ?_, hRx⟩
          · rw [paired_len hP]; exact small1000 (by omega)
          · refine paired_snoc (Paired.mapP hP fun v l x => (x.but sbt hb6.lst).but sameBut_upd ⟨_, hD9⟩) ⟨pp, _, rfl, by rw [upd_ne pD, upd_same], ?_⟩
            unfold TupAt
            rw [upd_ne uD]
            exact hs9
      · rintro H6 ⟨sm6, hb6, vs, M, hD, hP, hR⟩
        rw [hl2, List.take_length] at hR
        have smB := sm.trans sm6
        obtain ⟨dx2, lo2, hw6, hlo6⟩ := WayAt.but smB hb ⟨dx, lo, hw, hlo⟩
        refine ⟨_, rfl, _, rfl, wa, _, _, rfl, hw6, wf_no n s lo2 (by decide +kernel) (by decide +kernel) (by decide +kernel), _, rfl, D, M, rfl, ⟨vs, hD, hP⟩, by rw [hR.len]; omega, fun H7 o L' tog s7 no hL' => ?_⟩
        refine ⟨wa, o, n, s, ns, L', rfl, ⟨dx2, lo2, s7 _ _ hw6, s7 _ _ hlo6⟩, hL', hn, fun H8 m2 s8 hm2 hbit2 => ⟨_, rfl, m2, n, rfl, hn, fun H9 r s9 nr hr9 => ?_⟩⟩
        refine ⟨r, _, rfl, .inl (SqL.of hr9), rfl, flat_nat _, _, rfl, ?_⟩
        have hmem2 : h ∈ mems n m2 := (mems_of hbit2).mpr ⟨hh, raised_unb hn hh hok hR tog hu⟩
        rw [if_pos rfl, inV_nat, decide_eq_true hmem2]
        have s79 := s7.trans (s8.trans s9)
        exact ite2 (fun c => absurd c (by decide)) (fun _ => ⟨_, _, _, _, rfl, smB.trans (.of s79), hb6.same s79⟩)
    · rintro σ H' ⟨y6, y7, y8, y9, rfl, sm, hb'⟩
      exact q H' hb' sm
end
end Wp
end
section
set_option Elab.async false
set_option linter.all false
set_option maxRecDepth 100000
set_option maxHeartbeats 4000000
namespace Wp
open PySem PySem.Spec PyProof.Rows L2
/-! ### law -/
theorem sc_s_law : FnScope ["_law_script", "_law_bag_here", "_law_turn", "_law_hands", "_law_lots", "_law_way", "_law_lines_here", "_law_sheet"] ["_law_script"] (defScope s_law) := ⟨rfl, rfl, rfl, by decide +kernel, rfl, by decide +kernel, by decide +kernel⟩
-- slots: 0 _law_script 1 _law_bag_here 2 _law_turn 3 _law_hands 4 _law_lots 5 _law_way 6 _law_lines_here 7 _law_sheet
theorem ld_nil (n : Nat) (i j : Nat) : ld (ov n []) i j = 0 := rfl
theorem S_nil (n i j : Nat) : S n [] i j = 0 := stren_zero (ld_nil n) i j
theorem all_bits {n m : Nat} (h : ∀ h, m.testBit h = decide (h ∈ unb (S n []) (List.range n))) : m = 2 ^ n - 1 := by
  refine Nat.eq_of_testBit_eq fun i => ?_
  rw [h, Nat.testBit_two_pow_sub_one, unb_zero (S_nil n)]
  by_cases c : i < n
  · rw [decide_eq_true c, decide_eq_true (List.mem_range.mpr c)]
  · rw [decide_eq_false c, decide_eq_false fun q => c (List.mem_range.mp q)]
theorem turn_at (t : Nat) (h : t < 3) : ∃ m : Nat, ([.int 4, .int 2, .int 3] : List V)[t]? = some (.int (m : Int)) ∧ 2 ≤ m ∧ m ≤ 4 := by
  match t, h with
  | 0, _ => exact ⟨4, rfl, by decide, by decide⟩
  | 1, _ => exact ⟨2, rfl, by decide, by decide⟩
  | 2, _ => exact ⟨3, rfl, by decide, by decide⟩
theorem one_mask {n r : Nat} (h : r < 2 ^ n - 2) : SlipOk n [1 + r] :=
  ⟨fun t ht => by rw [List.mem_singleton.mp ht]; omega, fun t ht => by rw [List.mem_singleton.mp ht]; omega, List.pairwise_singleton _ _⟩
section
variable {P : Program} {w : World} {K : PySem.W.Frag} {mg : Str → Option Value} {base : Heap}
theorem law_ok (T : Tp K mg) : ∃ fd, FunD K "law" "law" (defArgs s_law) (defBody s_law) (defScope s_law) [] [] (He.ga K "law") fd ∧ ∀ base : Heap, FnG P w K mg base 8 (He.ga K "law") fd ["_law_script"] (spLaw K) := by
  obtain ⟨fd, F⟩ := T.f_law
  refine ⟨fd, F, fun base => fnG_of F sc_s_law (fun vs H Q E h => ?_) (fun cdv A fr s0 H vs Q gg hr h => ?_)⟩
  · obtain ⟨a, ns, rfl, _⟩ := h
    rfl
  · obtain ⟨a, ns, rfl, hs, hlen, q⟩ := h
    refine ⟨_, (pss_cons (ps_set (i := 1) sc_s_law.nd rfl (.inl rfl) (pcl (cal_bag T) (hr.mono (by decide)) (by rfl) (pa_cons (pv 0) pa_nil)))
      (pss_cons (ps_for PassesOwn.never rfl (pi_range1 (by rfl) T.m_range (pa_cons pe_int pa_nil)) (pg_name (i := 2) sc_s_law.nd rfl (.inl rfl)) (pss_cons (ps_set (i := 3) sc_s_law.nd rfl (.inl rfl) (pe_op op_add pe_int (pcl (cal_take T) (hr.mono (by decide)) (by rfl) (pa_cons (pv 1) (pa_cons (pe_ix ix_list (pe_lst (pa_cons pe_int (pa_cons pe_int (pa_cons pe_int pa_nil)))) (pv 2) (fun _ _ => rfl)) pa_nil)))))
      (pss_cons (ps_set (i := 4) sc_s_law.nd rfl (.inl rfl) (pcl (cal_mixed T) (hr.mono (by decide)) (by rfl) (pa_cons (pv 1) (pa_cons (pe_listRg rfl (by rfl) T.m_list (prg_1 (by rfl) T.m_range (pv 3))) pa_nil))))
      (pss_cons (ps_set (i := 5) sc_s_law.nd rfl (.inl rfl) (pci (cal_init T) (hr.mono (by decide)) (by rfl) T.g_Pairs (pa_cons (pv 3) (pa_cons (pe_op op_add pe_int (pcl (cal_take T) (hr.mono (by decide)) (by rfl) (pa_cons (pv 1) (pa_cons (pv 3) pa_nil)))) (pa_cons (pv 4) pa_nil)))))
      (pss_cons (ps_set (i := 6) sc_s_law.nd rfl (.inl rfl) (pcl (cal_lines T) (hr.mono (by decide)) (by rfl) (pa_cons (pv 1) (pa_cons (pv 3) (pa_cons (pe_op op_add pe_int (pcl (cal_take T) (hr.mono (by decide)) (by rfl) (pa_cons (pv 1) (pa_cons pe_int pa_nil)))) (pa_cons pe_int pa_nil))))))
      (pss_cons (ps_if (pt_cmpR op_eq (pcl (cal_take T) (hr.mono (by decide)) (by rfl) (pa_cons (pv 1) (pa_cons pe_int pa_nil))) pe_int (nomark _)) (pss_one (ps_expr (pe_bm PySem.F.plainAttrs_list PySem.F.slot_list_append PySem.F.type_list_append mt_append (pv 6) (pa_cons (pe_tup (pa_cons (pe_tup (pa_cons (pe_op op_add pe_int (pcl (cal_take T) (hr.mono (by decide)) (by rfl) (pa_cons (pv 1) (pa_cons (pe_op op_sub (pe_op op_shl pe_int (pv 3)) pe_int) pa_nil)))) pa_nil)) (pa_cons (pe_op op_add pe_int (pcl (cal_take T) (hr.mono (by decide)) (by rfl) (pa_cons (pv 1) (pa_cons pe_int pa_nil)))) pa_nil))) pa_nil)))) pss_nil)
      (pss_cons (ps_set (i := 7) sc_s_law.nd rfl (.inl rfl) (pcl (cal_together T) (hr.mono (by decide)) (by rfl) (pa_cons (pv 6) pa_nil)))
      (pss_cons (ps_if (PW.pt (pw_or (pt_not (pt_val (pcl (cal_set_first T) (hr.mono (by decide)) (by rfl) (pa_cons (pci (cal_init T) (hr.mono (by decide)) (by rfl) T.g_Pairs (pa_cons (pv 3) (pa_cons (pv 3) (pa_cons (pv 4) pa_nil)))) (pa_cons (pv 7) (pa_cons (pv 3) pa_nil)))))) (pw_or1 (pt_not (pt_val (pcg (cal_seats_right T) gg (hr.mono (by decide)) (by rfl) (pa_cons (pv 7) (pa_cons (pv 3) (pa_cons (pv 4) pa_nil))))))))) (pss_one (ps_ret pe_bl)) pss_nil)
      (pss_cons (ps_if (PW.pt (pw_or (pt_not (pt_val (pcg (cal_turned_right T) gg (hr.mono (by decide)) (by rfl) (pa_cons (pv 5) (pa_cons (pv 7) (pa_cons (pv 3) pa_nil)))))) (pw_or1 (pt_not (pt_val (pcl (cal_raised_right T) (hr.mono (by decide)) (by rfl) (pa_cons (pv 1) (pa_cons (pv 5) (pa_cons (pv 7) (pa_cons (pv 3) pa_nil)))))))))) (pss_one (ps_ret pe_bl)) pss_nil)
      (pss_one (ps_if (PW.pt (pw_or (pt_cmpR op_ne (pcm (cal_unbeaten T) T.cl (hr.mono (by decide)) (pv 5) (pa_cons (pe_lst pa_nil) pa_nil)) (pe_op op_sub (pe_op op_shl pe_int (pv 3)) pe_int) (nomark _)) (pw_or1 (pt_cmpR (op_neD hr.units) (pe_ix ix_tup (pcm (cal_counted T) T.cl (hr.mono (by decide)) (pci (cal_init T) (hr.mono (by decide)) (by rfl) T.g_Pairs (pa_cons (pv 3) (pa_cons (pv 3) (pa_cons (pv 4) pa_nil)))) (pa_cons (pe_lst pa_nil) pa_nil)) pe_int (fun _ _ => rfl)) (pv 4) (nomark _))))) (pss_one (ps_ret pe_bl)) pss_nil)))))))))))
      (pss_one (ps_ret pe_bl)))), ?_⟩
    refine ⟨_, rfl, a, ns, rfl, hs, hlen, fun H1 b cl s1 hb1 => ?_⟩
    refine ⟨((3 : Nat) : Int), rfl, by decide, by decide, for_rg (n := 3) (fun t σ H' => ∃ y2 y3 y4 y5 y6 y7, σ = [some (.ref a), some (.ref b), y2, y3, y4, y5, y6, y7] ∧ BagAt cl H' b) ⟨_, _, _, _, _, _, rfl, hb1⟩ ?_ ?_⟩
    · rintro t σ H' ht ⟨y2, y3, y4, y5, y6, y7, rfl, hb⟩
      obtain ⟨m, hm, m2, m4⟩ := turn_at t ht
      -- hands
      refine ⟨_, rfl, sz (n := 3) (by omega), fun l nl => ⟨_, rfl, l, _, _, .int (m : Int), rfl, rfl, SqL.of upd_same, atI_nat hm, cl, b, m, rfl, hb.same (same_upd nl), by omega, by omega, fun H2 r hr2 hb2 sb2 => ⟨_, _, rfl, rfl, ?_⟩⟩⟩
      dsimp only
      rw [show (2 : Int) + (r : Int) = ((2 + r : Nat) : Int) from rfl]
      obtain ⟨n, en⟩ : ∃ n, n = 2 + r := ⟨_, rfl⟩
      rw [← en]
      have hn2 : 2 ≤ n := by omega
      have hn : n ≤ 5 := by omega
      have hp32 := pow32 hn
      have hp4 : 4 ≤ 2 ^ n := Nat.pow_le_pow_right (n := 2) (by decide) hn2
      -- lots
      refine ⟨_, rfl, _, rfl, (n : Int), rfl, .of_le (by omega) (by omega) (by omega) (by omega), fun u nu => ⟨cl, b, u, List.range n, rfl, hb2.same (same_upd nu), by rw [upd_same, rgV_nat], hb2.new nu, by rw [List.length_range]; omega, fun H3 lo ns' hperm hb3 sb3 nlo hlo => ?_⟩⟩
      have hlen' := perm_len hperm
      have hlt := natV_lt hperm
      -- way
      refine ⟨_, rfl, _, rfl, _, rfl, cl, b, n, rfl, hb3, by omega, by omega, fun H4 r2 hr4 hb4 sb4 => ⟨_, _, rfl, rfl, _, rfl, fun x dx nx ndx ne => make_ok (n := n) (s := 1 + r2) (a := lo) (ns := ns') nx ndx ne (by omega) hn (by omega) (by omega) (natAt.but sb4 hb3 hlo) hperm fun H5 s5 hway => ?_⟩⟩
      have hlo5 := s5 _ _ (natAt.but sb4 hb3 hlo)
      have hb5 := hb4.same s5
      -- lines
      refine ⟨_, rfl, _, rfl, _, rfl, cl, b, 6, rfl, hb5, by omega, by omega, fun H6 r6 hr6 hb6 sb6 => ⟨_, _, rfl, rfl, cl, b, n, 1 + r6, 9, rfl, hb6, hn2, hn, by omega, by omega, by omega, fun H7 li L hok hL6 hb7 sb7 nli nbli hL => ?_⟩⟩
      have hway6 := hway.but sb6 hb5
      have hlo6 := natAt.but sb6 hb5 hlo5
      -- one more line
      refine ⟨_, rfl, cl, b, 2, rfl, hb7, by omega, by omega, fun H8 r8 hr8 hb8 sb8 => ⟨rfl, _, rfl, ite2 (fun c => ?thn) (fun c => ?els)⟩⟩
      case' thn =>
        have e2 : (1 : Int) * 2 ^ (n : Int).toNat - 2 = ((2 ^ n - 2 : Nat) : Int) := by rw [shl_nat]; omega
        have hL8 := hL.but sb8 hb7
        obtain ⟨vs, hli, hP⟩ := hL8
        refine ⟨_, rfl, .inl ⟨rfl, _, SqL.of hli⟩, ?_⟩
        refine ⟨_, rfl, _, rfl, _, _, rfl, rfl, ⟨by omega, by omega, by decide⟩, _, _, rfl, rfl, cl, b, 2 ^ n - 2, by show [V.ref b, V.int (1 * 2 ^ (n : Int).toNat - 2)] = _; rw [e2], hb8, by omega, by omega, fun H9 r9 hr9 hb9 sb9 => ?_⟩
        refine ⟨_, _, rfl, rfl, sz (n := 1) (by omega), fun t nt => ⟨_, rfl, cl, b, 20, rfl, hb9.same (same_upd nt), by omega, by omega, fun H10 r10 hr10 hb10 sb10 => ⟨_, _, rfl, rfl, sz (n := 2) (by omega), fun p np => ?_⟩⟩⟩
        have st : Same H9 (upd H9 t (.tup [.int (1 + (r9 : Int))])) := same_upd nt
        have sp : Same H10 (upd H10 p (.tup [.ref t, .int (1 + (r10 : Int))])) := same_upd np
        have hbt := hb9.same st
        have htb : TupAt H10 t [1 + r9] := sb10 _ _ (show TupAt _ t [1 + r9] from upd_same) (by
          obtain ⟨xs, hx⟩ := hbt.lst
          exact ne_of upd_same hx (by intro e; cases e))
        have sball := ((sb9.trans (SameBut.of (b := b) st)).trans sb10).trans (SameBut.of (b := b) sp)
        have hliP := sball _ _ hli nbli
        have hPl := Paired.mapP hP fun v l x => LineAt.but sball hb8.lst x
        have ptD : p ≠ li := ne_of upd_same hliP (by intro e; cases e)
        have htp := sp _ _ htb
        have ttD : t ≠ li := ne_of htp hliP (by intro e; cases e)
        refine ⟨li, _, _, rfl, rfl, hliP, by rw [paired_len hP]; exact small1000 (by omega), ?_⟩
        have hLx : LinesAt (upd (upd H10 p (.tup [.ref t, .int (1 + (r10 : Int))])) li (.lst (vs ++ [.ref p]))) li (L ++ [([1 + r9], 1 + (r10 : Int))]) :=
          ⟨_, upd_same, paired_snoc (Paired.mapP hPl fun v l x => x.but sameBut_upd ⟨_, hliP⟩) ⟨p, t, rfl, by rw [upd_ne ptD, upd_same], by unfold TupAt; rw [upd_ne ttD]; exact htp⟩⟩
        obtain ⟨Lx, hLx, hokx, hlx⟩ : ∃ Lx, LinesAt (upd (upd H10 p (.tup [.ref t, .int (1 + (r10 : Int))])) li (.lst (vs ++ [.ref p]))) li Lx ∧ LinesOk n Lx ∧ Lx.length ≤ 8 := ⟨_, hLx, fun z hz => by
          rcases List.mem_append.mp hz with h | h
          · exact hok z h
          · rw [List.mem_singleton.mp h]
            exact ⟨one_mask hr9, by show (0 : Int) ≤ 1 + (r10 : Int); omega⟩, by rw [List.length_append, List.length_singleton]; omega⟩
        have sbx := ((sb7.trans sb8).trans sball).updN (o := .lst (vs ++ [.ref p])) nli
        have hbx := hb6.updN (o := .lst (vs ++ [.ref p])) (hb10.same sp) nli
      case' els =>
        have hLx := hL.but sb8 hb7
        obtain ⟨Lx, hLx, hokx, hlx⟩ : ∃ Lx, LinesAt H8 li Lx ∧ LinesOk n Lx ∧ Lx.length ≤ 8 := ⟨L, hLx, hok, by omega⟩
        have sbx := sb7.trans sb8
        have hbx := hb8
      all_goals
        -- sheet
        refine ⟨_, rfl, li, Lx, rfl, hLx, by omega, fun H11 sh L' tog s11 nsh hL' => ?_⟩
        have okL' := tog.ok n hokx
        have hlL' := tog.len
        have hb11 := hbx.same s11
        have hway11 := (hway6.but sbx hb6).same s11
        have hlo11 := s11 _ _ (natAt.but sbx hb6 hlo6)
        -- set_first, seats_right
        refine ⟨_, rfl, _, rfl, _, rfl, fun x2 dx2 nx2 ndx2 ne2 => make_ok (n := n) (s := n) (a := lo) (ns := ns') nx2 ndx2 ne2 (by omega) hn (by omega) (by omega) hlo11 hperm fun H12 s12 hway12 => ?_⟩
        refine ⟨_, rfl, _, rfl, x2, sh, n, ns', L', rfl, hway12, hL'.same s12, hn2, hn, hperm, fun H13 s13 => ⟨_, rfl, iteF' ?_⟩⟩
        have s113 := s12.trans s13
        refine ⟨_, rfl, _, rfl, _, rfl, sh, lo, n, ns', L', rfl, s113 _ _ hlo11, hL'.same s113, hn2, hn, hperm, fun H14 s14 => ⟨_, rfl, ite2 (fun c => absurd c (by decide)) (fun _ => ?_)⟩⟩
        have s114 := s113.trans s14
        -- turned_right, raised_right
        refine ⟨_, rfl, _, rfl, _, rfl, x, sh, n, 1 + r2, ns', L', rfl, hway11.same s114, hL'.same s114, okL', by omega, hn2, hn, fun H15 s15 => ⟨_, rfl, iteF' ?_⟩⟩
        have s115 := s114.trans s15
        have hb15 := hb11.same s115
        refine ⟨_, rfl, _, rfl, _, rfl, _, rfl, cl, b, x, sh, n, 1 + r2, ns', L', rfl, hb15, hway11.same s115, hL'.same s115, okL', by omega, hn2, hn, fun H16 hb16 sb16 => ⟨_, rfl, ite2 (fun c => absurd c (by decide)) (fun _ => ?_)⟩⟩
        have hlo16 := natAt.but sb16 hb15 (s115 _ _ hlo11)
        obtain ⟨dz, lz, hw16, hl16⟩ := (hway11.same s115).but sb16 hb15
        -- way.unbeaten([])
        refine ⟨_, rfl, x, _, _, rfl, hw16, wf_no n (1 + r2) lz (by decide +kernel) (by decide +kernel) (by decide +kernel), by decide, fun e ne => ?_⟩
        have se := same_upd (o := .lst []) ne
        refine ⟨x, e, n, 1 + r2, ns', [], rfl, ⟨dz, lz, se _ _ hw16, se _ _ hl16⟩, ⟨[], upd_same, .nil⟩, hn, fun H17 mk s17 hmk hbit => ?_⟩
        refine ⟨_, rfl, _, _, rfl, rfl, ⟨by omega, by omega, by decide⟩, _, _, rfl, rfl, rfl, _, rfl, ite2 (fun c => ?_) (fun _ => ?_)⟩
        · have e3 : (1 : Int) * 2 ^ (n : Int).toNat - 1 = ((2 ^ n - 1 : Nat) : Int) := by rw [shl_nat]; omega
          have c2 : (!decide (V.int (mk : Int) = V.int (1 * 2 ^ (n : Int).toNat - 1))) = true := c
          rw [e3, all_bits hbit, decide_eq_true rfl] at c2
          exact absurd c2 (by decide)
        have hlo17 := (se.trans s17) _ _ hlo16
        have hb17 := hb16.same (se.trans s17)
        -- Pairs(..).counted([])
        refine ⟨_, rfl, _, rfl, _, rfl, fun x3 dx3 nx3 ndx3 ne3 => make_ok (n := n) (s := n) (a := lo) (ns := ns') nx3 ndx3 ne3 (by omega) hn (by omega) (by omega) hlo17 hperm fun H18 s18 hway18 => ?_⟩
        obtain ⟨dv, lv, hw18, hl18⟩ := hway18
        refine ⟨x3, _, _, rfl, hw18, wf_no n n lv (by decide +kernel) (by decide +kernel) (by decide +kernel), by decide, fun e4 ne4 => ?_⟩
        have se4 := same_upd (o := .lst []) ne4
        refine ⟨x3, e4, n, n, ns', [], rfl, ⟨dv, lv, se4 _ _ hw18, se4 _ _ hl18⟩, ⟨[], upd_same, .nil⟩, hn, hlen', hlt, fun H19 p3 u3 v3 q3 s19 h191 h192 => ?_⟩
        have s179 := s18.trans (se4.trans s19)
        have epk : picks (S n []) ns' (min n n) = ns' := by
          rw [Nat.min_self]
          have := picks_zero (S_nil n) ns'
          rwa [hlen'] at this
        rw [epk] at h192
        refine ⟨p3, _, 2, .ref q3, rfl, rfl, SqT.of h191, atI_nat (j := 2) rfl, _, rfl, _, _, dp_nat h192, dp_nat (s179 _ _ hlo17), shaped_int _, shaped_int _, _, rfl, ite2 (fun c => ?_) (fun _ => ?_)⟩
        · rw [eqv_int, decide_eq_true rfl] at c
          exact absurd c (by decide)
        · exact ⟨_, _, _, _, _, _, rfl, hb17.same s179⟩
    · rintro σ H' ⟨y2, y3, y4, y5, y6, y7, rfl, hb⟩
      exact q H'
end
end Wp
end
section
set_option Elab.async false
set_option linter.all false
set_option maxRecDepth 100000
set_option maxHeartbeats 4000000
open PySem PySem.W PySem.Calls PyProof.Rows
theorem PySem.Challenge.cw_wholepoll_k56_whole_pairs_kept_holds : PySem.Challenge.rw_wholepoll_k56_whole_pairs_kept.Holds := by
  refine hd_k56 (Wp.walk_ofG (l := PySem.Challenge.rw_wholepoll_k56_whole_pairs_kept) (n := 63) (k := 8) (x := "_law_script") rfl (by decide) (by kernel_rfl) ⟨rfl, by decide, by decide⟩ ?F)
  intro w mg fa h Y G hmg0
  obtain ⟨K, KX, c⟩ := Y
  have hmg : mg ("law" : PySem.Str) = some (.ref fa) := by
    have e : (HandSHeadRun.topDef Wp.Rw.prog 42).name = ("law" : PySem.Str) := by kernel_rfl
    rw [← e]
    exact hmg0
  have T := Wp.tp_of KX G c
  have e := hmg.symm.trans T.g_law
  cases e
  obtain ⟨fd, F, hF⟩ := Wp.law_ok (P := (PySem.Challenge.rw_wholepoll_k56_whole_pairs_kept).prog) (w := w) T
  have b := L2.FunD.bindsA (ps := ["_law_script"]) F fun _ _ _ _ _ _ us hl => match us, hl with | [_], _ => rfl
  exact ⟨K, fd, Wp.spLaw K, KX, fun s v => b s [v] rfl, fun H a ns hl _ hS => ⟨a, ns, rfl, hS, hl, fun _ => rfl⟩, fun base _ _ => hF base⟩
end
