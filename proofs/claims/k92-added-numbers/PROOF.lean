import PyProof.Rows.All
import Wide.All
import OpenK.AllK
import Wide.FinOn
import HandS.ForMost
import HandS.ForExc
import HandS.Strs
import HandS.SetBool
import KE.KDictKeyed
import HandS.ExcInit
import KE.KExcInit
import HandS.Property
import HandS.Defaults
import HandS.Style
import HandS.IsInst
import PySem.Challenge.RW_beanjars_k92_whole_added_numbers_of_bean
set_option Elab.async false
set_option linter.all false
set_option maxRecDepth 100000
set_option maxHeartbeats 4000000
/-! Beanjars, one colour: plain mathematics, no program in sight. -/
namespace Bj
open Classical

/-- a colour at a place -/
def cell (rows : List (List Nat)) (a b : Nat) : Nat := (rows.getD a []).getD b 0
/-- a table of k colours -/
structure Tab (k : Nat) (rows : List (List Nat)) : Prop where
  len : rows.length = k
  pos : 1 ≤ k
  le8 : k ≤ 8
  row : ∀ r ∈ rows, r.length = k
  col : ∀ a b, a < k → b < k → cell rows a b < k
  sym : ∀ a b, a < k → b < k → cell rows a b = cell rows b a

/-- x is a possible last bean of n beans of colour c -/
inductive Poss (f : Nat → Nat → Nat) (c : Nat) : Nat → Nat → Prop
  | one : Poss f c 1 c
  | mul {i j a b : Nat} : Poss f c i a → Poss f c j b → Poss f c (i + j) (f a b)

theorem Poss.pos {f c n x} (h : Poss f c n x) : 1 ≤ n := by
  induction h with
  | one => exact Nat.le_refl _
  | mul _ _ i1 i2 => omega

theorem Poss.lt {k rows c n x} (T : Tab k rows) (hc : c < k) (h : Poss (cell rows) c n x) : x < k := by
  induction h with
  | one => exact hc
  | mul _ _ i1 i2 => exact T.col _ _ i1 i2

/-- the set as a rising list -/
noncomputable def S (rows : List (List Nat)) (c n : Nat) : List Nat := (List.range 8).filter fun x => decide (Poss (cell rows) c n x)
def prodL (rows : List (List Nat)) (A B : List Nat) : List Nat := (List.range 8).filter fun x => A.any fun a => B.any fun b => cell rows a b == x
def unionL (ls : List (List Nat)) : List Nat := (List.range 8).filter fun x => ls.any fun l => l.contains x

theorem mem_S {k rows c n x} (T : Tab k rows) (hc : c < k) : x ∈ S rows c n ↔ Poss (cell rows) c n x := by
  unfold S
  rw [List.mem_filter, List.mem_range, decide_eq_true_eq]
  exact ⟨fun h => h.2, fun h => ⟨Nat.lt_of_lt_of_le (h.lt T hc) T.le8, h⟩⟩
theorem S_lt {k rows c n x} (T : Tab k rows) (hc : c < k) (h : x ∈ S rows c n) : x < k := ((mem_S T hc).1 h).lt T hc
theorem S_len (rows : List (List Nat)) (c n : Nat) : (S rows c n).length ≤ 8 := by
  unfold S
  exact Nat.le_trans (List.length_filter_le _ _) (by simp)
theorem mem_prodL {k rows A B x} (T : Tab k rows) (hA : ∀ a ∈ A, a < k) (hB : ∀ b ∈ B, b < k) : x ∈ prodL rows A B ↔ ∃ a ∈ A, ∃ b ∈ B, cell rows a b = x := by
  unfold prodL
  rw [List.mem_filter, List.mem_range]
  simp only [List.any_eq_true, beq_iff_eq]
  constructor
  · exact fun h => h.2
  · rintro ⟨a, ha, b, hb, e⟩
    exact ⟨e ▸ Nat.lt_of_lt_of_le (T.col a b (hA a ha) (hB b hb)) T.le8, a, ha, b, hb, e⟩
theorem mem_unionL {ls : List (List Nat)} {x} (h8 : ∀ l ∈ ls, ∀ y ∈ l, y < 8) : x ∈ unionL ls ↔ ∃ l ∈ ls, x ∈ l := by
  unfold unionL
  rw [List.mem_filter, List.mem_range]
  simp only [List.any_eq_true, List.contains_iff_mem]
  exact ⟨fun h => h.2, fun ⟨l, hl, hx⟩ => ⟨h8 l hl x hx, l, hl, hx⟩⟩
theorem prodL_lt {k rows A B x} (T : Tab k rows) (hA : ∀ a ∈ A, a < k) (hB : ∀ b ∈ B, b < k) (h : x ∈ prodL rows A B) : x < k := by
  obtain ⟨a, ha, b, hb, e⟩ := (mem_prodL T hA hB).1 h
  exact e ▸ T.col a b (hA a ha) (hB b hb)
/-- two filters of one range with the same members are one -/
theorem filt_ext {p q : Nat → Bool} (h : ∀ x, x < 8 → p x = q x) : (List.range 8).filter p = (List.range 8).filter q :=
  List.filter_congr fun x hx => h x (List.mem_range.mp hx)
theorem rising_filt (p : Nat → Bool) : ((List.range 8).filter p).Pairwise (· < ·) := (List.pairwise_lt_range).sublist List.filter_sublist
/-- two rising lists with the same members are one -/
theorem rising_ext : ∀ {l m : List Int}, l.Pairwise (· < ·) → m.Pairwise (· < ·) → (∀ x, x ∈ l ↔ x ∈ m) → l = m
  | [], [], _, _, _ => rfl
  | [], b :: m, _, _, h => absurd ((h b).2 (List.mem_cons_self ..)) (by simp)
  | a :: l, [], _, _, h => absurd ((h a).1 (List.mem_cons_self ..)) (by simp)
  | a :: l, b :: m, hl, hm, h => by
    obtain ⟨h1, h2⟩ := List.pairwise_cons.mp hl
    obtain ⟨g1, g2⟩ := List.pairwise_cons.mp hm
    have e : a = b := by
      rcases List.mem_cons.mp ((h a).1 (List.mem_cons_self ..)) with e | e
      · exact e
      · rcases List.mem_cons.mp ((h b).2 (List.mem_cons_self ..)) with e' | e'
        · exact e'.symm
        · have := h1 b e'
          have := g1 a e
          omega
    subst e
    rw [rising_ext h2 g2 fun x => ?_]
    constructor
    · intro hx
      rcases List.mem_cons.mp ((h x).1 (List.mem_cons_of_mem _ hx)) with e | e
      · have := h1 x hx; omega
      · exact e
    · intro hx
      rcases List.mem_cons.mp ((h x).2 (List.mem_cons_of_mem _ hx)) with e | e
      · have := g1 x hx; omega
      · exact e
/-- nats as the values' toI -/
def toI (l : List Nat) : List Int := l.map fun (x : Nat) => (x : Int)
theorem rising_ints {l : List Nat} (h : l.Pairwise (· < ·)) : (toI l).Pairwise (· < ·) := by
  unfold toI
  rw [List.pairwise_map]
  exact h.imp fun h => by omega
theorem mem_ints {l : List Nat} {z : Int} : z ∈ toI l ↔ ∃ x ∈ l, (x : Int) = z := by
  unfold toI
  rw [List.mem_map]
/-- what sorted gives of a set with the members of l -/
theorem sorted_is {ns : List Int} {p : Nat → Bool} (h : ns.Pairwise (· < ·)) (hm : ∀ z, z ∈ ns ↔ ∃ x ∈ (List.range 8).filter p, (x : Int) = z) : ns = toI ((List.range 8).filter p) :=
  rising_ext h (rising_ints (rising_filt p)) fun z => (hm z).trans mem_ints.symm

/-! ### the numbers of beans -/
theorem S_zero {rows c} : S rows c 0 = [] := by
  unfold S
  rw [List.filter_eq_nil_iff]
  intro x _ h
  have := (decide_eq_true_eq.mp h).pos
  omega
theorem poss_one {f : Nat → Nat → Nat} {c n x : Nat} (h : Poss f c n x) (hn : n = 1) : x = c := by
  cases h with
  | one => rfl
  | mul h1 h2 =>
    have := h1.pos
    have := h2.pos
    omega
theorem S_one {k rows c} (T : Tab k rows) (hc : c < k) : S rows c 1 = [c] := by
  have e : S rows c 1 = (List.range 8).filter fun x => x == c := by
    unfold S
    refine filt_ext fun x _ => ?_
    rw [Bool.eq_iff_iff, decide_eq_true_eq, beq_iff_eq]
    exact ⟨fun h => poss_one h rfl, fun e => e ▸ .one⟩
  rw [e]
  have h8 : c < 8 := Nat.lt_of_lt_of_le hc T.le8
  have : ∀ c, c < 8 → ((List.range 8).filter fun x => x == c) = [c] := by decide
  exact this c h8
theorem poss_split {f : Nat → Nat → Nat} {c n x : Nat} (h : Poss f c n x) (hn : 2 ≤ n) : ∃ i j a b, i + j = n ∧ Poss f c i a ∧ Poss f c j b ∧ f a b = x := by
  cases h with
  | one => omega
  | mul h1 h2 => exact ⟨_, _, _, _, rfl, h1, h2, rfl⟩
/-- the products that the program joins: parts 1 .. n / 2 -/
noncomputable def parts (rows : List (List Nat)) (c n : Nat) : List (List Nat) := (List.range (n / 2)).map fun i => prodL rows (S rows c (i + 1)) (S rows c (n - (i + 1)))
theorem S_step {k rows c n} (T : Tab k rows) (hc : c < k) (hn : 2 ≤ n) : S rows c n = unionL (parts rows c n) := by
  have hS : ∀ m, ∀ a ∈ S rows c m, a < k := fun m a h => S_lt T hc h
  have h8 : ∀ l ∈ parts rows c n, ∀ y ∈ l, y < 8 := by
    intro l hl y hy
    obtain ⟨i, _, rfl⟩ := List.mem_map.mp hl
    exact Nat.lt_of_lt_of_le (prodL_lt T (hS _) (hS _) hy) T.le8
  have key : ∀ x, Poss (cell rows) c n x ↔ x ∈ unionL (parts rows c n) := by
    intro x
    rw [mem_unionL h8]
    constructor
    · intro h
      obtain ⟨i, j, a, b, e, h1, h2, hx⟩ := poss_split h hn
      have p1 := h1.pos
      have p2 := h2.pos
      by_cases hij : i ≤ j
      · refine ⟨_, List.mem_map.mpr ⟨i - 1, List.mem_range.mpr (by omega), rfl⟩, ?_⟩
        have e1 : i - 1 + 1 = i := by omega
        have e2 : n - i = j := by omega
        rw [e1, e2]
        exact (mem_prodL T (hS _) (hS _)).2 ⟨a, (mem_S T hc).2 h1, b, (mem_S T hc).2 h2, hx⟩
      · refine ⟨_, List.mem_map.mpr ⟨j - 1, List.mem_range.mpr (by omega), rfl⟩, ?_⟩
        have e1 : j - 1 + 1 = j := by omega
        have e2 : n - j = i := by omega
        rw [e1, e2]
        exact (mem_prodL T (hS _) (hS _)).2 ⟨b, (mem_S T hc).2 h2, a, (mem_S T hc).2 h1, (T.sym _ _ (h2.lt T hc) (h1.lt T hc)).trans hx⟩
    · rintro ⟨l, hl, hx⟩
      obtain ⟨i, hi, rfl⟩ := List.mem_map.mp hl
      obtain ⟨a, ha, b, hb, e⟩ := (mem_prodL T (hS _) (hS _)).1 hx
      have hi := List.mem_range.mp hi
      have h := Poss.mul ((mem_S T hc).1 ha) ((mem_S T hc).1 hb)
      have e2 : i + 1 + (n - (i + 1)) = n := by omega
      rw [e2, e] at h
      exact h
  have e1 : S rows c n = (List.range 8).filter fun x => decide (x ∈ unionL (parts rows c n)) := by
    unfold S
    refine filt_ext fun x hx => ?_
    rw [Bool.eq_iff_iff, decide_eq_true_eq, decide_eq_true_eq]
    exact key x
  rw [e1]
  conv => rhs; unfold unionL
  refine filt_ext fun x hx => ?_
  rw [Bool.eq_iff_iff, decide_eq_true_eq]
  unfold unionL
  rw [List.mem_filter, List.mem_range]
  exact ⟨fun h => h.2, fun h => ⟨hx, h⟩⟩

/-! ### the period -/
def startFrom (Z : Nat → List Nat) (p : Nat) : Nat → Nat
  | 0 => 0
  | 1 => 1
  | s + 2 => if Z (s + 1) = Z (s + 1 + p) then startFrom Z p (s + 1) else s + 2
theorem startFrom_spec (Z : Nat → List Nat) (p : Nat) : ∀ s, 1 ≤ s → 1 ≤ startFrom Z p s ∧ startFrom Z p s ≤ s ∧ ∀ n, startFrom Z p s ≤ n → n < s → Z n = Z (n + p)
  | 0, h => by omega
  | 1, _ => ⟨Nat.le_refl _, Nat.le_refl _, fun n h1 h2 => by unfold startFrom at h1; omega⟩
  | s + 2, _ => by
    obtain ⟨i1, i2, i3⟩ := startFrom_spec Z p (s + 1) (by omega)
    unfold startFrom
    by_cases h : Z (s + 1) = Z (s + 1 + p)
    · rw [if_pos h]
      refine ⟨i1, by omega, fun n h1 h2 => ?_⟩
      by_cases e : n = s + 1
      · subst e; exact h
      · exact i3 n h1 (by omega)
    · rw [if_neg h]
      exact ⟨by omega, Nat.le_refl _, fun n h1 h2 => by omega⟩
/-- one length is tried -/
def tryLen (Z : Nat → List Nat) (most i : Nat) : Option (Nat × Nat) := if startFrom Z (i + 1) (2 * most + 1 - (i + 1)) + (i + 1) ≤ most then some (startFrom Z (i + 1) (2 * most + 1 - (i + 1)), i + 1) else none
def perOf (Z : Nat → List Nat) (most : Nat) : Option (Nat × Nat) := (List.range (most - 1)).findSome? (tryLen Z most)
theorem findSome_range {β : Type} (g : Nat → Option β) : ∀ n i, i < n → (∀ j, j < i → g j = none) → ∀ r, g i = some r → (List.range n).findSome? g = some r := by
  intro n i hi hno r hr
  have key : ∀ m s, s ≤ i → i < s + m → (List.range' s m).findSome? g = some r := by
    intro m
    induction m with
    | zero => intro s h1 h2; omega
    | succ m ih =>
      intro s h1 h2
      rw [List.range'_succ, List.findSome?_cons]
      by_cases e : s = i
      · subst e; rw [hr]
      · rw [hno s (by omega)]
        exact ih (s + 1) (by omega) (by omega)
  rw [List.range_eq_range']
  exact key n 0 (Nat.zero_le _) (by omega)
theorem findSome_none {β : Type} (g : Nat → Option β) (n : Nat) (hno : ∀ j, j < n → g j = none) : (List.range n).findSome? g = none :=
  List.findSome?_eq_none_iff.mpr fun x hx => hno x (List.mem_range.mp hx)
theorem perOf_found {Z most i r} (hi : i + 1 < most) (hno : ∀ j, j < i → tryLen Z most j = none) (hr : tryLen Z most i = some r) : perOf Z most = some r := findSome_range _ _ i (by omega) hno r hr
theorem perOf_none {Z most} (hno : ∀ j, j < most - 1 → tryLen Z most j = none) : perOf Z most = none := findSome_none _ _ hno
structure Per (Z : Nat → List Nat) (most st p : Nat) : Prop where
  st1 : 1 ≤ st
  p1 : 1 ≤ p
  le : st + p ≤ most
  eq : ∀ n, st ≤ n → n + p ≤ 2 * most → Z n = Z (n + p)
theorem perOf_spec {Z most st p} (h : perOf Z most = some (st, p)) : Per Z most st p := by
  obtain ⟨i, hi, e⟩ := List.exists_of_findSome?_eq_some h
  have hi := List.mem_range.mp hi
  unfold tryLen at e
  split at e
  · rename_i hle
    injection e with e
    injection e with e1 e2
    obtain ⟨a1, a2, a3⟩ := startFrom_spec Z (i + 1) (2 * most + 1 - (i + 1)) (by omega)
    rw [e1] at a1 a2 a3 hle
    subst e2
    exact ⟨a1, by omega, by omega, fun n h1 h2 => a3 n h1 (by omega)⟩
  · cases e

/-- a finite check is enough -/
theorem periodic {k rows c most st p} (T : Tab k rows) (hc : c < k) (P : Per (S rows c) most st p) : ∀ n, st ≤ n → S rows c n = S rows c (n + p) := by
  have main : ∀ n, st ≤ n → ∀ x, Poss (cell rows) c n x ↔ Poss (cell rows) c (n + p) x := by
    intro n
    induction n using Nat.strongRecOn with
    | ind n ih =>
      intro hn x
      have hst := P.st1
      have hp := P.p1
      by_cases hsmall : n + p ≤ 2 * most
      · rw [← mem_S T hc, ← mem_S T hc, P.eq n hn hsmall]
      · have hle := P.le
        constructor
        · intro h
          obtain ⟨i, j, a, b, e, h1, h2, hx⟩ := poss_split h (by omega)
          have p1 := h1.pos
          have p2 := h2.pos
          by_cases hij : i ≤ j
          · have h3 := (ih j (by omega) (by omega) b).1 h2
            have h4 := Poss.mul h1 h3
            rw [hx] at h4
            have e2 : i + (j + p) = n + p := by omega
            rw [e2] at h4
            exact h4
          · have h3 := (ih i (by omega) (by omega) a).1 h1
            have h4 := Poss.mul h3 h2
            rw [hx] at h4
            have e2 : i + p + j = n + p := by omega
            rw [e2] at h4
            exact h4
        · intro h
          obtain ⟨i, j, a, b, e, h1, h2, hx⟩ := poss_split h (by omega)
          have p1 := h1.pos
          have p2 := h2.pos
          by_cases hij : i ≤ j
          · have e0 : j = (j - p) + p := by omega
            rw [e0] at h2
            have h3 := (ih (j - p) (by omega) (by omega) b).2 h2
            have h4 := Poss.mul h1 h3
            rw [hx] at h4
            have e2 : i + (j - p) = n := by omega
            rw [e2] at h4
            exact h4
          · have e0 : i = (i - p) + p := by omega
            rw [e0] at h1
            have h3 := (ih (i - p) (by omega) (by omega) a).2 h1
            have h4 := Poss.mul h3 h2
            rw [hx] at h4
            have e2 : i - p + j = n := by omega
            rw [e2] at h4
            exact h4
  intro n hn
  unfold S
  refine filt_ext fun x _ => ?_
  rw [Bool.eq_iff_iff, decide_eq_true_eq, decide_eq_true_eq]
  exact main n hn x
theorem periodic_mul {k rows c most st p} (T : Tab k rows) (hc : c < k) (P : Per (S rows c) most st p) (n : Nat) (hn : st ≤ n) : ∀ m, S rows c n = S rows c (n + p * m)
  | 0 => by simp
  | m + 1 => by
    rw [periodic_mul T hc P n hn m, periodic T hc P (n + p * m) (by omega), Nat.mul_succ, Nat.add_assoc]
/-- the small number with the same set -/
def red (n st p : Nat) : Nat := if n < st then n else st + (n - st) % p
theorem red_lt {n st p} (h1 : 1 ≤ p) : red n st p < st + p := by
  unfold red
  split
  · omega
  · have := Nat.mod_lt (n - st) (show 0 < p by omega)
    omega
theorem red_pos {n st p} (hn : 1 ≤ n) (h1 : 1 ≤ st) : 1 ≤ red n st p := by
  unfold red
  split <;> omega
theorem S_red {k rows c most st p} (T : Tab k rows) (hc : c < k) (P : Per (S rows c) most st p) (n : Nat) : S rows c (red n st p) = S rows c n := by
  unfold red
  split
  · rfl
  · rename_i h
    rw [periodic_mul T hc P (st + (n - st) % p) (by omega) ((n - st) / p)]
    have := Nat.mod_add_div (n - st) p
    have e : st + (n - st) % p + p * ((n - st) / p) = n := by omega
    rw [e]

/-! ### counting -/
/-- the numbers below st + p that lead to x -/
noncomputable def lead (Z : Nat → List Nat) (st p x : Nat) : List Nat := (List.range' 1 (st + p - 1)).filter fun n => (Z n).contains x
def cntL (st p h : Nat) (l : List Nat) : Nat := (l.filter fun n => decide (n < st) && decide (n ≤ h)).length + ((l.filter fun n => decide (st ≤ n) && decide (n ≤ h)).map fun n => (h - n) / p + 1).sum
/-- what one number gives -/
def give (st p h n : Nat) : Nat := if n < st then (if n ≤ h then 1 else 0) else if n ≤ h then (h - n) / p + 1 else 0
theorem cntL_eq (st p h : Nat) : ∀ l, cntL st p h l = (l.map (give st p h)).sum
  | [] => rfl
  | n :: l => by
    have ih := cntL_eq st p h l
    have e : give st p h n = if n < st then (if n ≤ h then 1 else 0) else if n ≤ h then (h - n) / p + 1 else 0 := rfl
    unfold cntL at ih ⊢
    simp only [List.filter_cons, List.map_cons, List.sum_cons]
    rw [e]
    by_cases h1 : n < st <;> by_cases h2 : n ≤ h
    · have h3 : ¬ st ≤ n := by omega
      simp [h1, h2, h3] at *
      omega
    · have h3 : ¬ st ≤ n := by omega
      simp [h1, h2, h3] at *
      omega
    · have h3 : st ≤ n := by omega
      simp [h1, h2, h3] at *
      omega
    · have h3 : st ≤ n := by omega
      simp [h1, h2, h3] at *
      omega
theorem div_step {p d : Nat} (hp : 1 ≤ p) : (d + 1) / p = d / p + (if (d + 1) % p = 0 then 1 else 0) := by
  have e1 := Nat.div_add_mod d p
  have e2 := Nat.div_add_mod (d + 1) p
  have l1 := Nat.mod_lt d (show 0 < p by omega)
  have l2 := Nat.mod_lt (d + 1) (show 0 < p by omega)
  by_cases h : (d + 1) % p = 0
  · rw [if_pos h]
    have hd : p ∣ d + 1 := Nat.dvd_of_mod_eq_zero h
    exact Nat.succ_div_of_dvd hd
  · rw [if_neg h]
    have hd : ¬ p ∣ d + 1 := fun z => h (Nat.mod_eq_zero_of_dvd z)
    exact Nat.succ_div_of_not_dvd hd
theorem give_step {st p h n : Nat} (hp : 1 ≤ p) (hs : 1 ≤ st) (hn1 : 1 ≤ n) (hn : n < st + p) : give st p (h + 1) n = give st p h n + (if n = red (h + 1) st p then 1 else 0) := by
  unfold give red
  by_cases h1 : n < st
  · simp only [h1, if_true]
    by_cases h2 : h + 1 < st
    · simp only [h2, if_true]
      by_cases h3 : n ≤ h <;> by_cases h4 : n = h + 1 <;> simp [h3, h4] <;> omega
    · simp only [h2, if_false]
      have h3 : n ≤ h := by omega
      have h4 : n ≤ h + 1 := by omega
      have h5 : ¬ n = st + (h + 1 - st) % p := by omega
      simp [h3, h4, h5]
  · simp only [h1, if_false]
    by_cases h2 : h + 1 < st
    · have h3 : ¬ n ≤ h := by omega
      have h4 : ¬ n ≤ h + 1 := by omega
      have h5 : ¬ n = h + 1 := by omega
      simp [h2, h3, h4, h5]
    · simp only [h2, if_false]
      by_cases h3 : n ≤ h
      · have h4 : n ≤ h + 1 := by omega
        simp only [h3, h4, if_true]
        have e : h + 1 - n = (h - n) + 1 := by omega
        rw [e, div_step hp]
        have hiff : ((h - n + 1) % p = 0) ↔ n = st + (h + 1 - st) % p := by
          have e2 : h + 1 - st = (h - n + 1) + (n - st) := by omega
          rw [e2]
          have hlt : n - st < p := by omega
          constructor
          · intro hz
            rw [Nat.add_mod, hz, Nat.zero_add, Nat.mod_mod, Nat.mod_eq_of_lt hlt]
            omega
          · intro hz
            have hq : ((h - n + 1) + (n - st)) % p = n - st := by omega
            have hd : p ∣ ((h - n + 1) + (n - st)) - (n - st) := by
              have z := Nat.dvd_sub_mod (n := p) ((h - n + 1) + (n - st))
              rw [hq] at z
              exact z
            rw [Nat.add_sub_cancel] at hd
            exact Nat.mod_eq_zero_of_dvd hd
        by_cases hz : (h - n + 1) % p = 0
        · rw [if_pos hz, if_pos (hiff.1 hz)]
          all_goals omega
        · rw [if_neg hz, if_neg fun z => hz (hiff.2 z)]
      · by_cases h4 : n = h + 1
        · subst h4
          have h5 : h + 1 = st + (h + 1 - st) % p := by
            rw [Nat.mod_eq_of_lt (by omega)]; omega
          rw [if_neg h3, if_pos (Nat.le_refl _), if_pos h5]
          simp
        · have h5 : ¬ n ≤ h + 1 := by omega
          have h6 : ¬ n = st + (h + 1 - st) % p := by
            intro z
            have l := Nat.mod_le (h + 1 - st) p
            omega
          simp [h3, h5, h6]
theorem sum_step {st p h : Nat} (hp : 1 ≤ p) (hs : 1 ≤ st) : ∀ l : List Nat, l.Nodup → (∀ n ∈ l, 1 ≤ n ∧ n < st + p) →
    (l.map (give st p (h + 1))).sum = (l.map (give st p h)).sum + (if red (h + 1) st p ∈ l then 1 else 0)
  | [], _, _ => by simp
  | n :: l, hd, hb => by
    obtain ⟨d1, d2⟩ := List.nodup_cons.mp hd
    have ih := sum_step (h := h) hp hs l d2 fun m hm => hb m (List.mem_cons_of_mem _ hm)
    obtain ⟨b1, b2⟩ := hb n (List.mem_cons_self ..)
    simp only [List.map_cons, List.sum_cons]
    rw [ih, give_step hp hs b1 b2]
    by_cases e : n = red (h + 1) st p
    · rw [← e] at *
      simp [d1]
      omega
    · have e' : ¬ red (h + 1) st p = n := fun z => e z.symm
      simp [e, e', List.mem_cons]
      omega
/-- count_leading grows by one exactly at the numbers with the wanted colour -/
theorem cnt_step {k rows c most st p x h} (T : Tab k rows) (hc : c < k) (P : Per (S rows c) most st p) :
    cntL st p (h + 1) (lead (S rows c) st p x) = cntL st p h (lead (S rows c) st p x) + (if x ∈ S rows c (h + 1) then 1 else 0) := by
  rw [cntL_eq, cntL_eq, sum_step P.p1 P.st1]
  · have e : red (h + 1) st p ∈ lead (S rows c) st p x ↔ x ∈ S rows c (h + 1) := by
      unfold lead
      rw [List.mem_filter, List.mem_range'_1, List.contains_iff_mem, S_red T hc P]
      have h1 := red_pos (n := h + 1) (st := st) (p := p) (by omega) P.st1
      have h2 := red_lt (n := h + 1) (st := st) (p := p) P.p1
      exact ⟨fun z => z.2, fun z => ⟨⟨h1, by omega⟩, z⟩⟩
    by_cases q : x ∈ S rows c (h + 1)
    · rw [if_pos q, if_pos (e.2 q)]
    · rw [if_neg q, if_neg fun z => q (e.1 z)]
  · exact (List.nodup_range').sublist List.filter_sublist
  · intro n hn
    unfold lead at hn
    obtain ⟨a, b⟩ := List.mem_range'_1.mp (List.mem_filter.mp hn).1
    have := P.p1
    have := P.st1
    omega

/-! ### drawn ways -/
theorem sum_put : ∀ {l : List Nat} {i v : Nat}, i < l.length → (l.set i v).sum + l.getD i 0 = l.sum + v
  | [], i, v, h => by simp at h
  | a :: l, 0, v, _ => by simp; omega
  | a :: l, i + 1, v, h => by
    have ih := sum_put (l := l) (i := i) (v := v) (by simpa using h)
    simp only [List.set_cons_succ, List.sum_cons, List.getD_cons_succ]
    omega
theorem getD_put {l : List Nat} {i j v : Nat} (h : i < l.length) : (l.set i v).getD j 0 = if i = j then v else l.getD j 0 := by
  simp only [List.getD_eq_getElem?_getD, List.getElem?_set]
  by_cases e : i = j
  · subst e; simp [h]
  · simp [e]
/-- two beans can be taken -/
def canDraw (l : List Nat) (a b : Nat) : Prop := 1 ≤ l.getD a 0 ∧ 1 ≤ (l.set a (l.getD a 0 - 1)).getD b 0
def taken (l : List Nat) (a b : Nat) : List Nat := (l.set a (l.getD a 0 - 1)).set b ((l.set a (l.getD a 0 - 1)).getD b 0 - 1)
def drawn (l : List Nat) (a b x : Nat) : List Nat := (taken l a b).set x ((taken l a b).getD x 0 + 1)
theorem taken_length (l : List Nat) (a b : Nat) : (taken l a b).length = l.length := by unfold taken; simp
theorem drawn_length (l : List Nat) (a b x : Nat) : (drawn l a b x).length = l.length := by unfold drawn; simp [taken_length]
theorem taken_sum {l : List Nat} {a b : Nat} (ha : a < l.length) (hb : b < l.length) (h : canDraw l a b) : (taken l a b).sum + 2 = l.sum := by
  obtain ⟨h1, h2⟩ := h
  unfold taken
  have e1 := sum_put (l := l) (i := a) (v := l.getD a 0 - 1) ha
  have e2 := sum_put (l := l.set a (l.getD a 0 - 1)) (i := b) (v := (l.set a (l.getD a 0 - 1)).getD b 0 - 1) (by simpa using hb)
  omega
theorem drawn_sum {l : List Nat} {a b x : Nat} (ha : a < l.length) (hb : b < l.length) (hx : x < l.length) (h : canDraw l a b) : (drawn l a b x).sum + 1 = l.sum := by
  have e1 := taken_sum ha hb h
  have e2 := sum_put (l := taken l a b) (i := x) (v := (taken l a b).getD x 0 + 1) (by rw [taken_length]; exact hx)
  unfold drawn
  omega
theorem taken_at {l : List Nat} {a b y : Nat} (ha : a < l.length) (hb : b < l.length) (h : canDraw l a b) :
    l.getD y 0 = (taken l a b).getD y 0 + (if a = y then 1 else 0) + (if b = y then 1 else 0) := by
  obtain ⟨h1, h2⟩ := h
  unfold taken
  rw [getD_put ha] at h2
  rw [getD_put (by simpa using hb), getD_put ha, getD_put ha]
  by_cases e1 : a = y <;> by_cases e2 : b = y <;> by_cases e3 : a = b <;> simp [e1, e2, e3] at * <;> (try subst e1) <;> (try subst e2) <;> simp_all <;> omega
theorem some_bean : ∀ {l : List Nat}, 1 ≤ l.sum → ∃ a, a < l.length ∧ 1 ≤ l.getD a 0
  | [], h => by simp at h
  | n :: l, h => by
    by_cases e : 1 ≤ n
    · exact ⟨0, by simp, by simpa using e⟩
    · obtain ⟨a, h1, h2⟩ := some_bean (l := l) (by simp only [List.sum_cons] at h; omega)
      exact ⟨a + 1, by simpa using h1, by simpa using h2⟩
theorem can_some {l : List Nat} (h : 2 ≤ l.sum) : ∃ a b, a ≤ b ∧ b < l.length ∧ canDraw l a b := by
  obtain ⟨a, ha, h1⟩ := some_bean (l := l) (by omega)
  have e1 := sum_put (l := l) (i := a) (v := l.getD a 0 - 1) ha
  obtain ⟨b, hb, h2⟩ := some_bean (l := l.set a (l.getD a 0 - 1)) (by omega)
  have hb' : b < l.length := by simpa using hb
  by_cases hab : a ≤ b
  · exact ⟨a, b, hab, hb', h1, h2⟩
  · have hne : ¬ a = b := by omega
    have hne' : ¬ b = a := by omega
    rw [getD_put ha, if_neg hne] at h2
    refine ⟨b, a, by omega, ha, h2, ?_⟩
    rw [getD_put hb', if_neg hne']
    exact h1
/-- a jar that beans of possible colours, of n beans together, make -/
structure Real (f : Nat → Nat → Nat) (c n : Nat) (cts : List Nat) : Prop where
  ex : ∃ l : List (Nat × Nat), (∀ q ∈ l, Poss f c q.2 q.1) ∧ (l.map (·.2)).sum = n ∧ cts.sum = l.length ∧ ∀ x, cts.getD x 0 = l.countP fun q => q.1 == x
theorem take_one {l : List (Nat × Nat)} {a : Nat} (h : 1 ≤ l.countP fun q => q.1 == a) : ∃ m l', l.Perm ((a, m) :: l') := by
  obtain ⟨q, hq, e⟩ := List.countP_pos_iff.mp h
  have e : q.1 = a := by simpa using e
  refine ⟨q.2, l.erase q, ?_⟩
  have := List.perm_cons_erase hq
  rw [← e]
  exact this
theorem Real.draw {f : Nat → Nat → Nat} {c n : Nat} {cts : List Nat} {a b : Nat} (R : Real f c n cts) (ha : a < cts.length) (hb : b < cts.length) (hx : f a b < cts.length) (h : canDraw cts a b) : Real f c n (drawn cts a b (f a b)) := by
  obtain ⟨l, h1, h2, h3, h4⟩ := R.ex
  have ea := taken_at (y := a) ha hb h
  have ca : 1 ≤ l.countP fun q => q.1 == a := by
    rw [← h4]
    rw [if_pos rfl] at ea
    omega
  obtain ⟨m1, l1, p1⟩ := take_one ca
  have c1 : ∀ x, l.countP (fun q => q.1 == x) = (if a = x then 1 else 0) + l1.countP fun q => q.1 == x := by
    intro x
    rw [p1.countP_eq, List.countP_cons]
    by_cases e : a = x
    · simp [e]; omega
    · simp [e]
  have eb := taken_at (y := b) ha hb h
  have cb : 1 ≤ l1.countP fun q => q.1 == b := by
    have q := c1 b
    rw [← h4] at q
    rw [if_pos rfl] at eb
    by_cases e : a = b
    · rw [if_pos e] at q eb; omega
    · rw [if_neg e] at q eb; omega
  obtain ⟨m2, l2, p2⟩ := take_one cb
  have p : l.Perm ((a, m1) :: (b, m2) :: l2) := p1.trans (p2.cons _)
  have hl : ∀ q ∈ l2, Poss f c q.2 q.1 := fun q hq => h1 q (p.mem_iff.mpr (List.mem_cons_of_mem _ (List.mem_cons_of_mem _ hq)))
  have q1 : Poss f c m1 a := h1 (a, m1) (p.mem_iff.mpr (List.mem_cons_self ..))
  have q2 : Poss f c m2 b := h1 (b, m2) (p.mem_iff.mpr (List.mem_cons_of_mem _ (List.mem_cons_self ..)))
  refine ⟨(f a b, m1 + m2) :: l2, ?_, ?_, ?_, ?_⟩
  · intro q hq
    rcases List.mem_cons.mp hq with e | e
    · rw [e]; exact .mul q1 q2
    · exact hl q e
  · have e := (p.map (·.2)).sum_nat
    simp only [List.map_cons, List.sum_cons] at e ⊢
    omega
  · have e := p.length_eq
    have e2 := drawn_sum (x := f a b) ha hb hx h
    simp only [List.length_cons] at e ⊢
    omega
  · intro x
    have e := taken_at (y := x) ha hb h
    have e2 := c1 x
    have e3 : l1.countP (fun q => q.1 == x) = (if b = x then 1 else 0) + l2.countP fun q => q.1 == x := by
      rw [p2.countP_eq, List.countP_cons]
      by_cases e : b = x
      · simp [e]; omega
      · simp [e]
    rw [h4] at e
    unfold drawn
    rw [getD_put (by rw [taken_length]; exact hx), List.countP_cons]
    by_cases e4 : f a b = x
    · subst e4
      simp only [if_true, beq_self_eq_true]
      omega
    · have e5 : (f a b == x) = false := by simpa using e4
      rw [if_neg e4, if_neg (show ¬ (f a b == x) = true from by rw [e5]; decide)]
      omega
theorem Real.start {f : Nat → Nat → Nat} {c n k : Nat} (hc : c < k) : Real f c n ((List.replicate k 0).set c n) := by
  refine ⟨List.replicate n (c, 1), ?_, ?_, ?_, ?_⟩
  · intro q hq
    rw [List.eq_of_mem_replicate hq]
    exact .one
  · simp
  · have e := sum_put (l := List.replicate k 0) (i := c) (v := n) (by simpa using hc)
    have e1 : (List.replicate k 0).getD c 0 = 0 := by simp [hc]
    have e2 : (List.replicate k 0).sum = 0 := by simp
    simp only [List.length_replicate]
    omega
  · intro x
    rw [getD_put (by simpa using hc)]
    by_cases e : c = x
    · subst e
      simp [List.countP_replicate]
    · have e1 : (c == x) = false := by simpa using e
      rw [if_neg e, List.countP_replicate]
      simp only [e1]
      by_cases h : x < k <;> simp [h]
theorem Real.end {f : Nat → Nat → Nat} {c n x : Nat} {cts : List Nat} (R : Real f c n cts) (h1 : cts.sum = 1) (hx : cts.getD x 0 = 1) : Poss f c n x := by
  obtain ⟨l, q1, q2, q3, q4⟩ := R.ex
  rw [h1] at q3
  obtain ⟨q, rfl⟩ := List.length_eq_one_iff.mp q3.symm
  have e := q4 x
  rw [hx] at e
  have e1 : q.1 = x := by
    by_cases z : q.1 = x
    · exact z
    · have z' : (q.1 == x) = false := by simpa using z
      simp [List.countP_cons, z'] at e
  simp at q2
  have := q1 q (by simp)
  rw [e1, q2] at this
  exact this
end Bj
/-! Beanjars: small rules that were lacking: sum of a tuple, a tuple made of a list and known to its object, its index. -/
namespace BjR
open PySem PySem.Spec PyProof.Rows L2

section
variable {prog : Program} {w : World} {A : Around} {E : Value → Shared → Prop} {s : Shared} {l : Addr} {its : List Value} {ns : List Int} {Q : Value → Shared → Prop}
/-- sum(t), t a tuple of whole numbers -/
theorem sum_of_tuple (hh : A.handled = none) (hl : s.heap.IsTuple l its.toArray) (hi : IntsAre its ns)
    (done : ∀ h' tk t', (∀ b o, s.heap.get? b = some o → h'.get? b = some o) → Q (.int ns.sum t') { s with heap := h', toks := tk }) : wpAny (model prog w) A (call (.builtin "sum") [.ref l]) Q E s := by
  obtain ⟨xs, ex⟩ := hi.allInts.items
  have hnum : numsOf (intItems xs).toList = ns := by rw [← ex]; exact hi.numsOf
  rw [nums_intItems] at hnum
  rw [ex] at hl
  have hlt : l < s.heap.objs.size := by
    obtain ⟨_, q, _⟩ := hl
    exact Heap.lt_size q
  refine call_sum_walkG (wpAny_pyIter_tuple hl ?_)
  refine ⟨_, _, _, _, _, _, numAt xs, rfl, Walks.tuple (A := A.in1) hh _ l (Nat.ne_of_lt hlt) (intItems xs), ⟨⟨_, Heap.get?_push_size _ rfl, rfl, rfl⟩, hl.push _⟩, fun b hb => ?_, (fun _ _ => intItems_at), fun h' tk t' hk => ?_⟩
  · show b < (s.heap.push _).objs.size
    rw [Heap.size_push]
    rcases List.mem_cons.mp hb with e | hb
    · rw [e]; exact Nat.lt_succ_self _
    · rw [List.mem_singleton.mp hb]; exact Nat.lt_succ_of_lt hlt
  · have q := done h' tk t' fun b o e => hk b o (fun hm => absurd (List.mem_singleton.mp hm ▸ Heap.lt_size e) (Nat.lt_irrefl _)) (Heap.get?_push_of_some _ e)
    rw [preSum_eq, List.take_of_length_le (by simp [intItems]), hnum]
    exact q
end

section
variable {X : Cx}
def rSumT (K : PySem.W.Frag) : List V → Hp → VK → Prop := fun vs H Q => ∃ (a : Addr) (ns : List Int), vs = [V.ref a] ∧ SqT K H a (ns.map V.int) ∧ Q (.int ns.sum) H
theorem call_sumT (hc : X.calm = true) : CallR X (.builtin "sum") (rSumT X.K) := by
  intro pins s σ H vs us Q I r hh
  obtain ⟨a, ns, rfl, hs, q⟩ := hh
  obtain ⟨its, rv, pl, _⟩ := I.tuple hs
  rw [Vals.ref1 r]
  exact sum_of_tuple (I.ok.hd hc) pl rv.ints fun h' tk t' hk => ⟨.int _, H, I.kept hk, ⟨_, rfl⟩, q⟩

/-- at l a tuple of ys whose object is known: it has no dict of its own -/
def TupF (H : Hp) (l : Addr) (ys : List V) : Prop := ∃ o : Obj, H l = some (.frz o (.tup ys)) ∧ o.dict = none
theorem TupF.sq {K : PySem.W.Frag} {H : Hp} {l : Addr} {ys : List V} (h : TupF H l ys) : SqT K H l ys := by
  obtain ⟨o, e, _⟩ := h
  exact .inl (.inr ⟨o, e⟩)
/-- tuple(xs), xs a list -/
def rTupF (K : PySem.W.Frag) : List V → Hp → VK → Prop := fun xs H Q => ∃ p ys, xs = [V.ref p] ∧ SqL K H p ys ∧ ∀ (l : Addr) (o : Obj), H l = none → o.dict = none → Q (.ref l) (upd H l (.frz o (.tup ys)))
theorem call_tupF : CallR X (.type "tuple") (rTupF X.K) := by
  intro pins s σ H xs us Q I r hh
  obtain ⟨p, ys, rfl, hq, q⟩ := hh
  obtain ⟨u, rfl, rx⟩ := vals1 r
  cases rx
  obtain ⟨its, rv, pl, hz⟩ := I.list hq
  have hlen := rv.length
  refine call_tuple_list pl.isList (fun h' kp => ?_) (by simp only [List.size_toArray] <;> omega)
  have J : Inv X pins σ H { s with heap := h' } := I.kept (t' := s.toks) kp
  have J2 : Inv X pins σ (upd H h'.objs.size (.frz { cls := .type "tuple", data := .seq its.toArray } (.tup ys))) { s with heap := h'.push { cls := .type "tuple", data := .seq its.toArray } } :=
    J.laid (t' := s.toks) (fun b o e => Heap.get?_push_of_some _ e) (Nat.le_refl _) (show ObjOk X.prog X.w _ _ _ (.frz _ (.tup ys)) from ⟨Heap.get?_push_size _ rfl, hz, its, rv, IsTup.new _ _⟩)
  exact ⟨.ref h'.objs.size, _, J2, rfl, q _ _ (J.hok.fresh (Nat.le_refl _)) rfl⟩

/-- t.index(z): the first place -/
def tIdxT (to : TE) (t : TA) : TE := fun σ H Q => to σ H fun x H1 => ∃ p, ∃ ys : List Int, x = .ref p ∧ TupF H1 p (ys.map V.int) ∧ t σ H1 fun xs H2 => ∃ (z : Int) (j : Nat), xs = [V.int z] ∧ TupF H2 p (ys.map V.int) ∧ ys[j]? = some z ∧ (∀ m, m < j → ys[m]? ≠ some z) ∧ Q (.int (j : Nat)) H2
theorem flat_ints (ys : List Int) : (ys.map V.int).all flatV = true := by
  rw [List.all_map]
  exact List.all_eq_true.mpr fun _ _ => rfl
theorem mt_indexT {pins : List (Addr × Obj)} {σ : L2.St} {H : Hp} {s : Shared} {p : Addr} {ys : List Int} {z : Int} {t : Tok} {j : Nat} {Q : VK} (I : Inv X pins σ H s) (hq : SqT X.K H p (ys.map V.int)) (hy : ys[j]? = some z) (hno : ∀ m, m < j → ys[m]? ≠ some z) (q : Q (.int (j : Nat)) H) :
    wpAny (model X.prog X.w) X.A (call (.builtin "tuple.index") [.ref p, .int z t]) (EP X pins σ Q) X.xe s := by
  obtain ⟨its, r, pl, hz⟩ := I.tuple hq
  obtain ⟨⟨cls, dd, dt, sl⟩, ho, hc, n, hd⟩ := pl
  simp only at hc hd
  subst hc
  subst hd
  have hl : its.toArray.size = ys.length := by rw [List.size_toArray, ← r.length, List.length_map]
  have hj : j < its.toArray.size := by rw [hl]; exact (List.getElem?_eq_some_iff.mp hy).1
  have at' : ∀ (m : Nat) (hm : m < its.toArray.size), ∃ y t', ys[m]? = some y ∧ its.toArray[m] = Value.int y t' := fun m hm => by
    have hm' : m < ys.length := by rw [← hl]; exact hm
    obtain ⟨w, hw, t', hw'⟩ := r.get (i := m) (x := .int ys[m]) (by simp [hm'])
    refine ⟨ys[m], t', List.getElem?_eq_getElem hm', ?_⟩
    have e := (List.getElem?_eq_some_iff.mp hw).2
    rw [← hw', ← e]
    simp
  refine call_meets PySem.F.slot_tuple_index ⟨_, ho, rfl⟩ PySem.F.entry_tuple_index (PySem.F.args_tuple_index_2 _ _) (TI.tuple_indexAt p its.toArray n dd sl (.int z t) (eqU (.int z)) j hj ?_ ?_)
    ⟨ho, fun w hw => mem_eqAt (x := .int z) ⟨t, rfl⟩ rfl r (flat_ints ys) w (by simpa using hw), ⟨.int (j : Nat), H, I.tok _, ⟨_, rfl⟩, q⟩⟩
  · obtain ⟨y, t', h1, h2⟩ := at' j hj
    rw [hy] at h1
    cases h1
    rw [h2]
    show (z == z) = true
    exact beq_self_eq_true z
  · intro m hm hmj
    obtain ⟨y, t', h1, h2⟩ := at' m hm
    rw [h2]
    show (y == z) = false
    exact beq_eq_false_iff_ne.mpr fun e => hno m hmj (e ▸ h1)
theorem pe_indexT {o e : Expr} {es : List Expr} {to : TE} {t : TA} {apos cpos : Pos} (ho : PE X o to) (ha : PA X (e :: es) t)
    (hbase : attributeBase o "index" X.env (eval o X.env) = eval o X.env := by rfl)
    (hfew : ((backTo cpos (starEach (e :: es) X.env)).all (fun x => !x.1) && (backToKw cpos (keywordEach [] X.env)).all (fun x => x.1.isSome) && decide ((e :: es).length + ([] : List Keyword).length + (if ([] : List Keyword).isEmpty then 0 else 1) < 30)) = true := by rfl)
    (hline : (apos.endLine == cpos.line) = true := by rfl) (hs : starEach (e :: es) X.env = (false, eval e X.env) :: starEach es X.env := by rfl) (hplain : (backTo cpos (starEach es X.env)).any (·.1) = false := by rfl) :
    PE X (.Call (.Attribute o "index" apos) (e :: es) [] cpos) (tIdxT to t) := by
  refine ⟨fun pins s σ H Q I hh => ?_⟩
  refine wpAny_Call_method_late hbase hfew hline rfl (thn (ho.run pins s σ H _ I hh) fun v s1 ⟨x, H1, I1, r1, q1⟩ => ?_)
  obtain ⟨p, ys, rfl, hT, q1⟩ := q1
  cases r1
  obtain ⟨ob, e1, hd⟩ := id hT
  have hob : s1.heap.get? p = some ob := (I1.hok p _ e1).1
  have hty : s1.TypeIs (.ref p) "tuple" := by
    obtain ⟨its, r, pl, hz⟩ := I1.tuple (hT.sq (K := X.K))
    exact pl.typeIs
  refine ⟨"tuple", "tuple.index", PySem.F.plainAttrs_tuple, PySem.F.slot_tuple_index, PySem.F.type_tuple_index, hty, fun a ea => ?_, ?_⟩
  · cases ea
    exact ⟨ob, hob, hd⟩
  · have hA := ha.run cpos pins s1 σ H1 _ I1 q1
    rw [hs] at hA ⊢
    refine Calls.callWith_builtin (by show (false || (backTo cpos (starEach es X.env)).any (·.1)) = false; rw [hplain] <;> rfl) (Calls.evalArgs_plain ?_)
    refine thn hA fun us s2 ⟨vs, H2, I2, r2, q2⟩ => ?_
    obtain ⟨z, j, rfl, hT2, hy, hno, q2⟩ := q2
    obtain ⟨u, rfl, tk, rfl⟩ := vals1 r2
    exact mt_indexT I2 hT2.sq hy hno q2
end
end BjR
/-! Beanjars: {elt for t0 in i0 for t1 in i1}, elt a whole number. -/
namespace BjR
open PySem PySem.Spec PyProof.Rows L2

/-- the comprehension -/
abbrev sc2 (elt t0 i0 t1 i1 : Expr) (scope : Scope) (pos : Pos) : Expr := .SetComp elt [⟨t0, i0, [], 0⟩, ⟨t1, i1, [], 0⟩] scope pos
theorem turn_outer (elt t0 i0 t1 i1 : Expr) (scope : Scope) (pos : Pos) (it acc : Value) (env : Env) :
    compTurn (sc2 elt t0 i0 t1 i1 scope pos) 0 it acc env = (do
      standAt i0.pos
      match ← pyNext it with
      | none => pure (.done .next)
      | some v =>
        letOwnedTupleGo t0 it v
        assign t0 env v
        let x ← eval i1 env
        standAt i1.pos
        let x ← foldedSetIterable i1 env x
        let _ ← runOwn (.compStart (sc2 elt t0 i0 t1 i1 scope pos) 1 (← holding [x] (pyIter x)) acc env) env
        again (.compLoop (sc2 elt t0 i0 t1 i1 scope pos) 0 it acc env)) := by rfl
theorem turn_inner (elt t0 i0 t1 i1 : Expr) (scope : Scope) (pos : Pos) (it acc : Value) (env : Env) :
    compTurn (sc2 elt t0 i0 t1 i1 scope pos) 1 it acc env = (do
      standAt i1.pos
      match ← pyNext it with
      | none => pure (.done .next)
      | some v =>
        letOwnedTupleGo t1 it v
        assign t1 env v
        (do let u ← eval elt env; standAt elt.pos; let _ ← call (.builtin "set.add") [acc, u])
        again (.compLoop (sc2 elt t0 i0 t1 i1 scope pos) 1 it acc env)) := by rfl

section
variable {prog : Program} {w : World} {A : Around} {R : Result → Shared → Prop} {s : Shared} {elt t0 i0 t1 i1 : Expr} {scope : Scope} {pos : Pos} {it acc : Value} {env : Env}
/-- the frame notes what is raised in it -/
abbrev Nb (prog : Program) (w : World) (A : Around) (env : Env) (R : Result → Shared → Prop) : Value → Shared → Prop := notedBy (model prog w) A env fun e s' => R (.error e) s'
theorem loop_outer (hs : ∀ x, foldedSetIterable i1 env x = pure x) (J : Nat → Shared → Prop)
    (turn : ∀ n s, J n s → wpAny (model prog w) A (pyNext it) (fun r a1 => match r with
      | none => R (.ok .next) a1
      | some v => wpAny (model prog w) A (letOwnedTupleGo t0 it v) (fun _ a2 => wpAny (model prog w) A (assign t0 env v) (fun _ a3 =>
          wpAny (model prog w) A (eval i1 env) (fun x a4 => wpAny (model prog w) A (pyIter x) (fun it1 a5 =>
            codeAny (model prog w) A (.compStart (sc2 elt t0 i0 t1 i1 scope pos) 1 it1 acc env) (fun r s' => match r with
              | .ok _ => ∃ m, m < n ∧ J m s'
              | .error _ => False) a5) (Nb prog w A env R) a4) (Nb prog w A env R) a3) (Nb prog w A env R) a2) (Nb prog w A env R) a1) (Nb prog w A env R) s)
    (n : Nat) (h : J n s) : codeAny (model prog w) A (.compLoop (sc2 elt t0 i0 t1 i1 scope pos) 0 it acc env) R s := by
  refine codeAny_loop rfl J (fun n s hJ => ?_) n h
  show wpAny _ A ((compTurn (sc2 elt t0 i0 t1 i1 scope pos) 0 it acc env).onRaise (fun x => do noteFrame x env; theTreesLotGoes x)) _ _ s
  refine wpAny_noted ?_
  rw [turn_outer]
  refine wpAny_bind (wpAny_standAt (wpAny_bind (wpAny_mono (turn n s hJ) (fun r a1 h1 => ?_) fun _ _ z => z)))
  cases r with
  | none => exact wpAny_pure h1
  | some v =>
    refine wpAny_bind (wpAny_mono h1 (fun _ a2 h2 => ?_) fun _ _ z => z)
    refine wpAny_bind (wpAny_mono h2 (fun _ a3 h3 => ?_) fun _ _ z => z)
    refine wpAny_bind (wpAny_mono h3 (fun x a4 h4 => ?_) fun _ _ z => z)
    refine wpAny_bind (wpAny_standAt (wpAny_bind (wpAny_of_eq (hs x) (wpAny_bind (wpAny_holding (wpAny_mono h4 (fun it1 a5 h5 => ?_) fun _ _ z => z))))))
    refine wpAny_bind (wpAny_runOwn ?_)
    rw [Around.mark_none]
    refine codeAny_mono h5 fun r s' hr => ?_
    cases r with
    | ok f =>
      first
        | exact wpAny_pure ⟨rfl, hr⟩
        | exact wpAny_bind (wpAny_pure (wpAny_pure ⟨rfl, hr⟩))
    | error e => exact hr.elim
theorem loop_inner (J : Nat → Shared → Prop)
    (turn : ∀ n s, J n s → wpAny (model prog w) A (pyNext it) (fun r a1 => match r with
      | none => R (.ok .next) a1
      | some v => wpAny (model prog w) A (letOwnedTupleGo t1 it v) (fun _ a2 => wpAny (model prog w) A (assign t1 env v) (fun _ a3 =>
          wpAny (model prog w) A (eval elt env) (fun u a4 =>
            wpAny (model prog w) A (call (.builtin "set.add") [acc, u]) (fun _ a5 => ∃ m, m < n ∧ J m a5) (Nb prog w A env R) a4) (Nb prog w A env R) a3) (Nb prog w A env R) a2) (Nb prog w A env R) a1) (Nb prog w A env R) s)
    (n : Nat) (h : J n s) : codeAny (model prog w) A (.compLoop (sc2 elt t0 i0 t1 i1 scope pos) 1 it acc env) R s := by
  refine codeAny_loop rfl J (fun n s hJ => ?_) n h
  show wpAny _ A ((compTurn (sc2 elt t0 i0 t1 i1 scope pos) 1 it acc env).onRaise (fun x => do noteFrame x env; theTreesLotGoes x)) _ _ s
  refine wpAny_noted ?_
  rw [turn_inner]
  refine wpAny_bind (wpAny_standAt (wpAny_bind (wpAny_mono (turn n s hJ) (fun r a1 h1 => ?_) fun _ _ z => z)))
  cases r with
  | none => exact wpAny_pure h1
  | some v =>
    refine wpAny_bind (wpAny_mono h1 (fun _ a2 h2 => ?_) fun _ _ z => z)
    refine wpAny_bind (wpAny_mono h2 (fun _ a3 h3 => ?_) fun _ _ z => z)
    exact wpAny_bind (wpAny_bind (wpAny_mono h3 (fun u a4 h4 => wpAny_bind (wpAny_standAt (wpAny_bind (wpAny_mono h4 (fun _ a5 h5 => wpAny_pure (wpAny_pure ⟨rfl, h5⟩)) fun _ _ z => z)))) fun _ _ z => z))
theorem start_inner (h0 : codeAny (model prog w) A (.compLoop (sc2 elt t0 i0 t1 i1 scope pos) 1 it acc env) R s)
    (h : wpAny (model prog w) A (pyIter it) (fun it' s' => codeAny (model prog w) A (.compLoop (sc2 elt t0 i0 t1 i1 scope pos) 1 it' acc env) R s') (Nb prog w A env R) s) :
    codeAny (model prog w) A (.compStart (sc2 elt t0 i0 t1 i1 scope pos) 1 it acc env) R s := by
  refine codeAny_of_tree ?_
  show wpAny _ _ ((compStart (sc2 elt t0 i0 t1 i1 scope pos) 1 it acc env).onRaise (fun x => do noteFrame x env; standAt theWindowsPlace)) _ _ s
  refine wpAny_notedAt ?_
  unfold compStart
  show wpAny _ _ (ask >>= _) _ _ s
  refine wpAny_bind (wpAny_askSetting (wpAny_ite ?_))
  split
  · first
      | exact wpAny_bind (wpAny_pure (wpAny_pure (And.intro rfl h0)))
      | exact wpAny_pure (And.intro rfl h0)
  · first
      | exact wpAny_bind (wpAny_rule (wpAny_bind (wpAny_standAt (wpAny_bind (wpAny_mono h (fun it' s' h' => wpAny_pure (And.intro rfl h')) fun _ _ z => z)))))
      | (refine wpAny_bind (wpAny_rule ?_); show wpAny _ _ (standAt i1.pos >>= _) _ _ s; exact wpAny_bind (wpAny_standAt (wpAny_bind (wpAny_mono h (fun it' s' h' => wpAny_pure (And.intro rfl h')) fun _ _ z => z))))
end

section
variable {X : Cx}
/-- a whole number put into the set at D -/
theorem put_ok {pins : List (Addr × Obj)} {σ : L2.St} {H : Hp} {s : Shared} {E : Value → Shared → Prop} {D : Addr} {S : Int → Bool} {n : Nat} {k : Int} {tk : Tok} {Q : Value → Shared → Prop} (I : Inv X pins σ H s) (hD : H D = some (SetO X.w D S n)) (room : n + 1 < scanBound)
    (h : ∀ s', Inv X pins σ (upd H D (SetO X.w D (fun j => S j || decide (j = k)) (if S k = true then n else n + 1))) s' → Q .none s') : wpAny (model X.prog X.w) X.A (call (.builtin "set.add") [.ref D, .int k tk]) Q E s := by
  have R := setO_get I hD
  refine setR_add R room fun h' sb new => ?_
  have there : ∃ u, h'.get? D = some u := by
    have ⟨o, _, _, _, ho, _⟩ := new
    exact ⟨o, ho⟩
  exact h _ (I.write (e := D) (t' := s.toks + 1) (by rw [hD]; trivial) (.inl rfl) (fun b u hb hu => (sb.2 b hb).trans hu) there (setO_new new))
/-- its reading: D the new set; behind the first target's store the second source's own loop, from which Nx is reached. vs: the block's names, vs1: those of the second target -/
def tSc2 (w : World) (wi : TI) (g : TG) (wi1 : TI) (g1 : TG) (te : TE) (vs vs1 : List Nat) : TE := fun σ H Q => wi σ H fun J H1 => ∀ D, H1 D = none → ∃ W : Nat → Nat → Hp → Prop, (∃ m, W 0 m (upd H1 D (SetO w D (fun _ => false) 0))) ∧ ∀ i m H, W i m H →
  (J.stop i H ∧ Q (.ref D) H) ∨ (J.go i H ∧ ∃ Nx : Hp → Prop, (∀ H', Nx H' → ∃ m', m' < m ∧ W (i + 1) m' H') ∧ ∀ x H', J.yld i H x H' → g x (wipe σ vs) H' fun σ2 H2 => wipe σ2 vs = wipe σ vs ∧
    wi1 σ2 H2 fun J1 H4 => ∃ W1 : Nat → Nat → Hp → Prop, (∃ m, W1 0 m H4) ∧ ∀ j k H, W1 j k H →
      (J1.stop j H ∧ Nx H) ∨ (J1.go j H ∧ ∃ Nx1 : Hp → Prop, (∀ H', Nx1 H' → ∃ k', k' < k ∧ W1 (j + 1) k' H') ∧ ∀ x H', J1.yld j H x H' → g1 x (wipe σ2 vs1) H' fun σ3 H5 => wipe σ3 vs1 = wipe σ2 vs1 ∧
        te σ3 H5 fun y H7 => ∃ (z : Int) (S : Int → Bool) (n : Nat), y = .int z ∧ H7 D = some (SetO w D S n) ∧ n + 1 < scanBound ∧ Nx1 (upd H7 D (SetO w D (fun j => S j || decide (j = z)) (if S z = true then n else n + 1)))))
theorem pe_sc2 {elt tg iter tg1 iter1 : Expr} {scope : Scope} {own : List (PySem.Str × Nat)} {vs1 : List Nat} {pos : Pos} {wi wi1 : TI} {g g1 : TG} {te : TE} (hc : X.calm = true) (hN : X.N.Nodup) (hi : PI X tg iter wi) (ok : BlkOk X.N X.env.scope scope own) (hv : ∀ i ∈ vs1, i ∈ own.map (·.2))
    (hg : ∀ (s : Shared) (H : Hp) (C : Addr) (cl : List (PySem.Str × Addr)) (fp : List Addr), PG (X.blk s H scope (compEnvC scope cl C X.env) fp) tg g)
    (hi1 : ∀ (s : Shared) (H : Hp) (C : Addr) (cl : List (PySem.Str × Addr)) (fp : List Addr), PI (X.blk s H scope (compEnvC scope cl C X.env) fp) tg1 iter1 wi1)
    (hg1 : ∀ (s : Shared) (H : Hp) (C : Addr) (cl : List (PySem.Str × Addr)) (fp : List Addr), PG (X.blk s H scope (compEnvC scope cl C X.env) fp) tg1 g1)
    (he : ∀ (s : Shared) (H : Hp) (C : Addr) (cl : List (PySem.Str × Addr)) (fp : List Addr), PE (X.blk s H scope (compEnvC scope cl C X.env) fp) elt te)
    (hs : ∀ x, foldedSetIterable iter X.env x = pure x := by intro _; rfl) (hs1 : ∀ env x, foldedSetIterable iter1 env x = pure x := by intro _ _; rfl) :
    PE X (sc2 elt tg iter tg1 iter1 scope pos) (tSc2 X.w wi g wi1 g1 te (own.map (·.2)) vs1) := by
  refine ⟨fun pins s σ H Q I hh => ?_⟩
  rw [PpSet.eval_SetComp]
  have hfree : ∀ y ∈ scope.names, y.2 = .free → ∃ c, X.env.cells.lookup y.1 = some c := fun y hy e => (ok.free y hy e).elim (fun k => I.ok.has _ (.inl k)) fun k => I.ok.has _ (.inr k)
  refine wpAny_comprehension_free (use := none) rfl hs (closure_ok hfree) ok.kind (fun y hy e => by rw [ok.uniq y hy, e])
    (thn (hi.run pins s σ H _ I hh) fun xv s1 hx => thn hx fun itv s2 h2 => ?_)
  obtain ⟨it, fp, tn, J, H2, e, I2, T, st2, f2, q⟩ := h2
  subst e
  refine PpSet.newSet_ok (newEnv_comp ?_)
  generalize hD : s2.heap.objs.size = D
  have hDn : H2 D = none := I2.hok.fresh (Nat.le_of_eq hD)
  obtain ⟨W, ⟨m0, w0⟩, turn⟩ := q D hDn
  generalize hs3 : ({ s2 with heap := s2.heap.push { cls := .type "set", dict := none, data := .set #[] 0 (.fresh 0 0 (!X.w.params.followText "set-order")) } } : Shared) = s3
  have h3 : s3.heap = s2.heap.push { cls := .type "set", dict := none, data := .set #[] 0 (.fresh 0 0 (!X.w.params.followText "set-order")) } := by rw [← hs3]
  have I3 : Inv X pins σ (upd H2 D (SetO X.w D (fun _ => false) 0)) s3 := by
    rw [← hs3]
    refine I2.laid (t' := s2.toks) (fun b o e => Heap.get?_push_of_some _ e) (Nat.le_of_eq hD) ?_
    rw [← hD]
    exact setO_new (setR_fresh X.w)
  have sz : ∀ b ∈ fp, b < s2.heap.objs.size := fun b hb => let ⟨o, e, _⟩ := T.obj _ _ st2 b hb; Heap.lt_size e
  have f3 : ∀ b ∈ fp, FpOk X pins (upd H2 D (SetO X.w D (fun _ => false) 0)) b ∧ b < s3.heap.objs.size := fun b hb => by
    have lt := sz b hb
    refine ⟨⟨?_, (f2 b hb).2⟩, by rw [h3, Heap.size_push]; exact Nat.lt_succ_of_lt lt⟩
    rw [upd_ne (by rw [← hD]; exact Nat.ne_of_lt lt)]
    exact (f2 b hb).1
  have st3 : tn 0 s3.heap := T.keep _ _ _ st2 fun b _ o e => by rw [h3]; exact Heap.get?_push_of_some _ e
  have I4 := block_start I3 ok hN f3
  generalize hcl : cellsFrom (s3.heap.objs.size + 1) scope.names (cloFrom X.env.cells scope.names []) = cl at I4 ⊢
  have pg := hg s3 (upd H2 D (SetO X.w D (fun _ => false) 0)) s3.heap.objs.size cl fp
  have pe := he s3 (upd H2 D (SetO X.w D (fun _ => false) 0)) s3.heap.objs.size cl fp
  have pi1 := hi1 s3 (upd H2 D (SetO X.w D (fun _ => false) 0)) s3.heap.objs.size cl fp
  have pg1 := hg1 s3 (upd H2 D (SetO X.w D (fun _ => false) 0)) s3.heap.objs.size cl fp
  show codeAny _ _ (.compStart (sc2 elt tg iter tg1 iter1 scope pos) 0 (.ref it) (.ref D) (compEnvC scope cl s3.heap.objs.size X.env)) (compPost (model X.prog X.w) X.A X.xe none (EP X pins σ Q) (.ref D) s3.heap.objs.size) { s3 with heap := pushCells (s3.heap.push { cls := .type "dict", data := .dict #[] }) scope.names }
  have nfp : ∀ b ∈ fp, (upd H2 D (SetO X.w D (fun _ => false) 0)) b = none := fun b hb => (f3 b hb).1.1
  generalize hce : compEnvC scope cl s3.heap.objs.size X.env = ce at I4 pg pe pi1 pg1 ⊢
  have cL : ce.locals = s3.heap.objs.size := by subst hce; rfl
  generalize hH3 : upd H2 D (SetO X.w D (fun _ => false) 0) = H3 at I3 I4 pg pe pi1 pg1 w0 nfp f3
  generalize hs4 : ({ s3 with heap := pushCells (s3.heap.push { cls := .type "dict", data := .dict #[] }) scope.names } : Shared) = s4 at I4 ⊢
  have st4 : tn 0 s4.heap := T.keep _ _ _ st3 fun b _ o e => by rw [← hs4]; exact pushCells_keeps _ _ _ _ (Heap.get?_push_of_some _ e)
  have stat : ∀ {τ : L2.St} {H' : Hp} {s' : Shared}, Inv (X.blk s3 H3 scope ce fp) [] τ H' s' → (∀ b ∈ fp, H' b = none) → ∀ b ∈ fp, FpOk (X.blk s3 H3 scope ce fp) [] H' b := fun {τ H' s'} I' hn b hb =>
    ⟨hn b hb, (I'.ok.exf b hb).1, I'.ok.exfs b hb, .inl hb, fun x c e => (I'.ok.exf b hb).2 x c e, fun p hp => absurd (show p ∈ ([] : List (Addr × Obj)) ++ [] from hp) (by simp)⟩
  have loop : codeAny (model X.prog X.w) X.A (.compLoop (sc2 elt tg iter tg1 iter1 scope pos) 0 (.ref it) (.ref D) ce) (compPost (model X.prog X.w) X.A X.xe none (EP X pins σ Q) (.ref D) s3.heap.objs.size) s4 := by
    refine loop_outer (hs1 ce) (fun n s' => ∃ i H', Inv (X.blk s3 H3 scope ce fp) [] (wipe σ (own.map (·.2))) H' s' ∧ tn i s'.heap ∧ (∀ b ∈ fp, H' b = none) ∧ W i n H') ?_ m0 ⟨0, H3, I4, st4, nfp, w0⟩
    rintro n s5 ⟨i, H5, I5, st5, n5, w5⟩
    rcases turn i n H5 w5 with ⟨stop, qq⟩ | ⟨go, Nx, hNx, step⟩
    · refine thnF (T.done (X.blk s3 H3 scope ce fp) rfl rfl rfl hc i [] s5 _ H5 (fun _ _ => False) I5 (stat I5 n5) st5 stop) fun r s6 ⟨hr, I6⟩ => ?_
      subst hr
      have I7 : Inv X pins σ H5 s6 := I3.call' (ch := fp) I6.os I6.base I6.hok I6.bare fun b hb => ⟨(f3 b hb).1.2.2.2.1, (f3 b hb).1.2.1, (f3 b hb).1.2.2.2.2.1, (f3 b hb).1.2.2.2.2.2⟩
      have nC : H5 s3.heap.objs.size = none := by
        have z : H5 ce.locals = none := I6.free
        rw [cL] at z
        exact z
      obtain ⟨m, hn, _⟩ := I6.loc
      have hn : s6.heap.Ns ce.locals m := hn
      rw [cL] at hn
      refine ⟨m, hn, fun h'' sb => ?_⟩
      obtain ⟨g0, g1', g2, g3, g4, g5⟩ := I3.fpOk (Nat.le_refl _) nC
      exact ⟨.ref D, H5, I7.turned (t' := s6.toks) (fun b o hb e => (sb.2 b hb).trans e) g0 g1' g3 g4 g5, rfl, qq⟩
    · refine thnF (T.item (X.blk s3 H3 scope ce fp) rfl rfl rfl hc i [] s5 _ H5 (fun _ _ => False) I5 (stat I5 n5) st5 go) fun r s6 ⟨u, hr, h6⟩ => ?_
      subst hr
      refine thnF h6 fun _ s7 ⟨x, H7, I7, r7, y7, st7, n7⟩ => ?_
      have I7' := I7.pinned (stat I7 n7) (T.obj _ _ st7)
      refine thnF (pg.run _ s7 _ H7 x u _ I7' r7 (step x H7 y7)) fun _ s8 ⟨σ8, H8, I8, hw8, q8⟩ => ?_
      have fin : ∀ {σ9 : L2.St} {s' : Shared} {H' : Hp}, Inv (X.blk s3 H3 scope ce fp) ([] ++ pinsAt fp s7.heap) σ9 H' s' → (wipe σ (own.map (·.2))).length = σ9.length → (∀ (j : Nat) v, (wipe σ (own.map (·.2)))[j]? = some (some v) → σ9[j]? = some (some v)) → Nx H' →
          ∃ m, m < n ∧ ∃ i H', Inv (X.blk s3 H3 scope ce fp) [] (wipe σ (own.map (·.2))) H' s' ∧ tn i s'.heap ∧ (∀ b ∈ fp, H' b = none) ∧ W i m H' := fun {σ9 s' H'} I' hl hk nx => by
        obtain ⟨m', hm, w'⟩ := hNx H' nx
        have pin' : ∀ b ∈ fp, ∀ o, s7.heap.get? b = some o → s'.heap.get? b = some o ∧ H' b = none := fun b hb o e =>
          let z := I'.pin (b, o) (List.mem_append_right _ (List.mem_append_right _ (mem_pinsAt hb e)))
          ⟨z.1, z.2.1⟩
        refine ⟨m', hm, i + 1, H', (I'.unpinned (pins := [])).weak hl hk, T.keep _ _ _ st7 fun b hb o e => (pin' b hb o e).1, fun b hb => ?_, w'⟩
        obtain ⟨o, e, _⟩ := T.obj _ _ st7 b hb
        exact (pin' b hb o e).2
      have hl8 : (wipe σ (own.map (·.2))).length = σ8.length := by rw [← hw8, wipe_length]
      have hk9 : ∀ (j : Nat) v, (wipe σ (own.map (·.2)))[j]? = some (some v) → (wipe σ8 vs1)[j]? = some (some v) := fun j v e => by
        rw [← hw8] at e
        obtain ⟨e1, e2⟩ := wipe_some e
        rw [wipe_out fun z => e2 (hv j z)]
        exact e1
      refine thnF (pi1.run _ s8 σ8 H8 _ I8 q8) fun xv s10 hx => thnF hx fun itv s11 h11 => ?_
      obtain ⟨it1, fp1, tn1, J1, H11, e1, I11, T1, st11, f11, W1, ⟨m1, w1⟩, turn1⟩ := h11
      subst e1
      have stat1 : ∀ {H' : Hp}, (∀ b ∈ fp1, H' b = none) → ∀ b ∈ fp1, FpOk (X.blk s3 H3 scope ce fp) ([] ++ pinsAt fp s7.heap) H' b := fun hn b hb => ⟨hn b hb, (f11 b hb).2⟩
      have loop1 : codeAny (model X.prog X.w) X.A (.compLoop (sc2 elt tg iter tg1 iter1 scope pos) 1 (.ref it1) (.ref D) ce)
          (fun r s' => match r with
            | .ok _ => ∃ m, m < n ∧ ∃ i H', Inv (X.blk s3 H3 scope ce fp) [] (wipe σ (own.map (·.2))) H' s' ∧ tn i s'.heap ∧ (∀ b ∈ fp, H' b = none) ∧ W i m H'
            | .error _ => False) s11 := by
        refine loop_inner (fun k s' => ∃ j H', Inv (X.blk s3 H3 scope ce fp) ([] ++ pinsAt fp s7.heap) (wipe σ8 vs1) H' s' ∧ tn1 j s'.heap ∧ (∀ b ∈ fp1, H' b = none) ∧ W1 j k H') ?_ m1 ⟨0, H11, I11.weak (wipe_length _ _) (fun j v e => (wipe_some e).1), st11, fun b hb => (f11 b hb).1, w1⟩
        rintro k s12 ⟨j, H12, I12, st12, n12, w12⟩
        rcases turn1 j k H12 w12 with ⟨stop1, nx1⟩ | ⟨go1, Nx1, hNx1, step1⟩
        · refine thnF (T1.done (X.blk s3 H3 scope ce fp) rfl rfl rfl hc j _ s12 (wipe σ8 vs1) H12 (fun _ _ => False) I12 (stat1 n12) st12 stop1) fun r s13 ⟨hr, I13⟩ => ?_
          subst hr
          exact fin I13 (hl8.trans (wipe_length σ8 vs1).symm) hk9 nx1
        · refine thnF (T1.item (X.blk s3 H3 scope ce fp) rfl rfl rfl hc j _ s12 (wipe σ8 vs1) H12 (fun _ _ => False) I12 (stat1 n12) st12 go1) fun r s13 ⟨u1, hr, h13⟩ => ?_
          subst hr
          refine thnF h13 fun _ s14 ⟨x1, H14, I14, r14, y14, st14, n14⟩ => ?_
          have I14' := I14.pinned (stat1 n14) (T1.obj _ _ st14)
          refine thnF (pg1.run _ s14 (wipe σ8 vs1) H14 x1 u1 _ I14' r14 (step1 x1 H14 y14)) fun _ s15 ⟨σ15, H15, I15, hw15, q15⟩ => ?_
          refine thnF (pe.run _ s15 σ15 H15 _ I15 q15) fun z s17 ⟨yv, H17, I17, r17, k0, S0, n0, ey, hD17, hz17, nx⟩ => ?_
          subst ey
          obtain ⟨tk, rfl⟩ : ∃ t, z = Value.int k0 t := r17
          refine put_ok (X := X.blk s3 H3 scope ce fp) I17 hD17 hz17 fun s18 I18 => ?_
          obtain ⟨m', hm, w'⟩ := hNx1 _ nx
          have pin' : ∀ b ∈ fp1, ∀ o, s14.heap.get? b = some o → s18.heap.get? b = some o ∧ (upd H17 D (SetO X.w D (fun j => S0 j || decide (j = k0)) (if S0 k0 = true then n0 else n0 + 1))) b = none := fun b hb o e =>
            let z := I18.pin (b, o) (List.mem_append_right _ (List.mem_append_right _ (mem_pinsAt hb e)))
            ⟨z.1, z.2.1⟩
          refine ⟨m', hm, j + 1, _, I18.unpinned.weak (by rw [← hw15, wipe_length]) (fun j v e => by rw [← hw15] at e; exact (wipe_some e).1), T1.keep _ _ _ st14 fun b hb o e => (pin' b hb o e).1, fun b hb => ?_, w'⟩
          obtain ⟨o, e, _⟩ := T1.obj _ _ st14 b hb
          exact (pin' b hb o e).2
      exact start_inner loop1 (T1.self X.A 0 _ _ _ st11 loop1)
  exact PpSet.codeAny_compStart_set loop (T.self X.A 0 _ _ _ st4 loop)
end
end BjR
/-! Beanjars: a dict whose keys are pairs of tuples of whole numbers. -/
namespace BjR
open PySem PySem.Spec PyProof.Rows L2

/-- a tuple of the whole numbers l stands at a -/
def TupI (H : Hp) (a : Addr) (l : List Int) : Prop := H a = some (.tup (l.map V.int))
/-- one pair: the key's two lists, where the key and the value stand -/
abbrev Ent := List Int × List Int × Addr × Addr
def keyN (A B : List Int) : NestedKey := .tup [.tup (A.map .num), .tup (B.map .num)]
def entOf (e : Ent) : NestedKey × Addr × Value := (keyN e.1 e.2.1, e.2.2.1, .ref e.2.2.2)
def KeyAt (H : Hp) (a : Addr) (A B : List Int) : Prop := ∃ p q, H a = some (.tup [.ref p, .ref q]) ∧ TupI H p A ∧ TupI H q B
def RawD (P : Program) (w : World) (d : Addr) (xs : List (NestedKey × Addr × Value)) (h : Heap) : Prop :=
  xs.length ≤ sizeLine ∧ (d == sysModules) = false ∧ ∃ o es ep, h.get? d = some o ∧ o.ExactDict ∧ o.data = .dict es ep ∧ es.toList = xs.map (entryOfKey (nestedKind P w)) ∧ (xs.map (·.1)).Nodup
/-- such a dict at d -/
def KD (P : Program) (w : World) (d : Addr) (xs : List (NestedKey × Addr × Value)) : HO := .ext (RawD P w d xs)
/-- .. with the pairs es, its keys being where they are said to be -/
structure DictP (P : Program) (w : World) (H : Hp) (d : Addr) (es : List Ent) : Prop where
  ob : H d = some (KD P w d (es.map entOf))
  keys : ∀ e ∈ es, KeyAt H e.2.2.1 e.1 e.2.1
/-- where the value of the key (A, B) stands -/
def look (es : List Ent) (A B : List Int) : Option Addr := (es.find? fun e => decide (e.1 = A ∧ e.2.1 = B)).map fun e => e.2.2.2

theorem nums_inj : ∀ {A B : List Int}, A.map NestedKey.num = B.map NestedKey.num → A = B
  | [], [], _ => rfl
  | a :: A, b :: B, h => by
    rw [List.map_cons, List.map_cons] at h
    injection h with h1 h2
    injection h1 with h1
    rw [h1, nums_inj h2]
  | [], _ :: _, h => by simp at h
  | _ :: _, [], h => by simp at h
theorem keyN_inj {A B A' B' : List Int} (h : keyN A B = keyN A' B') : A = A' ∧ B = B' := by
  unfold keyN at h
  injection h with h
  injection h with h1 h2
  injection h1 with h1
  injection h2 with h2 _
  injection h2 with h2
  exact ⟨nums_inj h1, nums_inj h2⟩
theorem depth_nums : ∀ l : List Int, NestedKey.depthAll (l.map .num) ≤ 1
  | [] => by simp [NestedKey.depthAll]
  | a :: l => by
    have ih := depth_nums l
    simp only [List.map_cons, NestedKey.depthAll]
    have e : NestedKey.depth (.num a) ≤ 1 := by first | (simp [NestedKey.depth]; done) | (show (_ : Nat) ≤ _; unfold NestedKey.depth; decide)
    omega
theorem depth_key (A B : List Int) : (keyN A B).depth ≤ 8 := by
  have h1 := depth_nums A
  have h2 := depth_nums B
  unfold keyN
  simp only [NestedKey.depth, NestedKey.depthAll]
  omega
theorem nested_nums {h : Heap} : ∀ {l : List Int} {its : List Value}, Vals (l.map V.int) its → NestedAll h (l.map .num) its
  | [], _, .nil => .nil
  | a :: l, _, .cons r t => by
    obtain ⟨tk, rfl⟩ := r
    exact .cons (.int a tk) (nested_nums t)
section
variable {P : Program} {w : World} {H : Hp} {h : Heap}
theorem TupI.nested (hok : HOk P w H h) {a : Addr} {l : List Int} (t : TupI H a l) : NestedIs h (.tup (l.map .num)) (.ref a) := by
  obtain ⟨hz, its, rv, o, ho, hc, n, hd⟩ := hok a _ t
  exact .tup ho hc hd (by simpa using nested_nums rv)
theorem KeyAt.is (hok : HOk P w H h) {a : Addr} {A B : List Int} (k : KeyAt H a A B) : (nestedKind P w).is h (keyN A B) a := by
  obtain ⟨p, q, e, t1, t2⟩ := k
  obtain ⟨hz, its, rv, o, ho, hc, n, hd⟩ := hok a _ e
  refine ⟨.tup ho hc hd ?_, depth_key A B⟩
  cases rv with
  | cons r1 rr =>
    cases rr with
    | cons r2 rr =>
      cases rr
      cases r1
      cases r2
      exact .cons (t1.nested hok) (.cons (t2.nested hok) .nil)
theorem kd_ok {d : Addr} {xs : List (NestedKey × Addr × Value)} (r : RawD P w d xs h) : ObjOk P w H h d (KD P w d xs) := by
  have ⟨_, _, o, _, _, ho, _⟩ := r
  refine ⟨r, ⟨o, ho⟩, fun h1 h2 p k => ?_⟩
  obtain ⟨z, y, o, es, ep, ho, rest⟩ := p
  exact ⟨z, y, o, es, ep, k o ho, rest⟩
theorem DictP.raw (hok : HOk P w H h) {d : Addr} {es : List Ent} (D : DictP P w H d es) : RawD P w d (es.map entOf) h := by
  have x : ObjOk P w H h d (.ext (RawD P w d (es.map entOf))) := hok d _ D.ob
  exact x.1
theorem DictP.dict (hok : HOk P w H h) {d : Addr} {es : List Ent} (D : DictP P w H d es) : h.DictOfH (nestedKind P w) d (es.map entOf) := by
  obtain ⟨_, _, o, es', ep, h1, h2, h3, h4, h5⟩ := D.raw hok
  refine ⟨o, es', ep, h1, h2, h3, h4, fun x hx => ?_, h5⟩
  obtain ⟨e, he, rfl⟩ := List.mem_map.mp hx
  exact (D.keys e he).is hok
end
theorem at_look (A B : List Int) : ∀ es : List Ent, (atKey (es.map entOf) (keyN A B)).map (·.2) = (look es A B).map Value.ref
  | [] => rfl
  | e :: es => by
    have ih := at_look A B es
    unfold atKey look at ih ⊢
    rw [List.map_cons, List.find?_cons, List.find?_cons]
    by_cases h : e.1 = A ∧ e.2.1 = B
    · have h1 : (entOf e).1 = keyN A B := by
        show keyN e.1 e.2.1 = keyN A B
        rw [h.1, h.2]
      simp only [h, h1, decide_true]
      rfl
    · have h1 : ¬ (entOf e).1 = keyN A B := fun z => h (keyN_inj z)
      simp only [h, h1, decide_false]
      exact ih
theorem at_none {es : List Ent} {A B : List Int} (h : look es A B = none) : atKey (es.map entOf) (keyN A B) = none := by
  have q := at_look A B es
  rw [h] at q
  cases e : atKey (es.map entOf) (keyN A B) with
  | none => rfl
  | some v => rw [e] at q; cases q
theorem at_some {es : List Ent} {A B : List Int} {v : Addr} (h : look es A B = some v) : ∃ p, atKey (es.map entOf) (keyN A B) = some p ∧ p.2 = .ref v := by
  have q := at_look A B es
  rw [h] at q
  cases e : atKey (es.map entOf) (keyN A B) with
  | none => rw [e] at q; cases q
  | some p =>
    rw [e] at q
    exact ⟨p, rfl, Option.some.inj q⟩
theorem look_mem {es : List Ent} {A B : List Int} {v : Addr} (h : look es A B = some v) : ∃ e ∈ es, e.1 = A ∧ e.2.1 = B ∧ e.2.2.2 = v := by
  unfold look at h
  obtain ⟨e, he, rfl⟩ := Option.map_eq_some_iff.mp h
  have h1 := List.mem_of_find?_eq_some he
  have h2 := List.find?_some he
  have h3 := of_decide_eq_true h2
  exact ⟨e, h1, h3.1, h3.2, rfl⟩
theorem look_app {es : List Ent} {A B : List Int} {k v : Addr} (h : look es A B = none) : look (es ++ [(A, B, k, v)]) A B = some v := by
  unfold look at h ⊢
  have h' := Option.map_eq_none_iff.mp h
  rw [List.find?_append, h']
  simp

section
variable {X : Cx}
/-- (A, B) not in d -/
def rNotInP (P : Program) (w : World) : R2 := fun x y H Q => ∃ a d A B es, x = .ref a ∧ y = .ref d ∧ KeyAt H a A B ∧ DictP P w H d es ∧ Q (.bl (look es A B).isNone) H
theorem op_notInP (hu : X.A.units + 64 < cLine) : OpR X (compareOp .NotIn) (rNotInP X.prog X.w) := by
  intro pins s σ H x y v u Q I rx ry hh
  obtain ⟨a, d, A, B, es, rfl, rfl, k, D, q⟩ := hh
  cases rx
  cases ry
  have hu1 : (nestedKind X.prog X.w).room X.A.in1 := by show X.A.units + 1 + 8 < cLine; omega
  refine wpAny_notIn_heap hu1 (k.is I.hok) (D.raw I.hok).2.1 (D.dict I.hok) ⟨.bl (look es A B).isNone, H, I.tok _, ?_, q⟩
  show Value.bool _ = Value.bool _
  cases e : look es A B with
  | none => rw [at_none e]; rfl
  | some v =>
    obtain ⟨p, hp, _⟩ := at_some e
    rw [hp]; rfl
/-- d[(A, B)], there -/
def rGetP (P : Program) (w : World) : R2 := fun x y H Q => ∃ d a A B es v, x = .ref d ∧ y = .ref a ∧ KeyAt H a A B ∧ DictP P w H d es ∧ look es A B = some v ∧ Q (.ref v) H
theorem ix_dictP (hu : X.A.units + 64 < cLine) : IxR X (rGetP X.prog X.w) := by
  intro value slice pins s σ H x y v u Q I rx ry hh hs
  obtain ⟨d, a, A, B, es, v0, rfl, rfl, k, D, hl, q⟩ := hh
  cases rx
  cases ry
  have hu1 : (nestedKind X.prog X.w).room X.A.in1 := by show X.A.units + 1 + 8 < cLine; omega
  obtain ⟨p, hp, e⟩ := at_some hl
  have hd := D.dict I.hok
  refine tail_any (hd.typeIs) slot_dict_getitem.lookup (wpAny_getItem_heap hu1 (k.is I.hok) hd hp ?_) hs
  rw [e]
  exact ⟨.ref v0, H, I.tok _, rfl, q⟩
/-- d[(A, B)] = v, not there -/
def rPutP (P : Program) (w : World) : TSet := fun o i v H Q => ∃ d a A B es va, o = .ref d ∧ i = .ref a ∧ v = .ref va ∧ KeyAt H a A B ∧ DictP P w H d es ∧ look es A B = none ∧ es.length < sizeLine ∧ Q (upd H d (KD P w d ((es ++ [(A, B, a, va)]).map entOf)))
theorem set_dictP (hu : X.A.units + 64 < cLine) : PSet X (rPutP X.prog X.w) := by
  intro pins s σ H o i v ov iv u Q I ro ri rv hh
  obtain ⟨d, a, A, B, es, va, rfl, rfl, rfl, k, D, hl, hz, q⟩ := hh
  cases ro
  cases ri
  cases rv
  have hu1 : (nestedKind X.prog X.w).room X.A.in1 := by show X.A.units + 1 + 8 < cLine; omega
  have hsys := (D.raw I.hok).2.1
  refine wpAny_setItem_heap (hsz := by rw [List.length_map]; exact Nat.le_of_lt hz) hu1 (k.is I.hok) (D.dict I.hok) fun h' hm sb => ?_
  rw [storedH_new (at_none hl)] at hm
  have ex : es.map entOf ++ [(keyN A B, a, Value.ref va)] = (es ++ [(A, B, a, va)]).map entOf := by rw [List.map_append]; rfl
  rw [ex] at hm
  obtain ⟨ob, es', ep, h1, h2, h3, h4, _, h6⟩ := hm
  exact ⟨_, I.write (x := d) (e := d) (by rw [D.ob]; exact True.intro) (.inl rfl) (fun b ob2 hb e => (sb.2 b hb).trans e) ⟨ob, h1⟩ (kd_ok ⟨by rw [List.length_map, List.length_append]; exact hz, hsys, ob, es', ep, h1, h2, h3, h4, h6⟩), q⟩
/-- {} -/
def tDNewP (P : Program) (w : World) : TE := fun _ H Q => ∀ d, H d = none → Q (.ref d) (upd H d (KD P w d []))
theorem pe_dnewP {pos : Pos} : PE X (.Dict [] [] pos) (tDNewP X.prog X.w) := ⟨fun pins s σ H Q I hh =>
  wpAny_Dict_empty ⟨.ref s.heap.objs.size, _, I.laid (a := s.heap.objs.size) (o := KD X.prog X.w s.heap.objs.size []) (t' := s.toks) (fun _ _ q => Heap.get?_push_of_some _ q) (Nat.le_refl _)
    (kd_ok ⟨Nat.zero_le _, beq_eq_false_iff_ne.mpr (Ne.symm (Nat.ne_of_lt I.big)), _, #[], 0, Heap.get?_push_size _ rfl, ⟨rfl, rfl, rfl⟩, rfl, rfl, List.nodup_nil⟩), rfl, hh _ (I.hok.fresh (Nat.le_refl _))⟩⟩
end
theorem TupI.same {H H' : Hp} {a : Addr} {l : List Int} (s : Same H H') (t : TupI H a l) : TupI H' a l := s _ _ t
theorem KeyAt.same {H H' : Hp} {a : Addr} {A B : List Int} (s : Same H H') (k : KeyAt H a A B) : KeyAt H' a A B := by
  obtain ⟨p, q, e, t1, t2⟩ := k
  exact ⟨p, q, s _ _ e, t1.same s, t2.same s⟩
end BjR
/-! Beanjars: an own exception class straight over OverflowError whose __init__ calls OverflowError.__init__ and stores a field. -/
namespace BjR
open PySem PySem.Spec PyProof.Rows L2

abbrev oeTail : List Value := [.type "OverflowError", .type "ArithmeticError", .type "Exception", .type "BaseException", .type "object"]
/-- what the written part says of the class at C -/
structure OexO (K : PySem.W.Frag) (C : Addr) : Prop where
  cls : ∃ nm q N bs sn sub ab col dd k0 k1 k2 k3 k5, K.lookup C = some (excClassObj nm q C N bs oeTail true sn sub ab col dd k0 k1 k2 k3 k5 "OverflowError.__new__")
  sa : PySem.W.findIn K (.ref C) "__setattr__" = some (some (.builtin "object.__setattr__"))
  exC : PySem.W.subIn K (.ref C) (.type "BaseException") = some true
  tyC : PySem.W.typeIn K (.ref C) = some (.type "type")
  kC : PySem.W.keepIn K (.ref C) = true
theorem type_OE : typeOf (.type "OverflowError") = pure (.type "type") := by kernel_rfl
theorem pass_OE (self : Value) (C : Addr) : refuseLoop self "__setattr__" (.ref C :: oeTail) = pure () := by
  rw [refuseLoop_ref]
  exact PySem.F.store_OverflowError.passes self
section
open Builtin Builtin.ObjectAttr
variable {prog : Program} {w : World} {A : Around} {E : Value → Shared → Prop} {R : Result → Shared → Prop} {hp : Heap} {g : Array GenState} {d : Drawn} {t : Nat} {os : OsState}
/-- the first field of such an exception: it gets its dict -/
theorem first_field {K : PySem.W.Frag} {name : PySem.Str} {tk : Tok} {v : Value} {x C : Addr} {fv : Array Value} {cd : ClassData}
    (X : K.In hp) (hx : hp.get? x = some { cls := .ref C, data := .fields fv }) (hcd : PySem.W.clsIn K C = some cd) (hm : cd.mro = .ref C :: oeTail) (hh : cd.hasDict = true) (ha : PySem.W.findIn K (.ref C) name = some none)
    (hq : ∀ h' tk' dx, (∀ b o, b ≠ x → hp.get? b = some o → h'.get? b = some o) → hp.objs.size ≤ dx → dx ≠ x → h'.get? x = some { cls := .ref C, dict := some dx, data := .fields fv } →
      h'.Ns1 dx (fun y => if y = name then some v else none) → R (.ok (.ret .none)) ⟨h', g, d, tk', os⟩) :
    codeAny (model prog w) A (.call (.builtin "object.__setattr__") ⟨[.ref x, .str name tk, v], []⟩) R ⟨hp, g, d, t, os⟩ := by
  have J : PySem.W.InstAt hp x { cls := .ref C, data := .fields fv } C none := ⟨hx, rfl, rfl, trivial⟩
  have SF := PySem.F.store_object
  have hob : cd.mro.contains (.type "object") = true := by rw [hm]; rfl
  have hne : cd.mro.isEmpty = false := by rw [hm]; rfl
  have xs : x ≠ hp.objs.size := Nat.ne_of_lt (Heap.lt_size hx)
  have sub : PySem.W.Looks (model prog w) hp (isInstance (.ref x) (.type "object")) true := J.type.andThen (PySem.W.looks_mroIn X (by unfold PySem.W.mroIn; rw [hcd, Option.bind_some, if_neg (by rw [hne]; decide), hob]))
  refine codeAny_call_builtin SF.slot.plain SF.entry (@PySem.W.check_slot (model prog w) _ _ ⟨hp, g, d, t, os⟩ "object.__setattr__" "object" "__setattr__" (.ref x) [.str name tk, v] [] _ SF.kind SF.split sub (SF.args (.ref x) (.str name tk) v) ?_)
  have hmr : PySem.W.Looks (model prog w) hp (mroOf (.ref C)) cd.mro := (PySem.W.looks_clsIn X hcd).andThen .now
  have L3 : PySem.W.Looks (model prog w) hp (storeTaker? none) none := .now
  have hcls : PySem.W.Looks (model prog w) hp (classData C) cd := PySem.W.looks_clsIn X hcd
  rw [PySem.W.osa_eq, refuse_eq]
  refine wpAny_bind (wpAny_bind (J.type.at (wpAny_bind (hmr.at ?_))))
  rw [hm, pass_OE]
  refine wpAny_pure (wpAny_bind (J.type.at (wpAny_bind ((PySem.W.looks_findIn X ha).at (wpAny_bind (L3.at ?_))))))
  show wpAny _ _ (storeInOwnDict (.ref x) (.ref C) (.str name tk) name v false) _ _ _
  obtain ⟨nm, bs, mro, ns, qn, hd, sn, sb, ab, col, del⟩ := cd
  dsimp only at hh
  subst hh
  unfold storeInOwnDict ownDictForStores
  repeat (first | with_reducible refine PySem.HandSPX.store_in_new ?_ ?_ | with_reducible refine wpAny_loadPart_at hx ?_ | with_reducible refine hcls.at ?_ | wp_step)
  · exact ⟨_, #[], _, (Heap.get?_update_ne _ _ _ _ xs.symm).trans (Heap.get?_push_at rfl rfl), rfl, fun e he => absurd he (by simp), fun _ => rfl⟩
  · intro h' tk' hn' hs
    have hx1 : (hp.push { cls := .type "dict", data := .dict #[] }).get? x = some { cls := .ref C, data := .fields fv } := Heap.get?_push_of_some _ hx
    refine hq h' tk' hp.objs.size (fun b o hb ho => ?_) (Nat.le_refl _) xs.symm ?_ hn'
    · exact (hs.2 b (Nat.ne_of_lt (Heap.lt_size ho))).trans ((Heap.get?_update_ne _ _ _ _ hb).trans (Heap.get?_push_of_some _ ho))
    · exact (hs.2 x xs).trans (Heap.get?_update_self _ hx1 rfl)
end

section
variable {X : Cx} {pins : List (Addr × Obj)} {σ : L2.St} {H : Hp} {s : Shared} {a C : Addr} {f : PySem.Str} {y : V} {u : Value} {Q : Unit → Shared → Prop} {E : Value → Shared → Prop} {A : Around}
/-- self.f = y, the first field -/
theorem store_first (T : OexO X.K C) (I : Inv X pins σ H s) (e : H a = some (exo a C none)) (hno : PySem.W.findIn X.K (.ref C) f = some none) (ry : RelV y u)
    (hq : ∀ dx s', H dx = none → dx ≠ a → Inv X pins σ (upd (upd H dx (exd dx [(f, y)])) a (exo a C (some dx))) s' → Q () s') : wpAny (model X.prog X.w) A (setAttr (.ref a) f u) Q E s := by
  obtain ⟨nm, q, N, bs, sn, sub, ab, col, dd, k0, k1, k2, k3, k5, hC⟩ := T.cls
  have hcl : PySem.W.clsIn X.K C = some { name := nm, bases := bs, mro := .ref C :: oeTail, ns := N, qualname := q, hasDict := true, slotNames := sn, subclasses := sub, abstract := ab, collection := col, hasDel := false } := by unfold PySem.W.clsIn; rw [hC] <;> rfl
  obtain ⟨t1, ho⟩ := exo_at I.hok e
  obtain ⟨hp, g, d, t, os⟩ := s
  refine PySem.W.set_plain I.kIn (ox := { cls := .ref C, dict := none, data := .fields #[.ref t1, .none, .none, .none, .bool false, .none] }) (od := none) ⟨ho, rfl, rfl, trivial⟩ T.sa ?_
  refine first_field I.kIn ho hcl rfl rfl hno (fun h' tk' dx k dn dne hx hn => ?_)
  have free : H dx = none := I.hok.fresh dn
  have nd : ∀ {b : Addr} {o : Obj}, hp.get? b = some o → b ≠ dx := fun {b o} z => Nat.ne_of_lt (Nat.lt_of_lt_of_le (Heap.lt_size z) dn)
  have na : ∀ {b : Addr}, H b = none → b ≠ a := fun {b} n z => by
    rw [z, e] at n
    cases n
  have un : Un X.fs [] H (upd (upd H dx (exd dx [(f, y)])) a (exo a C (some dx))) hp h' := {
    keep := fun b o z n _ _ => k b o (na n) z
    slot := fun b o z n _ _ => ⟨o.slots, k b o (na n) z⟩
    free := fun b o z n _ => by rw [upd_ne (na n), upd_ne (nd z)]; exact n
    there := fun b o z _ => by
      by_cases hb : b = a
      · exact ⟨_, by rw [hb]; exact hx⟩
      · exact ⟨o, k b o hb z⟩
    tups := fun b xs z => by rw [upd_ne (at_ne e z exo_tup), upd_ne (ne_of_none z free)]; exact z
    frzs := fun b o v z => by rw [upd_ne (at_ne e z exo_frz), upd_ne (ne_of_none z free)]; exact z
    tbls := fun b ps z => ⟨#[], by rw [upd_ne (at_ne e z exo_tbl), upd_ne (ne_of_none z free), z]; simp⟩ }
  refine hq dx _ free dne (I.un (t' := tk') un fun b o z => ?_)
  by_cases hb : b = a
  · subst hb
    rw [upd_same] at z
    cases z
    exact exo_ok hx
  · rw [upd_ne hb] at z
    by_cases hd : b = dx
    · subst hd
      rw [upd_same] at z
      cases z
      exact exd_ok hn (relO_put (fs := []) ry fun g => True.intro)
    · rw [upd_ne hd] at z
      refine (I.hok b o z).stay (fun c v hc y => k c v ?_ y) (fun c hc => ?_) (fun c xs hc => ?_)
      · rcases hc with hc | hc
        · rw [hc]
          exact hb
        · exact at_ne e hc exo_own
      · rw [upd_ne (at_ne e hc exo_own), upd_ne (ne_of_none hc free)]
        exact hc
      · rw [upd_ne (at_ne e hc exo_tup), upd_ne (ne_of_none hc free)]
        exact hc
/-- OverflowError.__init__(self, ..): nothing of it is told -/
theorem init_plain {us : List Value} {Q : Value → Shared → Prop} (T : OexO X.K C) (I : Inv X pins σ H s) (e : H a = some (exo a C none)) (hl : us.length ≤ sizeLine) (hq : ∀ s', Inv X pins σ H s' → Q .none s') :
    wpAny (model X.prog X.w) A (call (.builtin "OverflowError.__init__") (.ref a :: us)) Q E s := by
  obtain ⟨nm, q, N, bs, sn, sub, ab, col, dd, k0, k1, k2, k3, k5, hC⟩ := T.cls
  obtain ⟨t1, ho⟩ := exo_at I.hok e
  obtain ⟨hp, g, d, t, os⟩ := s
  refine wpAny_call (PySem.HandSPX.init_base PySem.F.excBase_OverflowError (fun Y => rfl) (I.kIn _ _ hC) ho hl fun h' t2 k hx => ?_)
  have J := I.write (t' := t) (x := a) (e := a) (o := exo a C none) (by rw [e]; exact True.intro) (.inl rfl) k ⟨_, hx⟩ (exo_ok hx)
  have same : upd H a (exo a C none) = H := by
    funext b
    by_cases hb : b = a
    · rw [hb, upd_same, e]
    · rw [upd_ne hb]
  rw [same] at J
  exact hq _ J
end

/-! ### readings and rules -/
/-- OverflowError.__init__(self, ..) -/
def tOeI (K : PySem.W.Frag) (ta : TA) : TE := fun σ H Q => ta σ H fun vs H1 => ∃ (a C : Addr) (ws : List V), vs = .ref a :: ws ∧ ws.length ≤ 1000 ∧ OexO K C ∧ H1 a = some (exo a C none) ∧ Q .non H1
/-- self.f = e, the first field -/
def tOs1 (K : PySem.W.Frag) (f : PySem.Str) (to te : TE) : TS := fun D σ H => te σ H fun y H1 => to σ H1 fun x H2 => ∃ a C : Addr, x = .ref a ∧ OexO K C ∧ PySem.W.findIn K (.ref C) f = some none ∧
  H2 a = some (exo a C none) ∧ ∀ dx, H2 dx = none → dx ≠ a → D.nx σ (upd (upd H2 dx (exd dx [(f, y)])) a (exo a C (some dx)))
section
variable {X : Cx} {o e : Expr} {es : List Expr} {to te : TE} {ta : TA} {f : PySem.Str} {p p' p1 p2 pos : Pos}
theorem pe_oeinit {pl : Sem Bool} (hg : Gl X "OverflowError") (hm : X.mg "OverflowError" = none) (vO : PySem.W.findCls X.K (.type "OverflowError") (.type "type") "__init__" = some (.val (.builtin "OverflowError.__init__"))) (ha : PA X (e :: es) ta)
    (hc : eval (.Call (.Attribute (.Name "OverflowError" p1) "__init__" p2) (e :: es) [] pos) X.env = (do
      let ov ← eval (.Name "OverflowError" p1) X.env
      standAt p2.atName
      let (f, first) ← holding [ov] (getMethod ov "__init__" pl)
      callWith pos f first (backTo pos (starEach (e :: es) X.env)) (backToKw pos (keywordEach [] X.env))) := by rfl)
    (he : starEach (e :: es) X.env = (false, eval e X.env) :: starEach es X.env := by rfl) (hpl : (backTo pos (starEach es X.env)).any (·.1) = false := by rfl) :
    PE X (.Call (.Attribute (.Name "OverflowError" p1) "__init__" p2) (e :: es) [] pos) (tOeI X.K ta) := by
  refine ⟨fun pins s σ H Q I hh => ?_⟩
  refine PySem.W.methodCall_KW (ld_blt I hg hm PyProof.Rows.Boot.«OverflowError» ?_ (by decide) (by decide)) hc
  obtain ⟨m, fr⟩ := I.fr
  refine PySem.W.method_type fr I.ok.mod.kin type_OE (by decide +kernel) vO (by decide +kernel) ?_
  show wpAny _ _ (callWith pos (Value.builtin "OverflowError.__init__") [] (backTo pos (starEach (e :: es) X.env)) []) _ _ _
  refine PyProof.Rows.callWith_method1 (thn (ha.run pos pins _ σ H _ (I.tok _) hh) fun us s1 ⟨vs, H1, I1, r1, a, C, ws, ev, hl, T, ea, q⟩ => ?_) he hpl
  subst ev
  cases r1 with
  | @cons _ u0 _ ur ra rw' =>
    obtain rfl : u0 = Value.ref a := ra
    have hlen : ur.length ≤ sizeLine := by
      rw [← Paired.length rw', sizeLine_eq]
      omega
    exact init_plain T I1 ea hlen fun s' J => ⟨.non, H1, J, rfl, q⟩
theorem ps_os1 (ho : PE X o to) (he : PE X e te) (hs : swapsWith e (some (.Attribute o f p')) pos.line X.env = pure false := by rfl) : PS X (.Assign [.Attribute o f p'] e pos) (tOs1 X.K f to te) := by
  refine ⟨fun pins s σ H D I hh => ?_⟩
  refine plainObj_wpAny_Assign_Attribute (thn (he.run pins s σ H _ I hh) fun v s1 ⟨y, H1, I1, r1, q1⟩ => thn (ho.run pins s1 σ H1 _ I1 q1) fun u s2 ⟨x, H2, I2, r2, a, C, ex, T, hno, ea, q⟩ => ?_) hs
  subst ex
  obtain rfl : u = Value.ref a := r2
  exact store_first T I2 ea hno r1 fun dx s' n ne J => ⟨σ, _, J, q dx n ne⟩
/-- C(e, ..), C's own __init__ keeping sp -/
def tMk1 (C : Addr) (sp : Sp) (ta : TA) : L2.St → Hp → XK → Prop := fun σ H Q => ta σ H fun vs H1 => vs.length ≤ 1000 ∧ ∀ a, H1 a = none → sp (.ref a :: vs) (upd H1 a (exo a C none))
  (fun v H2 => v = .non ∧ ∃ (d : Addr) (fs : List (PySem.Str × V)), H2 a = some (exo a C (some d)) ∧ H2 d = some (exd d fs) ∧ H1 d = none ∧ Q (.ref C) (some d) (upd (del H2 a) d (.xd fs))) (fun _ _ _ => False)
theorem pmk_oe {CX : CXT} {x : PySem.Str} {C fI : Addr} {k : Nat} {fd : FuncData} {ps : List PySem.Str} {sp : Sp} (T : OexO X.K C) (iC : PySem.W.findIn X.K (.ref C) "__init__" = some (some (.ref fI))) (tI : PySem.W.typeIn X.K (.ref fI) = some (.type "function"))
    (F1 : FnOk X.prog X.w X.K X.mg X.base CX k fI fd ps sp) (hr : Room (k + 1) X.A) (hb : Binds X.K fd ps []) (hx : Passes CX X (fun _ _ _ => False)) (hg : Gl X x) (hm : X.mg x = some (.ref C)) (ha : PA X (e :: es) ta)
    (hdb : (x == ("__debug__" : PySem.Str)) = false := by decide) (he : starEach (e :: es) X.env = (false, eval e X.env) :: starEach es X.env := by rfl) (hpl : (backTo pos (starEach es X.env)).any (·.1) = false := by rfl) :
    PMk X (.Call (.Name x p) (e :: es) [] pos) (tMk1 C sp ta) := by
  intro pins s σ H Q I hh
  obtain ⟨nm, q, N, bs, sn, sub, ab, col, dd, k0, k1, k2, k3, k5, hC⟩ := T.cls
  refine wpAny_Call_Name_kw (ld_glob I hg hm ?_ hdb)
  refine PySem.W.callWith_K (h₀ := X.base) I.ok.mod.kin T.kC (thn (ha.run pos pins s σ H _ I hh) fun us s1 ⟨vs, H1, I1, r1, hz, q1⟩ => ⟨I1.kIn, ?_⟩) he hpl
  show wpAny _ _ (call (.ref C) us) _ _ _
  obtain ⟨hp, g, dr, tk, os⟩ := s1
  have up1 : hp.objs.size ≤ hp.objs.size + 1 := Nat.le_succ _
  have hn : H1 (hp.objs.size + 1) = none := I1.hok.fresh up1
  have hq := q1 (hp.objs.size + 1) hn
  have kk : ∀ b o, hp.get? b = some o → ((hp.push (PySem.W.kdv_tup us)).push (PySem.HandSPX.excO C hp.objs.size)).get? b = some o := fun b o z => Heap.get?_push_of_some _ (Heap.get?_push_of_some _ z)
  have there : ((hp.push (PySem.W.kdv_tup us)).push (PySem.HandSPX.excO C hp.objs.size)).get? (hp.objs.size + 1) = some (PySem.HandSPX.excO C hp.objs.size) := by heap_get
  have I2 : Inv X pins σ (upd H1 (hp.objs.size + 1) (exo (hp.objs.size + 1) C none)) ⟨(hp.push (PySem.W.kdv_tup us)).push (PySem.HandSPX.excO C hp.objs.size), g, dr, tk, os⟩ :=
    I1.laid (t' := tk) (a := hp.objs.size + 1) (o := exo (hp.objs.size + 1) C none) (h' := (hp.push (PySem.W.kdv_tup us)).push (PySem.HandSPX.excO C hp.objs.size)) kk up1 (exo_ok there)
  have r2 : Vals (V.ref (hp.objs.size + 1) :: vs) (Value.ref (hp.objs.size + 1) :: us) := .cons rfl r1
  have hl : (Value.ref (hp.objs.size + 1) :: us ++ []).length = ps.length := by
    have z := r2.length
    rw [F1.len _ _ _ _ hq] at z
    rw [List.append_nil]
    exact z.symm
  have hus : us.length ≤ sizeLine := by
    rw [← Paired.length r1, sizeLine_eq]
    omega
  have bnd := hb ⟨(hp.push (PySem.W.kdv_tup us)).push (PySem.HandSPX.excO C hp.objs.size), g, dr, tk, os⟩ (Value.ref (hp.objs.size + 1) :: us) I2.kIn hl
  rw [List.append_nil] at bnd
  refine wpAny_call (PySem.HandSPX.call_own PySem.F.excBase_OverflowError (fun Y => rfl) (I1.kIn _ _ hC) (PySem.W.looks_findIn I1.kIn iC) (fun self => PySem.W.bind_fn I1.kIn self tI) hus
    (codeAny_mono (F1.run _ X.stack _ _ ⟨Value.ref (hp.objs.size + 1) :: us, []⟩ (Value.ref (hp.objs.size + 1) :: us) _ _ (fun _ _ _ => False) (hr.make C us []) (I2.env0.make C us []) bnd r2 hq) fun r s' hq' => ?_))
  cases r with
  | error er => exact hx pins σ _ _ er s' I2 hq'
  | ok fl =>
    cases fl with
    | next => exact hq'.elim
    | brk => exact hq'.elim
    | cont => exact hq'.elim
    | ret u =>
      obtain ⟨v, H2, os2, bare2, un2, hok2, rv, ev, d, fs, ea, ed, hd1, q2⟩ := hq'
      subst ev
      obtain ⟨h2, g2, d2, t2, os'⟩ := s'
      exact ⟨rv, mk_end (raises_own T.exC T.tyC) I1 up1 kk un2 hok2 os2 bare2 ea ed hd1 q2⟩
end
end BjR
/-! Beanjars: the text by places, what stands in the heap. -/
namespace BjP
open PySem L2 Bj BjR
def top (i : Nat) : Stmt := PySem.Challenge.pw_beanjars_k92_whole_added_numbers_of_bean.main.body.getD i (.Pass ⟨0, 0, 0, 0⟩)
abbrev sLimInit : Stmt := inClass (top 5) 0
abbrev sIsInt : Stmt := top 8
abbrev sIsCol : Stmt := top 9
abbrev sShape : Stmt := top 10
abbrev sPlaces : Stmt := top 11
abbrev sWrong : Stmt := top 12
abbrev sTabInit : Stmt := inClass (top 13) 0
abbrev sTabSize : Stmt := inClass (top 13) 1
abbrev sTabRows : Stmt := inClass (top 13) 2
abbrev sTabVal : Stmt := inClass (top 13) 3
abbrev sProInit : Stmt := inClass (top 15) 0
abbrev sProProd : Stmt := inClass (top 15) 1
abbrev sProUnion : Stmt := inClass (top 15) 2
abbrev sBetween : Stmt := top 18
abbrev sFirst : Stmt := top 19
abbrev sStart : Stmt := top 20
abbrev sFindP : Stmt := top 21
abbrev sFindS : Stmt := top 22
abbrev sPeriod : Stmt := top 23
abbrev sReduced : Stmt := top 24
abbrev sCount : Stmt := top 25
abbrev sBeans : Stmt := top 26
abbrev sLead : Stmt := top 27
abbrev sCLead : Stmt := top 28
abbrev sPool : Stmt := top 30
abbrev sDraw : Stmt := top 31
abbrev sSome : Stmt := top 32
abbrev sDrawn : Stmt := top 33
abbrev sAfter : Stmt := top 34
abbrev sChoices : Stmt := top 35
abbrev sEnd : Stmt := top 36
abbrev sRepeated : Stmt := top 37
abbrev sNumber : Stmt := top 38
abbrev sSumR : Stmt := top 39
abbrev sLaw : Stmt := top 40

/-! ### heaps -/
theorem same_upd {H : Hp} {p : Addr} {o : HO} (h : H p = none) : Same H (upd H p o) := fun b x e => by
  rw [upd_ne (ne_of_none e h)]
  exact e
/-- all but what stood at d is as it was; something stands at d still -/
structure But (d : Addr) (H H' : Hp) : Prop where
  keep : ∀ b o, b ≠ d → H b = some o → H' b = some o
  here : H d ≠ none → H' d ≠ none
theorem Same.but {H H' : Hp} {d : Addr} (s : Same H H') : But d H H' := ⟨fun b o _ e => s b o e, fun h z => by
  cases q : H d with
  | none => exact h q
  | some o => rw [s d o q] at z; cases z⟩
theorem But.trans {d : Addr} {H H1 H2 : Hp} (a : But d H H1) (b : But d H1 H2) : But d H H2 := ⟨fun c o n e => b.keep c o n (a.keep c o n e), fun h => b.here (a.here h)⟩
theorem But.free {d l : Addr} {H H' : Hp} (a : But d H H') (h : H' l = none) : H l = none := by
  cases q : H l with
  | none => rfl
  | some o =>
    by_cases e : l = d
    · subst e
      exact absurd h (a.here (by rw [q]; simp))
    · rw [a.keep l o e q] at h
      cases h
theorem But.upd {d : Addr} {H : Hp} {o : HO} : But d H (upd H d o) := ⟨fun b u n e => by rw [upd_ne n]; exact e, fun _ => by rw [upd_same]; simp⟩
theorem But.refl (d : Addr) (H : Hp) : But d H H := Same.but (Same.refl H)

/-! ### data -/
/-- colours as values -/
def vI (l : List Nat) : List V := (toI l).map V.int
theorem vI_eq (l : List Nat) : vI l = l.map fun (x : Nat) => V.int (x : Int) := by
  unfold vI toI
  rw [List.map_map]
  rfl
theorem vI_len (l : List Nat) : (vI l).length = l.length := by rw [vI_eq, List.length_map]
theorem vI_get {l : List Nat} {i x : Nat} (h : l[i]? = some x) : (vI l)[i]? = some (V.int (x : Int)) := by
  rw [vI_eq, List.getElem?_map, h]
  rfl
theorem vI_of {l : List Nat} {i : Nat} {y : V} (h : (vI l)[i]? = some y) : ∃ x, l[i]? = some x ∧ y = V.int (x : Int) := by
  rw [vI_eq, List.getElem?_map] at h
  obtain ⟨x, e, q⟩ := Option.map_eq_some_iff.mp h
  exact ⟨x, e, q.symm⟩
/-- the rows of a table, lists, in a list at L -/
structure RowsAt (H : Hp) (L : Addr) (as : List Addr) (rows : List (List Nat)) : Prop where
  top : H L = some (.lst (as.map V.ref))
  len : as.length = rows.length
  row : ∀ (i : Nat) (a : Addr) (r : List Nat), as[i]? = some a → rows[i]? = some r → H a = some (.lst (vI r))
theorem RowsAt.same {H H' : Hp} {L : Addr} {as : List Addr} {rows : List (List Nat)} (s : Same H H') (R : RowsAt H L as rows) : RowsAt H' L as rows :=
  ⟨s _ _ R.top, R.len, fun i a r h1 h2 => s _ _ (R.row i a r h1 h2)⟩
theorem RowsAt.get {H : Hp} {L : Addr} {as : List Addr} {rows : List (List Nat)} (R : RowsAt H L as rows) {i : Nat} {r : List Nat} (h : rows[i]? = some r) : ∃ a, as[i]? = some a ∧ (as.map V.ref)[i]? = some (V.ref a) ∧ H a = some (.lst (vI r)) := by
  have hi : i < as.length := by
    rw [R.len]
    exact (List.getElem?_eq_some_iff.mp h).1
  have e : as[i]? = some as[i] := List.getElem?_eq_getElem hi
  exact ⟨as[i], e, by rw [List.getElem?_map, e]; rfl, R.row i _ r e h⟩
theorem Tab.rowAt {k : Nat} {rows : List (List Nat)} (T : Tab k rows) {a : Nat} (ha : a < k) : ∃ r, rows[a]? = some r ∧ r.length = k ∧ ∀ b, b < k → r[b]? = some (cell rows a b) := by
  have h1 : a < rows.length := by rw [T.len]; exact ha
  refine ⟨rows[a], List.getElem?_eq_getElem h1, T.row _ (List.getElem_mem h1), fun b hb => ?_⟩
  have h2 : b < rows[a].length := by rw [T.row _ (List.getElem_mem h1)]; exact hb
  have e : cell rows a b = rows[a][b] := by
    unfold cell
    rw [List.getD_eq_getElem?_getD, List.getD_eq_getElem?_getD, List.getElem?_eq_getElem h1]
    simp only [Option.getD_some]
    rw [List.getElem?_eq_getElem h2]
    rfl
  rw [e]
  exact List.getElem?_eq_getElem h2
/-- an item of a table, through the rows -/
theorem RowsAt.cell {H : Hp} {L : Addr} {as : List Addr} {rows : List (List Nat)} {k : Nat} (R : RowsAt H L as rows) (T : Tab k rows) {a b : Nat} (ha : a < k) (hb : b < k) :
    ∃ p r, atI (as.map V.ref) (a : Int) = some (V.ref p) ∧ H p = some (.lst (vI r)) ∧ atI (vI r) (b : Int) = some (V.int (Bj.cell rows a b : Int)) := by
  obtain ⟨r, e1, _, e3⟩ := Tab.rowAt T ha
  obtain ⟨p, _, e5, e6⟩ := R.get e1
  exact ⟨p, r, atI_nat e5, e6, atI_nat (vI_get (e3 b hb))⟩
/-- a Table at p -/
def TableAt (C : Addr) (H : Hp) (p : Addr) (rows : List (List Nat)) : Prop := ∃ dx L as, H p = some (.ins C dx [("own_rows", .ref L)]) ∧ RowsAt H L as rows
theorem TableAt.same {C : Addr} {H H' : Hp} {p : Addr} {rows : List (List Nat)} (s : Same H H') (T : TableAt C H p rows) : TableAt C H' p rows := by
  obtain ⟨dx, L, as, e, R⟩ := T
  exact ⟨dx, L, as, s _ _ e, R.same s⟩
theorem lk_rows (v : V) : ([("own_rows", v)] : List (PySem.Str × V)).lookup ("own_rows" : PySem.Str) = some v := by simp [List.lookup]
theorem lk_no (v : V) {m : PySem.Str} (h : ¬ m = "own_rows") : ([("own_rows", v)] : List (PySem.Str × V)).lookup m = none := by
  have e : (m == ("own_rows" : PySem.Str)) = false := by simpa using h
  simp [List.lookup, e]
theorem put_rows (v : V) : putF "own_rows" v [] = ([("own_rows", v)] : List (PySem.Str × V)) := rfl
end BjP
/-! Beanjars: rules within a comprehension's block, the written part named; what the built-in names are. -/
namespace BjP
open PySem L2 Bj BjR
theorem bIsi : bootBuiltins "isinstance" = some (.builtin "isinstance") := by decide +kernel
theorem bLen : bootBuiltins "len" = some (.builtin "len") := by decide +kernel
theorem bAll : bootBuiltins "all" = some (.builtin "all") := by decide +kernel
theorem bSum : bootBuiltins "sum" = some (.builtin "sum") := by decide +kernel
theorem bMax : bootBuiltins "max" = some (.builtin "max") := by decide +kernel
theorem bMin : bootBuiltins "min" = some (.builtin "min") := by decide +kernel
theorem bSorted : bootBuiltins "sorted" = some (.builtin "sorted") := by decide +kernel
theorem bInt : bootBuiltins "int" = some (.type "int") := by decide +kernel
theorem bBool : bootBuiltins "bool" = some (.type "bool") := by decide +kernel
theorem bList : bootBuiltins "list" = some (.type "list") := by decide +kernel
theorem bTuple : bootBuiltins "tuple" = some (.type "tuple") := by decide +kernel
section
variable {X : Cx} {a b : Expr} {ta tb : TE} {pos : Pos}
theorem isiTK (K : PySem.W.Frag) (hK : X.K = K := by rfl) : CallR X (.builtin "isinstance") (rIsiT K) := by
  subst hK
  exact call_isiT
theorem lenK (K : PySem.W.Frag) (hK : X.K = K := by rfl) : CallR X (.builtin "len") (fun xs H Q => ∃ p ys, xs = [.ref p] ∧ (SqL K H p ys ∨ SqT K H p ys) ∧ Q (.int ys.length) H) := by
  subst hK
  exact call_len_seq
theorem listK (K : PySem.W.Frag) (hK : X.K = K := by rfl) : CallR X (.type "list") (fun xs H Q => ∃ p ys, xs = [.ref p] ∧ (SqL K H p ys ∨ SqT K H p ys) ∧ ∀ l, H l = none → Q (.ref l) (upd H l (.lst ys))) := by
  subst hK
  exact call_list_of
theorem ixLK (K : PySem.W.Frag) (hK : X.K = K := by rfl) : IxR X (rIxL K) := by
  subst hK
  exact ix_list
theorem ixTK (K : PySem.W.Frag) (hK : X.K = K := by rfl) : IxR X (rIxT K) := by
  subst hK
  exact ix_tup
theorem inK (K : PySem.W.Frag) (hK : X.K = K := by rfl) : OpR X (compareOp .In) (rIn K false) := by
  subst hK
  exact op_in_seq
theorem notInK (K : PySem.W.Frag) (hK : X.K = K := by rfl) : OpR X (compareOp .NotIn) (rIn K true) := by
  subst hK
  exact op_notIn_seq
theorem fldK (K : PySem.W.Frag) {f : PySem.Str} (he : PE X a ta) (hb : attributeBase a f X.env (eval a X.env) = eval a X.env) (hK : X.K = K := by rfl) : PE X (.Attribute a f pos) (tFld K ta f) := by
  subst hK
  exact pe_fld he hb
theorem piLK (K : PySem.W.Frag) {tg : Expr} (he : PE X a ta) (hK : X.K = K := by rfl) : PI X tg a (iList K ta) := by
  subst hK
  exact pi_list he
theorem piTK (K : PySem.W.Frag) {tg : Expr} (he : PE X a ta) (hK : X.K = K := by rfl) : PI X tg a (iTup K ta) := by
  subst hK
  exact pi_tup he
end
theorem dq {Q : VK} {H : Hp} {c : Prop} [Decidable c] (h : c) (k : Q (.bl true) H) : Q (.bl (decide c)) H := by
  rw [decide_eq_true h]
  exact k
theorem dqF {Q : VK} {H : Hp} {c : Prop} [Decidable c] (h : ¬ c) (k : Q (.bl false) H) : Q (.bl (decide c)) H := by
  rw [decide_eq_false h]
  exact k
theorem iteD {c A B : Prop} [Decidable c] (h : c) (k : A) : if decide c = true then A else B := by
  rw [decide_eq_true h]
  exact iteT k
theorem iteDF {c A B : Prop} [Decidable c] (h : ¬ c) (k : B) : if decide c = true then A else B := by
  rw [decide_eq_false h]
  exact iteF k
theorem two_line : (2 : Nat) ≤ sizeLine := by decide
/-- isinstance of a list, (list, tuple) -/
theorem isi_list {K : PySem.W.Frag} : PySem.W.kitAny K (.type "list") [.type "list", .type "tuple"] = some true := kitAny_cons (b := true) (kit_ty (by decide +kernel)) (fun z => by cases z) (fun _ => rfl)
theorem cls2 : Paired ClsV [V.ty "list", V.ty "tuple"] [Value.type "list", Value.type "tuple"] := .cons (.ty _) (.cons (.ty _) .nil)
/-- the built-in names of the module are the built-ins -/
structure Blt (mg : PySem.Str → Option Value) : Prop where
  isi : mg "isinstance" = none
  int : mg "int" = none
  bool : mg "bool" = none
  list : mg "list" = none
  tuple : mg "tuple" = none
  len : mg "len" = none
  all : mg "all" = none
  range : mg "range" = none
  sorted : mg "sorted" = none
  sum : mg "sum" = none
  max : mg "max" = none
  min : mg "min" = none
/-- a def of the module, told by its promise -/
structure DefOk (P : Program) (w : World) (K : PySem.W.Frag) (mg : PySem.Str → Option Value) (base : Heap) (CX : CXT) (k : Nat) (x : PySem.Str) (ps : List PySem.Str) (sp : Sp) : Prop where
  ex : ∃ f fd, mg x = some (.ref f) ∧ PySem.W.keepIn K (.ref f) = true ∧ Binds K fd ps [] ∧ FnOk P w K mg base CX k f fd ps sp
/-- a method of the class at C -/
structure MethOk (P : Program) (w : World) (K : PySem.W.Frag) (mg : PySem.Str → Option Value) (base : Heap) (CX : CXT) (C : Addr) (k : Nat) (x : PySem.Str) (ps : List PySem.Str) (sp : Sp) : Prop where
  ex : ∃ f fd, Meth K C x f ∧ Binds K fd ps [] ∧ FnOk P w K mg base CX k f fd ps sp
end BjP
/-! Beanjars: whole numbers, colours, shapes. -/
namespace BjP
open PySem L2 Bj BjR
section
variable {P : Program} {w : World} {K : PySem.W.Frag} {mg : PySem.Str → Option Value} {base : Heap}
/-! ### is_integer -/
def spIsInt : Sp := fun vs H Q _ => ∃ i : Int, vs = [.int i] ∧ Q (.bl true) H
theorem scIsInt : FnScope ["value"] ["value"] (defScope sIsInt) := ⟨rfl, rfl, rfl, by decide +kernel, rfl, by decide +kernel, by decide +kernel⟩
theorem ok_isInt {f : Addr} {fd : FuncData} (B : Blt mg) (F : Fun K "is_integer" "is_integer" sIsInt f fd) : FnOk P w K mg base CX0 1 f fd ["value"] spIsInt := by
  refine F.ok scIsInt (fun vs H Q E h => ?_) (fun cdv A outer s H vs Q E hr h => ?_)
  · obtain ⟨i, rfl, _⟩ := h
    rfl
  · obtain ⟨i, rfl, k⟩ := h
    refine ⟨_, pss_one (ps_ret (pe_and (pe_callB call_isi (by rfl) B.isi bIsi (pa_cons (pv 0) (pa_cons (pe_bltn (v := .ty "int") (by rfl) B.int bInt rfl) pa_nil)))
      (pe_one (pe_not (pe_callB call_isi (by rfl) B.isi bIsi (pa_cons (pv 0) (pa_cons (pe_bltn (v := .ty "bool") (by rfl) B.bool bBool rfl) pa_nil))))))), ?_⟩
    refine ⟨_, rfl, _, _, .type "int", .type "int", true, rfl, .ty "int", .base (.int _), kit_ty (by decide +kernel), true, rfl, iteT ?_⟩
    exact ⟨_, rfl, _, _, .type "int", .type "bool", false, rfl, .ty "bool", .base (.int _), kit_ty (by decide +kernel), false, rfl, k⟩
/-! ### is_colour -/
def spIsCol : Sp := fun vs H Q _ => ∃ k v : Nat, vs = [.int k, .int v] ∧ v < k ∧ Q (.bl true) H
theorem scIsCol : FnScope ["size", "value"] ["size", "value"] (defScope sIsCol) := ⟨rfl, rfl, rfl, by decide +kernel, rfl, by decide +kernel, by decide +kernel⟩
theorem ok_isCol {f : Addr} {fd : FuncData} (D1 : DefOk P w K mg base CX0 1 "is_integer" ["value"] spIsInt) (F : Fun K "is_colour" "is_colour" sIsCol f fd) : FnOk P w K mg base CX0 2 f fd ["size", "value"] spIsCol := by
  obtain ⟨f1, fd1, m1, k1, b1, G1⟩ := D1.ex
  refine F.ok scIsCol (fun vs H Q E h => ?_) (fun cdv A outer s H vs Q E hr h => ?_)
  · obtain ⟨n, v, rfl, _⟩ := h
    rfl
  · obtain ⟨n, v, rfl, hv, k⟩ := h
    refine ⟨_, pss_one (ps_ret (pe_and (pe_call G1 hr (by rfl) m1 k1 b1 .nil pass0 (pa_cons (pv 1) pa_nil)) (pe_one (pe_chain op_le op_lt pe_int (pv 1) (pv 0))))), ?_⟩
    refine ⟨_, rfl, _, rfl, true, rfl, iteT ?_⟩
    refine ⟨_, rfl, _, _, rfl, rfl, _, rfl, ?_⟩
    rw [decide_eq_true (show (0 : Int) ≤ (v : Int) by omega)]
    exact iteT ⟨_, rfl, _, _, rfl, rfl, dq (Q := Q) (by omega) k⟩
/-! ### has_shape -/
def spShape (K : PySem.W.Frag) : Sp := fun vs H Q _ => ∃ (L : Addr) (as : List Addr) (rows : List (List Nat)) (k : Nat), vs = [.ref L] ∧ RowsAt H L as rows ∧ Tab k rows ∧ ∀ H', Same H H' → Q (.bl true) H'
theorem scShape : FnScope ["rows", "row"] ["rows"] (defScope sShape) := ⟨rfl, rfl, rfl, by decide +kernel, rfl, by decide +kernel, by decide +kernel⟩
theorem ok_shape {f : Addr} {fd : FuncData} (B : Blt mg) (m8 : ∃ t, mg "MAX_COLOURS" = some (.int 8 t)) (F : Fun K "has_shape" "has_shape" sShape f fd) : FnOk P w K mg base CX0 1 f fd ["rows"] (spShape K) := by
  obtain ⟨t8, m8⟩ := m8
  refine F.ok scShape (fun vs H Q E h => ?_) (fun cdv A outer s H vs Q E hr h => ?_)
  · obtain ⟨L, as, rows, k, rfl, _⟩ := h
    rfl
  · obtain ⟨L, as, rows, k, rfl, R, T, q⟩ := h
    refine ⟨_, pss_cons (ps_if (PW.pt (pw_or (pt_not (pt_val (pe_callB call_isiT (by rfl) B.isi bIsi (pa_cons (pv 0) (pa_cons (pe_tup (pa_cons (pe_bltn (v := .ty "list") (by rfl) B.list bList rfl) (pa_cons (pe_bltn (v := .ty "tuple") (by rfl) B.tuple bTuple rfl) pa_nil))) pa_nil)))))
        (pw_or1 (pt_not (pt_chain op_le op_le pe_int (pe_callB call_len_seq (by rfl) B.len bLen (pa_cons (pv 0) pa_nil)) (pe_glob (v := .int 8) (by rfl) m8 ⟨_, rfl⟩)))))) (pss_one (ps_ret pe_bl)) pss_nil)
      (pss_one (ps_ret (pe_callB (cr_all rfl) (by rfl) B.all bAll (pa_cons (pe_lc (own := [("row", 1)]) (g := gName 1) (tt := tYes) rfl scShape.nd (pi_list (pv 0)) (blkOk_by (N := ["rows", "row"]) (sc := defScope sShape) (by decide +kernel))
        (fun _ _ _ _ _ => pg_name (i := 1) scShape.nd rfl (Or.inl rfl)) (fun _ _ _ _ _ => pts_nil)
        (fun _ _ _ _ _ => pe_and (pe_callB (isiTK K) (by rfl) B.isi bIsi (pa_cons (pv 1) (pa_cons (pe_tup (pa_cons (pe_bltn (v := .ty "list") (by rfl) B.list bList rfl) (pa_cons (pe_bltn (v := .ty "tuple") (by rfl) B.tuple bTuple rfl) pa_nil))) pa_nil)))
          (pe_one (pe_cmpR op_eq (pe_callB (lenK K) (by rfl) B.len bLen (pa_cons (pv 1) pa_nil)) (pe_callB (lenK K) (by rfl) B.len bLen (pa_cons (pv 0) pa_nil)) (nomark _))))) pa_nil)))), ?_⟩
    refine ⟨_, rfl, two_line, fun p hp => ?_⟩
    have s1 : Same H (upd H p (.tup [.ty "list", .ty "tuple"])) := same_upd hp
    have R1 := R.same s1
    refine ⟨_, p, _, .type "list", _, true, rfl, upd_same, cls2, .base (.lst R1.top), isi_list, true, rfl, iteF ?_⟩
    refine ⟨_, rfl, L, as.map V.ref, rfl, .inl (SqL.of R1.top), ?_⟩
    have hl : (as.map V.ref).length = k := by rw [List.length_map, R.len, T.len]
    have h1 := T.pos
    have h8 := T.le8
    refine ⟨_, _, rfl, rfl, true, congrArg V.bl (decide_eq_true (by omega)), iteT ?_⟩
    refine ⟨_, _, rfl, rfl, true, congrArg V.bl (decide_eq_true (by omega)), ?_⟩
    refine iteF ?_
    refine ⟨_, rfl, L, rfl, ⟨_, SqL.of R1.top⟩, fun D hD => ?_⟩
    refine lc_list (K := K) (a := L) (xs := as.map V.ref) (fun i H' => Same (upd H p (.tup [.ty "list", .ty "tuple"])) H' ∧ H' D = some (.lst ((List.replicate i true).map V.bl))) ⟨same_upd hD, upd_same⟩ (fun i H' _ ⟨sm, _⟩ => SqL.of (R1.same sm).top) ?_ ?_
    · rintro i x H' hx ⟨sm, hDs⟩
      obtain ⟨a, ha, rfl⟩ : ∃ a, as[i]? = some a ∧ x = V.ref a := by
        rw [List.getElem?_map] at hx
        obtain ⟨a, e, q⟩ := Option.map_eq_some_iff.mp hx
        exact ⟨a, e, q.symm⟩
      have hi : i < rows.length := by
        rw [← R.len]
        exact (List.getElem?_eq_some_iff.mp ha).1
      have R2 := R1.same sm
      have hrow := R2.row i a rows[i] ha (List.getElem?_eq_getElem hi)
      have hrl := T.row _ (List.getElem_mem hi)
      refine ⟨rfl, ?_⟩
      refine ⟨_, rfl, two_line, fun p2 hp2 => ?_⟩
      have s2 : Same H' (upd H' p2 (.tup [.ty "list", .ty "tuple"])) := same_upd hp2
      refine ⟨_, p2, _, .type "list", _, true, rfl, upd_same, cls2, .base (.lst (s2 _ _ hrow)), isi_list, true, rfl, iteT ?_⟩
      refine ⟨_, rfl, a, _, rfl, .inl (SqL.of (s2 _ _ hrow)), _, rfl, L, _, rfl, .inl (SqL.of (s2 _ _ R2.top)), rfl, ?_⟩
      refine ⟨_, s2 _ _ hDs, ?_, ?_, ?_⟩
      · rw [List.length_map, List.length_replicate]
        exact small1000 (by rw [T.len] at hi; omega)
      · intro b o e
        have nb : b ≠ D := ne_of_none e hD
        rw [upd_ne nb]
        exact s2 _ _ (sm _ _ e)
      · rw [upd_same]
        have e : decide (V.int ((vI rows[i]).length : Int) = V.int ((as.map V.ref).length : Int)) = true := by
          rw [vI_len, hrl, hl]
          exact decide_eq_true rfl
        rw [e, List.replicate_succ', List.map_append]
        rfl
    · rintro H' ⟨sm, hDs⟩
      refine ⟨D, _, rfl, SqL.of hDs, ?_⟩
      have e : (List.replicate (as.map V.ref).length true).all id = true := by simp
      rw [e]
      exact q H' fun b o z => sm _ _ (s1 _ _ z)
end
end BjP
/-! Beanjars: the places, the first wrong one. -/
namespace BjP
open PySem L2 Bj BjR
section
variable {P : Program} {w : World} {K : PySem.W.Frag} {mg : PySem.Str → Option Value} {base : Heap}
/-- x is a pair of colours below k -/
def PairAt (H : Hp) (k : Nat) (x : V) : Prop := ∃ (t : Addr) (a b : Nat), x = .ref t ∧ H t = some (.tup [.int a, .int b]) ∧ a < k ∧ b < k
theorem PairAt.same {H H' : Hp} {k : Nat} {x : V} (s : Same H H') (h : PairAt H k x) : PairAt H' k x := by
  obtain ⟨t, a, b, e, q, r⟩ := h
  exact ⟨t, a, b, e, s _ _ q, r⟩
def spPlaces : Sp := fun vs H Q _ => ∃ k : Nat, vs = [.int k] ∧ k ≤ 8 ∧ ∀ (H' : Hp) (D : Addr) (xs : List V), Same H H' → H' D = some (.lst xs) → (∀ x ∈ xs, PairAt H' k x) → Q (.ref D) H'
theorem scPlaces : FnScope ["size", "a", "b"] ["size"] (defScope sPlaces) := ⟨rfl, rfl, rfl, by decide +kernel, rfl, by decide +kernel, by decide +kernel⟩
/-- what is made so far -/
def Made (H0 H : Hp) (D : Addr) (k n : Nat) : Prop := Same H0 H ∧ ∃ xs : List V, H D = some (.lst xs) ∧ xs.length = n ∧ ∀ x ∈ xs, PairAt H k x
theorem ok_places {f : Addr} {fd : FuncData} (B : Blt mg) (F : Fun K "places" "places" sPlaces f fd) : FnOk P w K mg base CX0 1 f fd ["size"] spPlaces := by
  refine F.ok scPlaces (fun vs H Q E h => ?_) (fun cdv A outer s H vs Q E hr h => ?_)
  · obtain ⟨k, rfl, _⟩ := h
    rfl
  · obtain ⟨k, rfl, h8, q⟩ := h
    refine ⟨_, pss_one (ps_ret (pe_lc2 (own := [("a", 1), ("b", 2)]) (vs1 := [2]) (g := gName 1) (g1 := gName 2) (tt := tYes) (tt1 := tYes) rfl scPlaces.nd (pi_range1 (by rfl) B.range (pa_cons (pv 0) pa_nil))
      (blkOk_by (N := ["size", "a", "b"]) (sc := defScope sPlaces) (by decide +kernel)) (by decide)
      (fun _ _ _ _ _ => pg_name (i := 1) scPlaces.nd rfl (Or.inl rfl)) (fun _ _ _ _ _ => pts_nil) (fun _ _ _ _ _ => pi_range1 (by rfl) B.range (pa_cons (pv 0) pa_nil))
      (fun _ _ _ _ _ => pg_name (i := 2) scPlaces.nd rfl (Or.inl rfl)) (fun _ _ _ _ _ => pts_nil) (fun _ _ _ _ _ => pe_tup (pa_cons (pv 1) (pa_cons (pv 2) pa_nil))))), ?_⟩
    refine ⟨_, rfl, k, rfl, by omega, by omega, fun D hD => ?_⟩
    refine ⟨fun i m H1 => m + i = k ∧ Made H H1 D k (i * k), ⟨k, by omega, same_upd hD, [], upd_same, by simp, by simp⟩, ?_⟩
    rintro i m H1 ⟨em, hM⟩
    by_cases hi : i < k
    · refine .inr ⟨hi, fun H' => Made H H' D k ((i + 1) * k), fun H' hH' => ⟨m - 1, by omega, by omega, hH'⟩, ?_⟩
      rintro x H2 ⟨rfl, rfl⟩
      refine ⟨rfl, ?_⟩
      refine ⟨_, rfl, k, rfl, by omega, by omega, ?_⟩
      refine ⟨fun j m1 H3 => m1 + j = k ∧ Made H H3 D k (i * k + j), ⟨k, by omega, hM⟩, ?_⟩
      rintro j m1 H3 ⟨em1, hM3⟩
      by_cases hj : j < k
      · refine .inr ⟨hj, fun H' => Made H H' D k (i * k + (j + 1)), fun H' hH' => ⟨m1 - 1, by omega, by omega, hH'⟩, ?_⟩
        rintro y H4 ⟨rfl, rfl⟩
        refine ⟨rfl, ?_⟩
        refine ⟨_, rfl, _, rfl, two_line, fun t ht => ?_⟩
        obtain ⟨sm, xs, hxs, hlen, hall⟩ := hM3
        have s2 : Same H4 (upd H4 t (.tup [.int (0 + (i : Int)), .int (0 + (j : Int))])) := same_upd ht
        refine ⟨xs, s2 _ _ hxs, ?_, ?_, xs ++ [.ref t], upd_same, by rw [List.length_append, hlen]; rfl, fun x hx => ?_⟩
        · have : i * k + j ≤ 72 := by
            have h1 : i * k ≤ 8 * 8 := Nat.mul_le_mul (by omega) h8
            omega
          exact small1000 (by omega)
        · intro b o e
          rw [upd_ne (ne_of_none e hD)]
          exact s2 _ _ (sm _ _ e)
        · have nt : t ≠ D := fun z => by
            rw [z] at ht
            rw [hxs] at ht
            cases ht
          have up : ∀ {b : Addr} {o : HO}, b ≠ D → (upd H4 t (.tup [.int (0 + (i : Int)), .int (0 + (j : Int))])) b = some o → (upd (upd H4 t (.tup [.int (0 + (i : Int)), .int (0 + (j : Int))])) D (.lst (xs ++ [.ref t]))) b = some o := fun nb e => by
            rw [upd_ne nb]
            exact e
          rcases List.mem_append.mp hx with hx | hx
          · obtain ⟨t1, a1, b1, e1, e2, e3⟩ := hall x hx
            exact ⟨t1, a1, b1, e1, up (ne_of e2 hxs (by intro z; cases z)) (s2 _ _ e2), e3⟩
          · rw [List.mem_singleton.mp hx]
            refine ⟨t, i, j, rfl, up nt ?_, hi, hj⟩
            rw [upd_same, Int.zero_add, Int.zero_add]
      · have ej : j = k := by omega
        subst ej
        refine .inl ⟨Nat.le_refl _, ?_⟩
        have e : i * j + j = (i + 1) * j := by rw [Nat.succ_mul]
        rw [e] at hM3
        exact hM3
    · have ei : i = k := by omega
      subst ei
      obtain ⟨sm, xs, hxs, _, hall⟩ := hM
      exact .inl ⟨Nat.le_refl _, q _ _ xs sm hxs hall⟩
/-! ### first_wrong_place -/
def spWrong : Sp := fun vs H Q _ => ∃ (L : Addr) (as : List Addr) (rows : List (List Nat)) (k : Nat), vs = [.ref L] ∧ RowsAt H L as rows ∧ Tab k rows ∧ ∀ H', Same H H' → Q .non H'
theorem scWrong : FnScope ["rows", "a", "b"] ["rows"] (defScope sWrong) := ⟨rfl, rfl, rfl, by decide +kernel, rfl, by decide +kernel, by decide +kernel⟩
theorem ok_wrong {f : Addr} {fd : FuncData} (B : Blt mg) (D1 : DefOk P w K mg base CX0 2 "is_colour" ["size", "value"] spIsCol) (D2 : DefOk P w K mg base CX0 1 "places" ["size"] spPlaces)
    (F : Fun K "first_wrong_place" "first_wrong_place" sWrong f fd) : FnOk P w K mg base CX0 3 f fd ["rows"] spWrong := by
  obtain ⟨f1, fd1, m1, k1, b1, G1⟩ := D1.ex
  obtain ⟨f2, fd2, m2, k2, b2, G2⟩ := D2.ex
  refine F.ok scWrong (fun vs H Q E h => ?_) (fun cdv A outer s H vs Q E hr h => ?_)
  · obtain ⟨L, as, rows, k, rfl, _⟩ := h
    rfl
  · obtain ⟨L, as, rows, k, rfl, R, T, q⟩ := h
    refine ⟨_, pss_cons (ps_for PassesOwn.never rfl (pi_list (pe_call G2 (hr.mono (by decide)) (by rfl) m2 k2 b2 .nil pass0 (pa_cons (pe_callB call_len_seq (by rfl) B.len bLen (pa_cons (pv 0) pa_nil)) pa_nil)))
        (pg_tup rfl (pgs_cons (pg_name (i := 1) scWrong.nd rfl (Or.inl rfl)) (pgs_cons (pg_name (i := 2) scWrong.nd rfl (Or.inl rfl)) pgs_nil)))
        (pss_one (ps_if (PW.pt (pw_or (pt_not (pt_val (pe_call G1 hr (by rfl) m1 k1 b1 .nil pass0 (pa_cons (pe_callB call_len_seq (by rfl) B.len bLen (pa_cons (pv 0) pa_nil))
            (pa_cons (pe_ix ix_list (pe_ix ix_list (pv 0) (pv 1) (fun _ _ => rfl)) (pv 2) (fun _ _ => rfl)) pa_nil)))))
          (pw_or1 (PW.pt (pw_and (pt_cmpR op_lt (pv 2) (pv 1) (nomark _)) (pw_and1 (pt_cmpR op_ne (pe_ix ix_list (pe_ix ix_list (pv 0) (pv 2) (fun _ _ => rfl)) (pv 1) (fun _ _ => rfl)) (pe_ix ix_list (pe_ix ix_list (pv 0) (pv 1) (fun _ _ => rfl)) (pv 2) (fun _ _ => rfl)) (nomark _))))))))
          (pss_one ps_never) pss_nil)))
      (pss_one (ps_ret pe_non)), ?_⟩
    have hk : ((as.map V.ref).length : Int) = (k : Int) := by rw [List.length_map, R.len, T.len]
    have h8 := T.le8
    refine ⟨_, rfl, L, _, rfl, .inl (SqL.of R.top), ?_⟩
    rw [hk]
    refine ⟨k, rfl, h8, fun H1 D xs s1 hD hall => ?_⟩
    refine ⟨D, rfl, ⟨xs, SqL.of hD⟩, for_list (K := K) (a := D) (xs := xs) (fun i σ H2 => ∃ va vb, σ = [some (.ref L), va, vb] ∧ H2 = H1) ⟨none, none, rfl, rfl⟩ (fun i σ H2 _ ⟨_, _, _, e⟩ => by rw [e]; exact SqL.of hD) ?_ ?_⟩
    · rintro i x σ H2 hx ⟨va, vb, rfl, rfl⟩
      obtain ⟨t, a, b, rfl, ht, ha, hb⟩ := hall x (List.mem_of_getElem? hx)
      have R1 := R.same s1
      refine ⟨t, _, rfl, SqT.of ht, rfl, _, _, rfl, _, _, rfl, rfl, ?_⟩
      obtain ⟨p1, r1, c1, c2, c3⟩ := R1.cell T ha hb
      obtain ⟨p2, r2, d1, d2, d3⟩ := R1.cell T hb ha
      refine ⟨_, rfl, L, _, rfl, .inl (SqL.of R1.top), _, rfl, _, rfl, L, _, _, _, rfl, rfl, SqL.of R1.top, c1, _, rfl, p1, _, _, _, rfl, rfl, SqL.of c2, c3, ?_⟩
      rw [hk]
      refine ⟨k, cell rows a b, rfl, T.col a b ha hb, true, rfl, ?_⟩
      refine iteF ?_
      refine ⟨_, rfl, _, rfl, _, _, rfl, rfl, _, rfl, ?_⟩
      by_cases hba : (b : Int) < (a : Int)
      · refine iteD hba ?_
        refine ⟨_, rfl, _, rfl, L, _, _, _, rfl, rfl, SqL.of R1.top, d1, _, rfl, p2, _, _, _, rfl, rfl, SqL.of d2, d3, _, rfl, _, rfl, L, _, _, _, rfl, rfl, SqL.of R1.top, c1, _, rfl, p1, _, _, _, rfl, rfl, SqL.of c2, c3, rfl, _, rfl, ?_⟩
        rw [T.sym b a hb ha]
        exact iteNS rfl ⟨_, _, rfl, rfl⟩
      · exact iteDF hba ⟨_, _, rfl, rfl⟩
    · rintro σ H2 ⟨va, vb, rfl, rfl⟩
      exact q _ s1
end
end BjP
/-! Beanjars: the table's own methods. -/
namespace BjP
open PySem L2 Bj BjR
/-- what the written part says of the class Table, at C -/
structure TabTxt (K : PySem.W.Frag) (C : Addr) : Prop where
  cl : Cls K C
  nR : NoAttr K C "own_rows"
section
variable {P : Program} {w : World} {K : PySem.W.Frag} {mg : PySem.Str → Option Value} {base : Heap}
/-- the copies made so far of the rows -/
def Copied (H : Hp) (D : Addr) (rows : List (List Nat)) (i : Nat) : Prop := ∃ bs : List Addr, H D = some (.lst (bs.map V.ref)) ∧ bs.length = i ∧ ∀ (j : Nat) (b : Addr) (r : List Nat), bs[j]? = some b → rows[j]? = some r → H b = some (.lst (vI r))
theorem Copied.more {H : Hp} {D l : Addr} {rows : List (List Nat)} {i : Nat} {r : List Nat} (c : Copied H D rows i) (hr : rows[i]? = some r) (hl : H l = none) :
    ∃ acc, (upd H l (.lst (vI r))) D = some (.lst acc) ∧ acc.length = i ∧ Copied (upd (upd H l (.lst (vI r))) D (.lst (acc ++ [V.ref l]))) D rows (i + 1) := by
  obtain ⟨bs, e, hlen, hall⟩ := c
  have nl : D ≠ l := ne_of_none e hl
  refine ⟨bs.map V.ref, by rw [upd_ne nl]; exact e, by rw [List.length_map, hlen], bs ++ [l], by rw [upd_same, List.map_append]; rfl, by rw [List.length_append, hlen]; rfl, fun j b s h1 h2 => ?_⟩
  by_cases hj : j < bs.length
  · rw [List.getElem?_append_left hj] at h1
    have z := hall j b s h1 h2
    by_cases hb : b = D
    · -- a row is no list of rows of its own address: both stand there
      subst hb
      rw [e] at z
      have z' := Option.some.inj z
      injection z' with z'
      -- the list at D is the copies' own: then it holds references and colours at once; only the empty one is both
      cases hbs : bs with
      | nil => rw [hbs] at hj; simp at hj
      | cons b0 bs0 =>
        rw [hbs, vI_eq] at z'
        cases s with
        | nil => simp at z'
        | cons s0 s1 => simp at z'
    · rw [upd_ne hb, upd_ne (ne_of_none z hl)]
      exact z
  · have ej : j = bs.length := by
      have := (List.getElem?_eq_some_iff.mp h1).1
      rw [List.length_append] at this
      simp at this
      omega
    subst ej
    rw [List.getElem?_append_right (Nat.le_refl _), Nat.sub_self] at h1
    have eb : l = b := Option.some.inj h1
    subst eb
    rw [hlen] at h2
    rw [hr] at h2
    rw [upd_ne nl.symm, upd_same, Option.some.inj h2]
/-! ### __init__ -/
def spTabInit (C : Addr) : Sp := fun vs H Q _ => ∃ (p dx L : Addr) (as : List Addr) (rows : List (List Nat)) (k : Nat), vs = [.ref p, .ref L] ∧ H p = some (.ins C dx []) ∧ RowsAt H L as rows ∧ Tab k rows ∧
  ∀ H' : Hp, TableAt C H' p rows → (∀ b o, H b = some o → b ≠ p → H' b = some o) → Q .non H'
theorem scTabInit : FnScope ["self", "rows", "place", "row"] ["self", "rows"] (defScope sTabInit) := ⟨rfl, rfl, rfl, by decide +kernel, rfl, by decide +kernel, by decide +kernel⟩
theorem ok_tabInit {f C : Addr} {fd : FuncData} (B : Blt mg) (T : TabTxt K C) (D1 : DefOk P w K mg base CX0 1 "has_shape" ["rows"] (spShape K)) (D2 : DefOk P w K mg base CX0 3 "first_wrong_place" ["rows"] spWrong)
    (F : Fun K "__init__" "Table.__init__" sTabInit f fd) : FnOk P w K mg base CX0 4 f fd ["self", "rows"] (spTabInit C) := by
  obtain ⟨f1, fd1, m1, k1, b1, G1⟩ := D1.ex
  obtain ⟨f2, fd2, m2, k2, b2, G2⟩ := D2.ex
  refine F.ok scTabInit (fun vs H Q E h => ?_) (fun cdv A outer s H vs Q E hr h => ?_)
  · obtain ⟨p, dx, L, as, rows, k, rfl, _⟩ := h
    rfl
  · obtain ⟨p, dx, L, as, rows, k, rfl, hp, R, Tb, q⟩ := h
    refine ⟨_, pss_cons (ps_if (pt_not (pt_val (pe_call G1 (hr.mono (by decide)) (by rfl) m1 k1 b1 .nil pass0 (pa_cons (pv 1) pa_nil)))) (pss_one ps_never) pss_nil)
      (pss_cons (ps_set (i := 2) scTabInit.nd rfl (Or.inl rfl) (pe_call G2 hr (by rfl) m2 k2 b2 .nil pass0 (pa_cons (pv 1) pa_nil)))
      (pss_cons (ps_if (pt_cmp (pc_notN (pv 2))) (pss_one ps_never) pss_nil)
      (pss_one (ps_fld (pv 0) (pe_lc (own := [("row", 3)]) (g := gName 3) (tt := tYes) rfl scTabInit.nd (pi_list (pv 1)) (blkOk_by (N := ["self", "rows", "place", "row"]) (sc := defScope sTabInit) (by decide +kernel))
        (fun _ _ _ _ _ => pg_name (i := 3) scTabInit.nd rfl (Or.inl rfl)) (fun _ _ _ _ _ => pts_nil) (fun _ _ _ _ _ => pe_callTy (listK K) (by rfl) B.list bList (pa_cons (pv 3) pa_nil))) rfl)))), ?_⟩
    refine ⟨_, rfl, L, as, rows, k, rfl, R, Tb, fun H1 s1 => ⟨true, rfl, iteF ?_⟩⟩
    refine ⟨_, rfl, L, as, rows, k, rfl, R.same s1, Tb, fun H2 s2 => ?_⟩
    have s02 : Same H H2 := s1.trans s2
    refine ⟨_, rfl, false, rfl, iteF ?_⟩
    refine ⟨_, rfl, L, rfl, ⟨_, SqL.of (R.same s02).top⟩, fun D hD => ?_⟩
    have h8 := Tb.le8
    have hlen : (as.map V.ref).length = k := by rw [List.length_map, R.len, Tb.len]
    refine lc_list (K := K) (a := L) (xs := as.map V.ref) (fun i H' => Same H2 H' ∧ Copied H' D rows i) ⟨same_upd hD, [], upd_same, rfl, fun j b r h1 _ => by simp at h1⟩ (fun i H' _ ⟨sm, _⟩ => SqL.of ((R.same s02).same sm).top) ?_ ?_
    · rintro i x H' hx ⟨sm, cp⟩
      obtain ⟨a, ha, rfl⟩ : ∃ a, as[i]? = some a ∧ x = V.ref a := by
        rw [List.getElem?_map] at hx
        obtain ⟨a, e, z⟩ := Option.map_eq_some_iff.mp hx
        exact ⟨a, e, z.symm⟩
      have hi : i < rows.length := by
        rw [← R.len]
        exact (List.getElem?_eq_some_iff.mp ha).1
      have hrow := ((R.same s02).same sm).row i a rows[i] ha (List.getElem?_eq_getElem hi)
      refine ⟨rfl, ?_⟩
      refine ⟨_, rfl, a, _, rfl, .inl (SqL.of hrow), fun l hl => ?_⟩
      obtain ⟨acc, e1, e2, cp'⟩ := cp.more (List.getElem?_eq_getElem hi) hl
      refine ⟨acc, e1, small1000 (by rw [Tb.len] at hi; omega), fun b o e => ?_, cp'⟩
      rw [upd_ne (ne_of_none e hD)]
      exact same_upd hl _ _ (sm _ _ e)
    · rintro H' ⟨sm, bs, e1, e2, e3⟩
      have hp' : H' p = some (.ins C dx []) := sm _ _ (s02 _ _ hp)
      refine ⟨_, rfl, p, C, dx, [], rfl, hp', T.cl, T.nR, (by show 0 < 1000; decide), ?_⟩
      have ne : ∀ {b : Addr} {xs : List V}, H' b = some (.lst xs) → b ≠ p := fun e => ne_of e hp' (by intro z; cases z)
      refine q _ ⟨dx, D, bs, upd_same, by rw [upd_ne (ne e1)]; exact e1, by rw [e2, hlen, Tb.len], fun i a r h1 h2 => ?_⟩ fun b o e nb => ?_
      · have z := e3 i a r h1 h2
        rw [upd_ne (ne z)]
        exact z
      · rw [upd_ne nb]
        exact sm _ _ (s02 _ _ e)
/-! ### size, rows, validate_colour -/
def spSize (C : Addr) : Sp := fun vs H Q _ => ∃ (p : Addr) (rows : List (List Nat)), vs = [.ref p] ∧ TableAt C H p rows ∧ Q (.int rows.length) H
theorem scTabSize : FnScope ["self"] ["self"] (defScope sTabSize) := ⟨rfl, rfl, rfl, by decide +kernel, rfl, by decide +kernel, by decide +kernel⟩
theorem ok_size {f C : Addr} {fd : FuncData} (B : Blt mg) (T : TabTxt K C) (F : Fun K "size" "Table.size" sTabSize f fd) : FnOk P w K mg base CX0 1 f fd ["self"] (spSize C) := by
  refine F.ok scTabSize (fun vs H Q E h => ?_) (fun cdv A outer s H vs Q E hr h => ?_)
  · obtain ⟨p, rows, rfl, _⟩ := h
    rfl
  · obtain ⟨p, rows, rfl, ⟨dx, L, as, hp, R⟩, q⟩ := h
    refine ⟨_, pss_one (ps_ret (pe_callB call_len_seq (by rfl) B.len bLen (pa_cons (pe_fld (pv 0) rfl) pa_nil))), ?_⟩
    refine ⟨_, rfl, p, C, dx, _, _, rfl, hp, T.cl, T.nR, lk_rows _, L, _, rfl, .inl (SqL.of R.top), ?_⟩
    show Q (.int ((as.map V.ref).length : Nat)) H
    rw [List.length_map, R.len]
    exact q
def spRows (C : Addr) : Sp := fun vs H Q _ => ∃ (p : Addr) (rows : List (List Nat)), vs = [.ref p] ∧ TableAt C H p rows ∧ rows.length ≤ 8 ∧ ∀ (H' : Hp) (L : Addr) (bs : List Addr), Same H H' → H L = none → RowsAt H' L bs rows → Q (.ref L) H'
theorem scTabRows : FnScope ["self", "row"] ["self"] (defScope sTabRows) := ⟨rfl, rfl, rfl, by decide +kernel, rfl, by decide +kernel, by decide +kernel⟩
theorem ok_rows {f C : Addr} {fd : FuncData} (B : Blt mg) (T : TabTxt K C) (F : Fun K "rows" "Table.rows" sTabRows f fd) : FnOk P w K mg base CX0 1 f fd ["self"] (spRows C) := by
  refine F.ok scTabRows (fun vs H Q E h => ?_) (fun cdv A outer s H vs Q E hr h => ?_)
  · obtain ⟨p, rows, rfl, _⟩ := h
    rfl
  · obtain ⟨p, rows, rfl, ⟨dx, L, as, hp, R⟩, h8, q⟩ := h
    refine ⟨_, pss_one (ps_ret (pe_lc (own := [("row", 1)]) (g := gName 1) (tt := tYes) rfl scTabRows.nd (pi_list (pe_fld (pv 0) rfl)) (blkOk_by (N := ["self", "row"]) (sc := defScope sTabRows) (by decide +kernel))
        (fun _ _ _ _ _ => pg_name (i := 1) scTabRows.nd rfl (Or.inl rfl)) (fun _ _ _ _ _ => pts_nil) (fun _ _ _ _ _ => pe_callTy (listK K) (by rfl) B.list bList (pa_cons (pv 1) pa_nil)))), ?_⟩
    refine ⟨_, rfl, p, C, dx, _, _, rfl, hp, T.cl, T.nR, lk_rows _, L, rfl, ⟨_, SqL.of R.top⟩, fun D hD => ?_⟩
    have hlen : (as.map V.ref).length = rows.length := by rw [List.length_map, R.len]
    refine lc_list (K := K) (a := L) (xs := as.map V.ref) (fun i H' => Same H H' ∧ Copied H' D rows i) ⟨same_upd hD, [], upd_same, rfl, fun j b r h1 _ => by simp at h1⟩ (fun i H' _ ⟨sm, _⟩ => SqL.of (R.same sm).top) ?_ ?_
    · rintro i x H' hx ⟨sm, cp⟩
      obtain ⟨a, ha, rfl⟩ : ∃ a, as[i]? = some a ∧ x = V.ref a := by
        rw [List.getElem?_map] at hx
        obtain ⟨a, e, z⟩ := Option.map_eq_some_iff.mp hx
        exact ⟨a, e, z.symm⟩
      have hi : i < rows.length := by
        rw [← R.len]
        exact (List.getElem?_eq_some_iff.mp ha).1
      have hrow := (R.same sm).row i a rows[i] ha (List.getElem?_eq_getElem hi)
      refine ⟨rfl, ?_⟩
      refine ⟨_, rfl, a, _, rfl, .inl (SqL.of hrow), fun l hl => ?_⟩
      obtain ⟨acc, e1, e2, cp'⟩ := cp.more (List.getElem?_eq_getElem hi) hl
      refine ⟨acc, e1, small1000 (by omega), fun b o e => ?_, cp'⟩
      rw [upd_ne (ne_of_none e hD)]
      exact same_upd hl _ _ (sm _ _ e)
    · rintro H' ⟨sm, bs, e1, e2, e3⟩
      exact q H' D bs sm hD ⟨e1, by rw [e2, hlen], e3⟩
def spVal (C : Addr) : Sp := fun vs H Q _ => ∃ (p : Addr) (rows : List (List Nat)) (v : Nat), vs = [.ref p, .int v] ∧ TableAt C H p rows ∧ v < rows.length ∧ Q .non H
theorem scTabVal : FnScope ["self", "value"] ["self", "value"] (defScope sTabVal) := ⟨rfl, rfl, rfl, by decide +kernel, rfl, by decide +kernel, by decide +kernel⟩
theorem ok_val {f C g1 g2 : Addr} {fd fdS : FuncData} (T : TabTxt K C) (D1 : DefOk P w K mg base CX0 2 "is_colour" ["size", "value"] spIsCol) (PS : PropOf K C "size" g1 g2) (bS : Binds K fdS ["self"] []) (GS : FnOk P w K mg base CX0 1 g2 fdS ["self"] (spSize C))
    (F : Fun K "validate_colour" "Table.validate_colour" sTabVal f fd) : FnOk P w K mg base CX0 3 f fd ["self", "value"] (spVal C) := by
  obtain ⟨f1, fd1, m1, k1, b1, G1⟩ := D1.ex
  refine F.ok scTabVal (fun vs H Q E h => ?_) (fun cdv A outer s H vs Q E hr h => ?_)
  · obtain ⟨p, rows, v, rfl, _⟩ := h
    rfl
  · obtain ⟨p, rows, v, rfl, hT, hv, q⟩ := h
    obtain ⟨dx, L, as, hp, R⟩ := id hT
    refine ⟨_, pss_one (ps_if (pt_not (pt_val (pe_call G1 hr (by rfl) m1 k1 b1 .nil pass0 (pa_cons (pe_prop (pv 0) T.cl PS GS hr bS .nil pass0 rfl) (pa_cons (pv 1) pa_nil))))) (pss_one ps_never) pss_nil), ?_⟩
    refine ⟨_, rfl, p, dx, _, rfl, hp, p, rows, rfl, hT, ?_⟩
    exact ⟨_, rfl, rows.length, v, rfl, hv, true, rfl, iteF q⟩
end
end BjP
/-! Beanjars: products of sets of colours, each computed once. -/
namespace BjP
open PySem L2 Bj BjR
theorem rk_ : ¬ (("own_rows" : PySem.Str) = "own_known") := by decide +kernel
theorem kr_ : ¬ (("own_known" : PySem.Str) = "own_rows") := by decide +kernel
/-- the attributes of a SetProducts -/
def pf (L d : Addr) : List (PySem.Str × V) := putF "own_known" (.ref d) (putF "own_rows" (.ref L) [])
theorem pf_rows (L d : Addr) : (pf L d).lookup ("own_rows" : PySem.Str) = some (.ref L) := by
  unfold pf
  rw [lookup_putF, if_neg rk_, lookup_putF, if_pos rfl]
theorem pf_known (L d : Addr) : (pf L d).lookup ("own_known" : PySem.Str) = some (.ref d) := by
  unfold pf
  rw [lookup_putF, if_pos rfl]
theorem pf_no (L d : Addr) {m : PySem.Str} (h1 : ¬ m = "own_known") (h2 : ¬ m = "own_rows") : (pf L d).lookup m = none := by
  unfold pf
  rw [lookup_putF, if_neg h1, lookup_putF, if_neg h2]
  all_goals rfl
theorem pf_len (L d : Addr) : (putF "own_rows" (V.ref L) []).length < 1000 := by
  show 1 < 1000
  decide
/-- the entries are right: each value is the product of its key's two sets -/
def Right (H : Hp) (rows : List (List Nat)) (es : List Ent) : Prop := ∀ e ∈ es, ∀ A B : List Nat, e.1 = toI A → e.2.1 = toI B → TupI H e.2.2.2 (toI (prodL rows A B))
/-- a SetProducts at p, its dict at d -/
structure ProdAt (P : Program) (w : World) (C : Addr) (H : Hp) (p d : Addr) (rows : List (List Nat)) (es : List Ent) : Prop where
  ob : ∃ dx L as, H p = some (.ins C dx (pf L d)) ∧ RowsAt H L as rows
  dict : DictP P w H d es
  right : Right H rows es
theorem kd_tup {P : Program} {w : World} {d : Addr} {xs : List (NestedKey × Addr × Value)} {ys : List V} : HO.tup ys ≠ KD P w d xs := fun z => by
  have z' : HO.tup ys = HO.ext _ := z
  cases z'
theorem kd_lst {P : Program} {w : World} {d : Addr} {xs : List (NestedKey × Addr × Value)} {ys : List V} : HO.lst ys ≠ KD P w d xs := fun z => by
  have z' : HO.lst ys = HO.ext _ := z
  cases z'
theorem kd_ins {P : Program} {w : World} {d C dx : Addr} {xs : List (NestedKey × Addr × Value)} {fs : List (PySem.Str × V)} : HO.ins C dx fs ≠ KD P w d xs := fun z => by
  have z' : HO.ins C dx fs = HO.ext _ := z
  cases z'
section
variable {P : Program} {w : World} {H H' : Hp} {d p C : Addr} {es : List Ent} {rows : List (List Nat)}
theorem DictP.same (s : Same H H') (D : DictP P w H d es) : DictP P w H' d es := ⟨s _ _ D.ob, fun e he => (D.keys e he).same s⟩
theorem Right.same (s : Same H H') (R : Right H rows es) : Right H' rows es := fun e he A B h1 h2 => (R e he A B h1 h2).same s
theorem ProdAt.same (s : Same H H') (T : ProdAt P w C H p d rows es) : ProdAt P w C H' p d rows es := by
  obtain ⟨⟨dx, L, as, e, R⟩, D, G⟩ := T
  exact ⟨⟨dx, L, as, s _ _ e, R.same s⟩, DictP.same s D, Right.same s G⟩
theorem TupI.but {a : Addr} {l : List Int} (D : DictP P w H d es) (s : But d H H') (t : TupI H a l) : TupI H' a l := s.keep _ _ (ne_of t D.ob kd_tup) t
theorem KeyAt.but {a : Addr} {A B : List Int} (D : DictP P w H d es) (s : But d H H') (k : KeyAt H a A B) : KeyAt H' a A B := by
  obtain ⟨p, q, e, t1, t2⟩ := k
  exact ⟨p, q, s.keep _ _ (ne_of e D.ob kd_tup) e, TupI.but D s t1, TupI.but D s t2⟩
theorem RowsAt.but {L : Addr} {as : List Addr} (D : DictP P w H d es) (s : But d H H') (R : RowsAt H L as rows) : RowsAt H' L as rows :=
  ⟨s.keep _ _ (ne_of R.top D.ob kd_lst) R.top, R.len, fun i a r h1 h2 => by
    have z := R.row i a r h1 h2
    exact s.keep _ _ (ne_of z D.ob kd_lst) z⟩
theorem TableAt.but {t : Addr} (D : DictP P w H d es) (s : But d H H') (T : TableAt C H t rows) : TableAt C H' t rows := by
  obtain ⟨dx, L, as, e, R⟩ := T
  exact ⟨dx, L, as, s.keep _ _ (ne_of e D.ob kd_ins) e, RowsAt.but D s R⟩
end
theorem toI_inj : ∀ {A B : List Nat}, toI A = toI B → A = B
  | [], [], _ => rfl
  | a :: A, b :: B, h => by
    unfold toI at h
    rw [List.map_cons, List.map_cons] at h
    injection h with h1 h2
    have e : a = b := by omega
    rw [e, toI_inj (A := A) (B := B) h2]
  | [], _ :: _, h => by simp [toI] at h
  | _ :: _, [], h => by simp [toI] at h
theorem nodup_len : ∀ {l m : List Int}, l.Nodup → (∀ z ∈ l, z ∈ m) → l.length ≤ m.length
  | [], _, _, _ => Nat.zero_le _
  | a :: l, m, h, hs => by
    obtain ⟨h1, h2⟩ := List.nodup_cons.mp h
    have ha := hs a (List.mem_cons_self ..)
    have ih := nodup_len (l := l) (m := m.erase a) h2 fun z hz => (List.mem_erase_of_ne (fun e => h1 (by rw [← e]; exact hz))).mpr (hs z (List.mem_cons_of_mem _ hz))
    rw [List.length_erase_of_mem ha] at ih
    have := List.length_pos_of_mem ha
    rw [List.length_cons]
    omega
/-- a set of n whole numbers, all of them colours -/
structure Few (S : Int → Bool) (n : Nat) : Prop where
  ex : ∃ l : List Int, l.Nodup ∧ l.length = n ∧ ∀ z, S z = true ↔ z ∈ l
theorem Few.nil : Few (fun _ => false) 0 := ⟨[], List.nodup_nil, rfl, fun z => by simp⟩
theorem Few.add {S : Int → Bool} {n : Nat} (F : Few S n) (k : Int) : Few (fun j => S j || decide (j = k)) (if S k = true then n else n + 1) := by
  obtain ⟨l, h1, h2, h3⟩ := F.ex
  by_cases hk : S k = true
  · rw [if_pos hk]
    refine ⟨l, h1, h2, fun z => ?_⟩
    rw [Bool.or_eq_true, decide_eq_true_eq, h3]
    exact ⟨fun q => q.elim id fun e => e ▸ (h3 k).1 hk, .inl⟩
  · rw [if_neg hk]
    refine ⟨k :: l, List.nodup_cons.mpr ⟨fun q => hk ((h3 k).2 q), h1⟩, by rw [List.length_cons, h2], fun z => ?_⟩
    rw [Bool.or_eq_true, decide_eq_true_eq, h3, List.mem_cons]
    exact Or.comm
theorem Few.le {S : Int → Bool} {n : Nat} (F : Few S n) (h : ∀ z, S z = true → ∃ x : Nat, x < 8 ∧ (x : Int) = z) : n ≤ 8 := by
  obtain ⟨l, h1, h2, h3⟩ := F.ex
  have := nodup_len (m := toI (List.range 8)) h1 fun z hz => by
    obtain ⟨x, hx, e⟩ := h z ((h3 z).2 hz)
    exact mem_ints.2 ⟨x, List.mem_range.mpr hx, e⟩
  rw [h2] at this
  simpa [toI] using this
theorem scan8 {n : Nat} (h : n ≤ 8) : n + 1 < PySem.scanBound := Nat.lt_of_le_of_lt (Nat.succ_le_succ h) (by decide)

section
variable {P : Program} {w : World} {K : PySem.W.Frag} {mg : PySem.Str → Option Value} {base : Heap}
/-- what the written part says of the class SetProducts, at C -/
structure ProTxt (K : PySem.W.Frag) (C : Addr) : Prop where
  cl : Cls K C
  nR : NoAttr K C "own_rows"
  nK : NoAttr K C "own_known"
/-! ### __init__ -/
def spProInit (P : Program) (w : World) (CT C : Addr) : Sp := fun vs H Q _ => ∃ (p dx t : Addr) (rows : List (List Nat)), vs = [.ref p, .ref t] ∧ H p = some (.ins C dx []) ∧ TableAt CT H t rows ∧ rows.length ≤ 8 ∧
  ∀ (H' : Hp) (d : Addr), H d = none → ProdAt P w C H' p d rows [] → (∀ b o, H b = some o → b ≠ p → H' b = some o) → Q .non H'
theorem scProInit : FnScope ["self", "table"] ["self", "table"] (defScope sProInit) := ⟨rfl, rfl, rfl, by decide +kernel, rfl, by decide +kernel, by decide +kernel⟩
theorem ok_proInit {f CT C : Addr} {fd : FuncData} (TT : TabTxt K CT) (T : ProTxt K C) (D1 : MethOk P w K mg base CX0 CT 1 "rows" ["self"] (spRows CT))
    (F : Fun K "__init__" "SetProducts.__init__" sProInit f fd) : FnOk P w K mg base CX0 2 f fd ["self", "table"] (spProInit P w CT C) := by
  obtain ⟨f1, fd1, m1, b1, G1⟩ := D1.ex
  refine F.ok scProInit (fun vs H Q E h => ?_) (fun cdv A outer s H vs Q E hr h => ?_)
  · obtain ⟨p, dx, t, rows, rfl, _⟩ := h
    rfl
  · obtain ⟨p, dx, t, rows, rfl, hp, hT, h8, q⟩ := h
    refine ⟨_, pss_cons (ps_fld (pv 0) (pe_meth0 (pv 1) TT.cl m1 G1 hr b1 .nil pass0) rfl) (pss_one (ps_fld (pv 0) pe_dnewP rfl)), ?_⟩
    obtain ⟨dxT, LT, asT, hTo, _⟩ := id hT
    refine ⟨_, rfl, t, dxT, _, rfl, hTo, lk_no _ (by decide +kernel), t, rows, rfl, hT, h8, fun H1 L bs s1 nL R => ?_⟩
    have hp1 := s1 _ _ hp
    refine ⟨_, rfl, p, C, dx, [], rfl, hp1, T.cl, T.nR, (by show 0 < 1000; decide), ?_⟩
    intro d hd
    have ndp : p ≠ d := fun z => by
      rw [← z, upd_same] at hd
      cases hd
    have hd1 : H1 d = none := by
      rw [upd_ne ndp.symm] at hd
      exact hd
    refine ⟨_, rfl, p, C, dx, _, rfl, Eq.trans (upd_ne ndp) upd_same, T.cl, T.nK, pf_len L d, ?_⟩
    have up : ∀ {b : Addr} {o : HO}, H1 b = some o → b ≠ p → (upd (upd (upd H1 p (.ins C dx (putF "own_rows" (.ref L) []))) d (KD P w d [])) p (.ins C dx (putF "own_known" (.ref d) (putF "own_rows" (.ref L) [])))) b = some o := fun e nb => by
      rw [upd_ne nb, upd_ne (ne_of_none e hd1), upd_ne nb]
      exact e
    have nl : ∀ {b : Addr} {xs : List V}, H1 b = some (.lst xs) → b ≠ p := fun e => ne_of e hp1 (by intro z; cases z)
    refine q _ d (s1.free hd1) ⟨⟨dx, L, bs, upd_same, up R.top (nl R.top), R.len, fun i a r e1 e2 => ?_⟩, ⟨?_, fun e he => by cases he⟩, fun e he => by cases he⟩ fun b o e nb => up (s1 _ _ e) nb
    · have z := R.row i a r e1 e2
      exact up z (nl z)
    · rw [upd_ne ndp.symm]
      exact upd_same
/-! ### product -/
def spProduct (P : Program) (w : World) (C : Addr) : Sp := fun vs H Q _ => ∃ (p d fa sa : Addr) (rows : List (List Nat)) (es : List Ent) (A B : List Nat) (k : Nat), vs = [.ref p, .ref fa, .ref sa] ∧ ProdAt P w C H p d rows es ∧ Tab k rows ∧
  TupI H fa (toI A) ∧ TupI H sa (toI B) ∧ (∀ a ∈ A, a < k) ∧ (∀ b ∈ B, b < k) ∧ es.length ≤ 1000000 ∧
  ∀ (H' : Hp) (es' : List Ent) (r : Addr), But d H H' → ProdAt P w C H' p d rows es' → es'.length ≤ es.length + 1 → TupI H' r (toI (prodL rows A B)) → Q (.ref r) H'
theorem scProd : FnScope ["self", "first", "second", "key", "a", "b"] ["self", "first", "second"] (defScope sProProd) := ⟨rfl, rfl, rfl, by decide +kernel, rfl, by decide +kernel, by decide +kernel⟩
/-- the set at D holds what the first i of A with all of B, and A's next with the first j of B, give -/
structure Got (w : World) (H0 H : Hp) (D : Addr) (rows : List (List Nat)) (A B : List Nat) (i : Nat) (more : List Nat) (c : Nat) : Prop where
  ex : ∃ (S : Int → Bool) (n : Nat), H = upd H0 D (SetO w D S n) ∧ Few S n ∧ ∀ z, S z = true ↔ (∃ a ∈ A.take i, ∃ b ∈ B, (cell rows a b : Int) = z) ∨ (∃ b ∈ more, (cell rows c b : Int) = z)
theorem ok_product {f C : Addr} {fd : FuncData} (B0 : Blt mg) (T : ProTxt K C) (F : Fun K "product" "SetProducts.product" sProProd f fd) : FnOk P w K mg base CX0 1 f fd ["self", "first", "second"] (spProduct P w C) := by
  refine F.ok scProd (fun vs H Q E h => ?_) (fun cdv A0 outer s H vs Q E hr h => ?_)
  · obtain ⟨p, d, fa, sa, rows, es, A, B, k, rfl, _⟩ := h
    rfl
  · obtain ⟨p, d, fa, sa, rows, es, A, B, k, rfl, Pr, Tb, tA, tB, hA, hB, hes, q⟩ := h
    have hu := hr.units
    refine ⟨_, pss_cons (ps_set (i := 3) scProd.nd rfl (Or.inl rfl) (pe_tup (pa_cons (pv 1) (pa_cons (pv 2) pa_nil))))
      (pss_cons (ps_if (pt_cmpR (op_notInP hu) (pv 3) (pe_fld (pv 0) rfl) (by rfl))
        (pss_one (ps_asg (pe_callTy call_tuple_of (by rfl) B0.tuple bTuple (pa_cons (pe_callB (cr_sortedSet rfl) (by rfl) B0.sorted bSorted (pa_cons (pe_sc2 (own := [("a", 4), ("b", 5)]) (vs1 := [5]) (g := gName 4) (g1 := gName 5) rfl scProd.nd (pi_tup (pv 1))
            (blkOk_by (N := ["self", "first", "second", "key", "a", "b"]) (sc := defScope sProProd) (by decide +kernel)) (by decide) (fun _ _ _ _ _ => pg_name (i := 4) scProd.nd rfl (Or.inl rfl)) (fun _ _ _ _ _ => piTK K (pv 2)) (fun _ _ _ _ _ => pg_name (i := 5) scProd.nd rfl (Or.inl rfl))
            (fun _ _ _ _ _ => pe_ix (ixLK K) (pe_ix (ixLK K) (fldK K (pv 0) rfl) (pv 4) (fun _ _ => rfl)) (pv 5) (fun _ _ => rfl))) pa_nil)) pa_nil))
          (pg_sub (pe_fld (pv 0) rfl) (pv 3) (set_dictP hu)))) pss_nil)
      (pss_one (ps_ret (pe_ix (ix_dictP hu) (pe_fld (pv 0) rfl) (pv 3) (fun _ _ => rfl))))), ?_⟩
    -- key = (first, second)
    refine ⟨_, rfl, _, rfl, two_line, fun key hkey => ?_⟩
    have s1 : Same H (upd H key (.tup [.ref fa, .ref sa])) := same_upd hkey
    generalize hH1 : upd H key (.tup [.ref fa, .ref sa]) = H1 at s1
    have Pr1 := ProdAt.same s1 Pr
    have kA : KeyAt H1 key (toI A) (toI B) := ⟨fa, sa, by rw [← hH1]; exact upd_same, tA.same s1, tB.same s1⟩
    obtain ⟨dx, L, as, hp, R⟩ := Pr1.ob
    have back : ∀ (H2 : Hp) (es2 : List Ent) (r : Addr), But d H H2 → ProdAt P w C H2 p d rows es2 → es2.length ≤ es.length + 1 → KeyAt H2 key (toI A) (toI B) → look es2 (toI A) (toI B) = some r →
        tRet (tOp (rGetP P w) (tFld K (tVar 0) "own_known") (tVar 3)) { nx := fun _ H' => Q .non H', rt := Q } [some (.ref p), some (.ref fa), some (.ref sa), some (.ref key), none, none] H2 := by
      intro H2 es2 r bt Pr2 hl kA2 hlk
      obtain ⟨dx2, L2, as2, hp2, R2⟩ := Pr2.ob
      refine ⟨_, rfl, p, C, dx2, _, _, rfl, hp2, T.cl, T.nK, pf_known _ _, _, rfl, d, key, toI A, toI B, es2, r, rfl, rfl, kA2, Pr2.dict, hlk, ?_⟩
      obtain ⟨e, he, e1, e2, e3⟩ := look_mem hlk
      have z := Pr2.right e he A B e1 e2
      rw [e3] at z
      exact q H2 es2 r bt Pr2 hl z
    refine ⟨_, rfl, _, rfl, p, C, dx, _, _, rfl, hp, T.cl, T.nK, pf_known _ _, key, d, toI A, toI B, es, rfl, rfl, kA, Pr1.dict, _, rfl, ?_⟩
    cases hlk : look es (toI A) (toI B) with
    | some r => exact iteF (back H1 es r (Same.but s1) Pr1 (Nat.le_succ _) kA hlk)
    | none =>
      refine iteT ?_
      -- the set
      refine ⟨_, rfl, fa, rfl, ⟨_, SqT.of (tA.same s1)⟩, fun D hD => ?_⟩
      have nD : ∀ {b : Addr} {o : HO}, H1 b = some o → b ≠ D := fun e => ne_of_none e hD
      refine ⟨fun i m H2 => m + i = A.length ∧ Got w H1 H2 D rows A B i [] 0, ⟨A.length, by omega, ⟨_, 0, rfl, Few.nil, fun z => by simp⟩⟩, ?_⟩
      rintro i m H2 ⟨em, ⟨S, n, rfl, fw, hS⟩⟩
      have lift : ∀ {b : Addr} {o : HO}, H1 b = some o → (upd H1 D (SetO w D S n)) b = some o := fun e => by
        rw [upd_ne (nD e)]
        exact e
      by_cases hi : i < A.length
      · have gA : ((toI A).map V.int)[i]? = some (V.int (A[i] : Int)) := by
          have := vI_get (List.getElem?_eq_getElem hi)
          exact this
        have hAi : A[i] < k := hA _ (List.getElem_mem hi)
        refine .inr ⟨⟨_, _, SqT.of (lift (tA.same s1)), gA⟩, fun H' => Got w H1 H' D rows A B (i + 1) [] 0, fun H' hH' => ⟨m - 1, by omega, by omega, hH'⟩, ?_⟩
        rintro x H3 ⟨rfl, hx⟩
        have ex : x = V.int (A[i] : Int) := Option.some.inj ((hx _ (SqT.of (lift (tA.same s1)))).symm.trans gA)
        subst ex
        refine ⟨rfl, ?_⟩
        refine ⟨_, rfl, sa, rfl, ⟨_, SqT.of (lift (tB.same s1))⟩, ?_⟩
        refine ⟨fun j m1 H4 => m1 + j = B.length ∧ Got w H1 H4 D rows A B i (B.take j) A[i], ⟨B.length, by omega, ⟨S, n, rfl, fw, fun z => by rw [hS z]; simp⟩⟩, ?_⟩
        rintro j m1 H4 ⟨em1, ⟨S1, n1, rfl, fw1, hS1⟩⟩
        have lift1 : ∀ {b : Addr} {o : HO}, H1 b = some o → (upd H1 D (SetO w D S1 n1)) b = some o := fun e => by
          rw [upd_ne (nD e)]
          exact e
        by_cases hj : j < B.length
        · have gB : ((toI B).map V.int)[j]? = some (V.int (B[j] : Int)) := by
            have := vI_get (List.getElem?_eq_getElem hj)
            exact this
          have hBj : B[j] < k := hB _ (List.getElem_mem hj)
          refine .inr ⟨⟨_, _, SqT.of (lift1 (tB.same s1)), gB⟩, fun H' => Got w H1 H' D rows A B i (B.take (j + 1)) A[i], fun H' hH' => ⟨m1 - 1, by omega, by omega, hH'⟩, ?_⟩
          rintro y H5 ⟨rfl, hy⟩
          have ey : y = V.int (B[j] : Int) := Option.some.inj ((hy _ (SqT.of (lift1 (tB.same s1)))).symm.trans gB)
          subst ey
          refine ⟨rfl, ?_⟩
          obtain ⟨pr, r, c1, c2, c3⟩ := R.cell Tb hAi hBj
          refine ⟨_, rfl, p, C, dx, _, _, rfl, lift1 hp, T.cl, T.nR, pf_rows _ _, _, rfl, L, _, _, _, rfl, rfl, SqL.of (lift1 R.top), c1, _, rfl, pr, _, _, _, rfl, rfl, SqL.of (lift1 c2), c3, ?_⟩
          have lt8 : ∀ z, S1 z = true → ∃ x : Nat, x < 8 ∧ (x : Int) = z := fun z hz => by
            rcases (hS1 z).1 hz with ⟨a, ha, b, hb, e⟩ | ⟨b, hb, e⟩
            · exact ⟨_, Nat.lt_of_lt_of_le (Tb.col a b (hA a (List.mem_of_mem_take ha)) (hB b hb)) Tb.le8, e⟩
            · exact ⟨_, Nat.lt_of_lt_of_le (Tb.col _ b hAi (hB b (List.mem_of_mem_take hb))) Tb.le8, e⟩
          refine ⟨_, S1, n1, rfl, upd_same, scan8 (fw1.le lt8), ⟨_, _, upd_upd, fw1.add _, fun z => ?_⟩⟩
          rw [Bool.or_eq_true, decide_eq_true_eq, hS1, List.take_succ_eq_append_getElem hj]
          constructor
          · rintro ((h | ⟨b, hb, e⟩) | e)
            · exact .inl h
            · exact .inr ⟨b, List.mem_append_left _ hb, e⟩
            · exact .inr ⟨B[j], List.mem_append_right _ (List.mem_singleton.mpr rfl), e.symm⟩
          · rintro (h | ⟨b, hb, e⟩)
            · exact .inl (.inl h)
            · rcases List.mem_append.mp hb with hb | hb
              · exact .inl (.inr ⟨b, hb, e⟩)
              · rw [List.mem_singleton.mp hb] at e
                exact .inr e.symm
        · have ej : j = B.length := by omega
          subst ej
          refine .inl ⟨⟨_, SqT.of (lift1 (tB.same s1)), by rw [List.length_map]; simp [toI]⟩, ⟨S1, n1, rfl, fw1, fun z => ?_⟩⟩
          rw [hS1 z, List.take_length, List.take_succ_eq_append_getElem hi]
          constructor
          · rintro (⟨a, ha, b, hb, e⟩ | ⟨b, hb, e⟩)
            · exact .inl ⟨a, List.mem_append_left _ ha, b, hb, e⟩
            · exact .inl ⟨A[i], List.mem_append_right _ (List.mem_singleton.mpr rfl), b, hb, e⟩
          · rintro (⟨a, ha, b, hb, e⟩ | ⟨b, hb, e⟩)
            · rcases List.mem_append.mp ha with ha | ha
              · exact .inl ⟨a, ha, b, hb, e⟩
              · rw [List.mem_singleton.mp ha] at e
                exact .inr ⟨b, hb, e⟩
            · cases hb
      · have ei : i = A.length := by omega
        subst ei
        refine .inl ⟨⟨_, SqT.of (lift (tA.same s1)), by rw [List.length_map]; simp [toI]⟩, ?_⟩
        have hS' : ∀ z, S z = true ↔ ∃ x ∈ prodL rows A B, (x : Int) = z := fun z => by
          rw [hS z, List.take_length]
          constructor
          · rintro (⟨a, ha, b, hb, e⟩ | ⟨b, hb, e⟩)
            · exact ⟨_, (mem_prodL Tb hA hB).2 ⟨a, ha, b, hb, rfl⟩, e⟩
            · cases hb
          · rintro ⟨x, hx, e⟩
            obtain ⟨a, ha, b, hb, e2⟩ := (mem_prodL Tb hA hB).1 hx
            exact .inl ⟨a, ha, b, hb, by rw [e2]; exact e⟩
        have lt8 : ∀ z, S z = true → ∃ x : Nat, x < 8 ∧ (x : Int) = z := fun z hz => by
          obtain ⟨x, hx, e⟩ := (hS' z).1 hz
          exact ⟨x, Nat.lt_of_lt_of_le (prodL_lt Tb hA hB hx) Tb.le8, e⟩
        refine ⟨D, S, n, rfl, upd_same, Nat.lt_of_le_of_lt (fw.le lt8) (by decide), fun ns l rising hmem _ hl => ?_⟩
        have ens : ns = toI (prodL rows A B) := sorted_is rising fun z => (hmem z).trans (hS' z)
        subst ens
        -- tuple(..)
        refine ⟨l, _, rfl, .inl ⟨SqL.of upd_same, fun r hr => ?_⟩⟩
        generalize hH2 : upd H1 D (SetO w D S n) = H2 at hl hr
        have s2 : Same H1 H2 := by rw [← hH2]; exact same_upd hD
        have s3 : Same H2 (upd H2 l (.lst ((toI (prodL rows A B)).map V.int))) := same_upd hl
        generalize hH3 : upd H2 l (.lst ((toI (prodL rows A B)).map V.int)) = H3 at hr s3
        have s4 : Same H3 (upd H3 r (.tup ((toI (prodL rows A B)).map V.int))) := same_upd hr
        have tR : TupI (upd H3 r (.tup ((toI (prodL rows A B)).map V.int))) r (toI (prodL rows A B)) := upd_same
        generalize hH4 : upd H3 r (.tup ((toI (prodL rows A B)).map V.int)) = H4 at s4 tR
        have s14 : Same H1 H4 := s2.trans (s3.trans s4)
        have Pr4 := ProdAt.same s14 Pr1
        have kA4 := kA.same s14
        -- self.own_known[key] = ..
        refine ⟨_, rfl, p, C, dx, _, _, rfl, s14 _ _ hp, T.cl, T.nK, pf_known _ _, _, rfl, d, key, toI A, toI B, es, r, rfl, rfl, rfl, kA4, Pr4.dict, hlk, Nat.lt_of_le_of_lt hes (by decide), ?_⟩
        have bt : But d H4 (upd H4 d (KD P w d ((es ++ [(toI A, toI B, key, r)]).map entOf))) := But.upd
        have ob5 : (upd H4 d (KD P w d ((es ++ [(toI A, toI B, key, r)]).map entOf))) d = some (KD P w d ((es ++ [(toI A, toI B, key, r)]).map entOf)) := upd_same
        generalize hH5 : upd H4 d (KD P w d ((es ++ [(toI A, toI B, key, r)]).map entOf)) = H5 at bt ob5
        have kA5 := KeyAt.but Pr4.dict bt kA4
        have Pr5 : ProdAt P w C H5 p d rows (es ++ [(toI A, toI B, key, r)]) := by
          obtain ⟨dx4, L4, as4, hp4, R4⟩ := Pr4.ob
          refine ⟨⟨dx4, L4, as4, bt.keep _ _ (ne_of hp4 Pr4.dict.ob kd_ins) hp4, RowsAt.but Pr4.dict bt R4⟩, ⟨ob5, fun e he => ?_⟩, fun e he A' B' e1 e2 => ?_⟩
          · rcases List.mem_append.mp he with he | he
            · exact KeyAt.but Pr4.dict bt (Pr4.dict.keys e he)
            · rw [List.mem_singleton.mp he]
              exact kA5
          · rcases List.mem_append.mp he with he | he
            · exact TupI.but Pr4.dict bt (Pr4.right e he A' B' e1 e2)
            · rw [List.mem_singleton.mp he] at e1 e2 ⊢
              have eA : A = A' := toI_inj e1
              have eB : B = B' := toI_inj e2
              rw [← eA, ← eB]
              exact TupI.but Pr4.dict bt tR
        have fin := back H5 _ r ((Same.but (s1.trans s14)).trans bt) Pr5 (by rw [List.length_append]; exact Nat.le_refl _) kA5 (look_app hlk)
        rw [← hH5] at fin
        exact fin
end
end BjP
/-! Beanjars: unions of products. -/
namespace BjP
open PySem L2 Bj BjR
section
variable {X : Cx} {pos : Pos}
theorem pgTK (K : PySem.W.Frag) {es : List Expr} {k : Nat} {t : TGs} {n : Nat} (hc : X.calm = true) (h : PGs X es t)
    (hn : (assignEach es X.env).length = n := by rfl) (hst : (assignEach es X.env).findIdx? (·.1) = none := by rfl) (hK : X.K = K := by rfl) : PG X (.Tuple es k pos) (gTup K n t) := by
  subst hK
  exact pg_tup hc h hn hst
end
section
variable {P : Program} {w : World} {K : PySem.W.Frag} {mg : PySem.Str → Option Value} {base : Heap}
theorem But.put {H0 H : Hp} {d D : Addr} {o u : HO} (bt : But d H0 H) (hD : H0 D = none) (hDo : H D = some u) : But d H0 (L2.upd H D o) := ⟨fun b v nb e => by
  rw [upd_ne (ne_of_none e hD)]
  exact bt.keep b v nb e, fun h => by
  have nd : d ≠ D := fun z => h (by rw [z]; exact hD)
  rw [upd_ne nd]
  exact bt.here h⟩
theorem ProdAt.put {H0 H : Hp} {d D p C : Addr} {rows : List (List Nat)} {es0 es : List Ent} {xs ys : List V} (bt : But d H0 H) (P0 : ProdAt P w C H0 p d rows es0) (Pr : ProdAt P w C H p d rows es) (hD : H0 D = none) (hDo : H D = some (.lst xs)) :
    ProdAt P w C (upd H D (.lst ys)) p d rows es := by
  have bt' : But d H0 (upd H D (.lst ys)) := bt.put hD hDo
  have nd : d ≠ D := fun z => by
    have e := P0.dict.ob
    rw [z, hD] at e
    cases e
  have tup : ∀ {a : Addr} {zs : List V}, H a = some (.tup zs) → (upd H D (.lst ys)) a = some (.tup zs) := fun e => by
    rw [upd_ne (ne_of e hDo (by intro z; cases z))]
    exact e
  obtain ⟨dx, L, as, hp, R⟩ := P0.ob
  refine ⟨⟨dx, L, as, bt'.keep _ _ (ne_of hp P0.dict.ob kd_ins) hp, RowsAt.but P0.dict bt' R⟩, ⟨by rw [upd_ne nd]; exact Pr.dict.ob, fun e he => ?_⟩, fun e he A B h1 h2 => tup (Pr.right e he A B h1 h2)⟩
  obtain ⟨q1, q2, e1, t1, t2⟩ := Pr.dict.keys e he
  exact ⟨q1, q2, tup e1, tup t1, tup t2⟩
/-- pairs of sets, as tuples of two tuples, in a list at L -/
structure PairsAt (H : Hp) (L : Addr) (ts : List Addr) (prs : List (List Nat × List Nat)) : Prop where
  top : H L = some (.lst (ts.map V.ref))
  len : ts.length = prs.length
  at_ : ∀ (i : Nat) (t : Addr) (ab : List Nat × List Nat), ts[i]? = some t → prs[i]? = some ab → KeyAt H t (toI ab.1) (toI ab.2)
/-- sets in a list -/
structure SetsAt (H : Hp) (L : Addr) (rs : List Addr) (ls : List (List Nat)) : Prop where
  top : H L = some (.lst (rs.map V.ref))
  len : rs.length = ls.length
  at_ : ∀ (i : Nat) (r : Addr) (l : List Nat), rs[i]? = some r → ls[i]? = some l → TupI H r (toI l)
theorem SetsAt.same {H H' : Hp} {L : Addr} {rs : List Addr} {ls : List (List Nat)} (s : Same H H') (h : SetsAt H L rs ls) : SetsAt H' L rs ls := ⟨s _ _ h.top, h.len, fun i r l h1 h2 => (h.at_ i r l h1 h2).same s⟩
def joined (rows : List (List Nat)) (prs : List (List Nat × List Nat)) : List (List Nat) := prs.map fun ab => prodL rows ab.1 ab.2
def spUnion (P : Program) (w : World) (C : Addr) : Sp := fun vs H Q _ => ∃ (p d L : Addr) (ts : List Addr) (prs : List (List Nat × List Nat)) (rows : List (List Nat)) (es : List Ent) (k : Nat), vs = [.ref p, .ref L] ∧ ProdAt P w C H p d rows es ∧ Tab k rows ∧
  PairsAt H L ts prs ∧ (∀ ab ∈ prs, (∀ a ∈ ab.1, a < k) ∧ ∀ b ∈ ab.2, b < k) ∧ es.length + prs.length ≤ 1000000 ∧
  ∀ (H' : Hp) (es' : List Ent) (r : Addr), But d H H' → ProdAt P w C H' p d rows es' → es'.length ≤ es.length + prs.length → TupI H' r (toI (unionL (joined rows prs))) → Q (.ref r) H'
theorem scUnion : FnScope ["self", "pairs", "found", "first", "second", "beans", "bean"] ["self", "pairs"] (defScope sProUnion) := ⟨rfl, rfl, rfl, by decide +kernel, rfl, by decide +kernel, by decide +kernel⟩
/-- the set at D holds all of the first i sets and more -/
structure Join (w : World) (H0 H : Hp) (D : Addr) (ls : List (List Nat)) (i : Nat) (more : List Nat) : Prop where
  ex : ∃ (S : Int → Bool) (n : Nat), H = upd H0 D (SetO w D S n) ∧ Few S n ∧ ∀ z, S z = true ↔ (∃ l ∈ ls.take i, ∃ x ∈ l, (x : Int) = z) ∨ (∃ x ∈ more, (x : Int) = z)
theorem ok_union {f C : Addr} {fd : FuncData} (B0 : Blt mg) (T : ProTxt K C) (D1 : MethOk P w K mg base CX0 C 1 "product" ["self", "first", "second"] (spProduct P w C)) (F : Fun K "union" "SetProducts.union" sProUnion f fd) :
    FnOk P w K mg base CX0 2 f fd ["self", "pairs"] (spUnion P w C) := by
  obtain ⟨f1, fd1, m1, b1, G1⟩ := D1.ex
  refine F.ok scUnion (fun vs H Q E h => ?_) (fun cdv A0 outer s H vs Q E hr h => ?_)
  · obtain ⟨p, d, L, ts, prs, rows, es, k, rfl, _⟩ := h
    rfl
  · obtain ⟨p, d, L, ts, prs, rows, es, k, rfl, Pr, Tb, Ps, hk, hes, q⟩ := h
    refine ⟨_, pss_cons (ps_setLc (i := 2) (own := [("first", 3), ("second", 4)]) (g := gTup K 2 (gCons (gName 3) (gCons (gName 4) gNil))) (tt := tYes) rfl scUnion.nd rfl rfl (sw_true rfl rfl rfl (by decide +kernel)) (pi_list (pv 1))
        (blkOk_by (N := ["self", "pairs", "found", "first", "second", "beans", "bean"]) (sc := defScope sProUnion) (by decide +kernel))
        (fun _ _ _ _ _ => pgTK K rfl (pgs_cons (pg_name (i := 3) scUnion.nd rfl (Or.inl rfl)) (pgs_cons (pg_name (i := 4) scUnion.nd rfl (Or.inl rfl)) pgs_nil))) (fun _ _ _ _ _ => pts_nil)
        (fun _ _ _ _ _ => pe_meth (pv 0) T.cl m1 G1 hr b1 .nil pass0 (pa_cons (pv 3) (pa_cons (pv 4) pa_nil))))
      (pss_one (ps_ret (pe_callTy call_tuple_of (by rfl) B0.tuple bTuple (pa_cons (pe_callB (cr_sortedSet rfl) (by rfl) B0.sorted bSorted (pa_cons (pe_sc2 (own := [("beans", 5), ("bean", 6)]) (vs1 := [6]) (g := gName 5) (g1 := gName 6) rfl scUnion.nd (pi_list (pv 2))
            (blkOk_by (N := ["self", "pairs", "found", "first", "second", "beans", "bean"]) (sc := defScope sProUnion) (by decide +kernel)) (by decide) (fun _ _ _ _ _ => pg_name (i := 5) scUnion.nd rfl (Or.inl rfl)) (fun _ _ _ _ _ => piTK K (pv 5)) (fun _ _ _ _ _ => pg_name (i := 6) scUnion.nd rfl (Or.inl rfl))
            (fun _ _ _ _ _ => pv 6)) pa_nil)) pa_nil)))), ?_⟩
    refine ⟨_, rfl, L, rfl, ⟨_, SqL.of Ps.top⟩, fun D hD => ?_⟩
    have LD : L ≠ D := ne_of_none Ps.top hD
    have lenP : (ts.map V.ref).length = prs.length := by rw [List.length_map, Ps.len]
    have dD : d ≠ D := ne_of_none Pr.dict.ob hD
    refine lc_list (K := K) (a := L) (xs := ts.map V.ref) (fun i H' => But d H H' ∧ ∃ (rs : List Addr) (es' : List Ent), SetsAt H' D rs (joined rows (prs.take i)) ∧ ProdAt P w C H' p d rows es' ∧ es'.length ≤ es.length + i)
      ⟨Same.but (same_upd hD), [], es, ⟨upd_same, by simp [joined], fun i r l h1 _ => by simp at h1⟩, ProdAt.same (same_upd hD) Pr, Nat.le_refl _⟩
      (fun i H' _ ⟨bt, _⟩ => SqL.of (bt.keep _ _ (ne_of Ps.top Pr.dict.ob kd_lst) Ps.top)) ?_ ?_
    · rintro i x H' hx ⟨bt, rs, es1, Ss, Pr1, hl1⟩
      obtain ⟨t, ht, rfl⟩ : ∃ t, ts[i]? = some t ∧ x = V.ref t := by
        rw [List.getElem?_map] at hx
        obtain ⟨a, e, z⟩ := Option.map_eq_some_iff.mp hx
        exact ⟨a, e, z.symm⟩
      have hi : i < prs.length := by
        rw [← Ps.len]
        exact (List.getElem?_eq_some_iff.mp ht).1
      have kt := KeyAt.but Pr.dict bt (Ps.at_ i t prs[i] ht (List.getElem?_eq_getElem hi))
      obtain ⟨ta, tb, e1, tA, tB⟩ := kt
      obtain ⟨dx, L0, as, hp, R⟩ := Pr1.ob
      refine ⟨t, _, rfl, SqT.of e1, rfl, _, _, rfl, _, _, rfl, rfl, ?_⟩
      refine ⟨rfl, ?_⟩
      obtain ⟨hka, hkb⟩ := hk _ (List.getElem_mem hi)
      refine ⟨_, rfl, p, dx, _, rfl, hp, pf_no _ _ (by decide +kernel) (by decide +kernel), _, rfl, _, rfl, p, d, ta, tb, rows, es1, prs[i].1, prs[i].2, k, rfl, Pr1, Tb, tA, tB, hka, hkb, by omega, fun H2 es2 r bt2 Pr2 hl2 tR => ?_⟩
      have hDs : H2 D = some (.lst (rs.map V.ref)) := bt2.keep _ _ dD.symm Ss.top
      have bt3 : But d H H2 := bt.trans bt2
      refine ⟨_, hDs, ?_, bt3.put hD hDs, rs ++ [r], es2, ⟨by rw [upd_same, List.map_append]; rfl, ?_, fun j r' l h1 h2 => ?_⟩, ProdAt.put bt3 Pr Pr2 hD hDs, by omega⟩
      · rw [List.length_map, Ss.len]
        have : (joined rows (prs.take i)).length ≤ 1000000 := by
          simp [joined]
          omega
        exact Nat.lt_of_le_of_lt this (by decide)
      · rw [List.length_append, Ss.len]
        simp [joined]
        omega
      · have up : ∀ {a : Addr} {zs : List Int}, TupI H2 a zs → TupI (upd H2 D (.lst (rs.map V.ref ++ [V.ref r]))) a zs := fun {a zs} z => by
          have z' : H2 a = some (.tup (zs.map V.int)) := z
          show (upd H2 D _) a = _
          rw [upd_ne (ne_of z' hDs (by intro e; cases e))]
          exact z'
        have hlen : (joined rows (prs.take i)).length = i := by
          simp [joined]
          omega
        have et : joined rows (prs.take (i + 1)) = joined rows (prs.take i) ++ [prodL rows prs[i].1 prs[i].2] := by
          unfold joined
          rw [List.take_succ_eq_append_getElem hi, List.map_append]
          rfl
        rw [et] at h2
        by_cases hj : j < rs.length
        · rw [List.getElem?_append_left hj] at h1
          rw [List.getElem?_append_left (by rw [← Ss.len]; exact hj)] at h2
          exact up (TupI.but Pr1.dict bt2 (Ss.at_ j r' l h1 h2))
        · have hj2 : j = rs.length := by
            have := (List.getElem?_eq_some_iff.mp h1).1
            rw [List.length_append] at this
            simp at this
            omega
          subst hj2
          rw [List.getElem?_append_right (Nat.le_refl _), Nat.sub_self] at h1
          rw [Ss.len, List.getElem?_append_right (Nat.le_refl _), Nat.sub_self] at h2
          have er : r = r' := Option.some.inj h1
          have el : prodL rows prs[i].1 prs[i].2 = l := Option.some.inj h2
          rw [← er, ← el]
          exact up tR
    · rw [lenP]
      rintro H1 ⟨bt, rs, es1, Ss, Pr1, hl1⟩
      rw [List.take_length] at Ss
      -- the union
      have hls : ∀ l ∈ joined rows prs, ∀ x ∈ l, x < 8 := fun l hl x hx => by
        obtain ⟨ab, hab, rfl⟩ := List.mem_map.mp hl
        obtain ⟨h1, h2⟩ := hk ab hab
        exact Nat.lt_of_lt_of_le (prodL_lt Tb h1 h2 hx) Tb.le8
      generalize joined rows prs = ls at Ss hls q
      refine ⟨_, rfl, D, rfl, ⟨_, SqL.of Ss.top⟩, fun U hU => ?_⟩
      have nU : ∀ {b : Addr} {o : HO}, H1 b = some o → b ≠ U := fun e => ne_of_none e hU
      have lenR : (rs.map V.ref).length = ls.length := by rw [List.length_map, Ss.len]
      refine ⟨fun i m H2 => m + i = ls.length ∧ Join w H1 H2 U ls i [], ⟨ls.length, by omega, ⟨_, 0, rfl, Few.nil, fun z => by simp⟩⟩, ?_⟩
      rintro i m H2 ⟨em, ⟨S, n, rfl, fw, hS⟩⟩
      have lift : ∀ {b : Addr} {o : HO}, H1 b = some o → (upd H1 U (SetO w U S n)) b = some o := fun e => by
        rw [upd_ne (nU e)]
        exact e
      by_cases hi : i < ls.length
      · have hir : i < rs.length := by rw [Ss.len]; exact hi
        have gR : (rs.map V.ref)[i]? = some (V.ref rs[i]) := by rw [List.getElem?_map, List.getElem?_eq_getElem hir]; rfl
        have tR := Ss.at_ i rs[i] ls[i] (List.getElem?_eq_getElem hir) (List.getElem?_eq_getElem hi)
        refine .inr ⟨⟨_, _, SqL.of (lift Ss.top), gR⟩, fun H' => Join w H1 H' U ls (i + 1) [], fun H' hH' => ⟨m - 1, by omega, by omega, hH'⟩, ?_⟩
        rintro x H3 ⟨rfl, hx⟩
        have ex : x = V.ref rs[i] := Option.some.inj ((hx _ (SqL.of (lift Ss.top))).symm.trans gR)
        subst ex
        refine ⟨rfl, ?_⟩
        refine ⟨_, rfl, rs[i], rfl, ⟨_, SqT.of (lift tR)⟩, ?_⟩
        refine ⟨fun j m1 H4 => m1 + j = ls[i].length ∧ Join w H1 H4 U ls i (ls[i].take j), ⟨ls[i].length, by omega, ⟨S, n, rfl, fw, fun z => by rw [hS z]; simp⟩⟩, ?_⟩
        rintro j m1 H4 ⟨em1, ⟨S1, n1, rfl, fw1, hS1⟩⟩
        have lift1 : ∀ {b : Addr} {o : HO}, H1 b = some o → (upd H1 U (SetO w U S1 n1)) b = some o := fun e => by
          rw [upd_ne (nU e)]
          exact e
        by_cases hj : j < ls[i].length
        · have gB : ((toI ls[i]).map V.int)[j]? = some (V.int (ls[i][j] : Int)) := vI_get (List.getElem?_eq_getElem hj)
          refine .inr ⟨⟨_, _, SqT.of (lift1 tR), gB⟩, fun H' => Join w H1 H' U ls i (ls[i].take (j + 1)), fun H' hH' => ⟨m1 - 1, by omega, by omega, hH'⟩, ?_⟩
          rintro y H5 ⟨rfl, hy⟩
          have ey : y = V.int (ls[i][j] : Int) := Option.some.inj ((hy _ (SqT.of (lift1 tR))).symm.trans gB)
          subst ey
          refine ⟨rfl, ?_⟩
          have lt8 : ∀ z, S1 z = true → ∃ x : Nat, x < 8 ∧ (x : Int) = z := fun z hz => by
            rcases (hS1 z).1 hz with ⟨l, hl, x, hx, e⟩ | ⟨x, hx, e⟩
            · exact ⟨x, hls l (List.mem_of_mem_take hl) x hx, e⟩
            · exact ⟨x, hls _ (List.getElem_mem hi) x (List.mem_of_mem_take hx), e⟩
          refine ⟨_, rfl, _, S1, n1, rfl, upd_same, scan8 (fw1.le lt8), ⟨_, _, upd_upd, fw1.add _, fun z => ?_⟩⟩
          rw [Bool.or_eq_true, decide_eq_true_eq, hS1, List.take_succ_eq_append_getElem hj]
          constructor
          · rintro ((h | ⟨b, hb, e⟩) | e)
            · exact .inl h
            · exact .inr ⟨b, List.mem_append_left _ hb, e⟩
            · exact .inr ⟨ls[i][j], List.mem_append_right _ (List.mem_singleton.mpr rfl), e.symm⟩
          · rintro (h | ⟨b, hb, e⟩)
            · exact .inl (.inl h)
            · rcases List.mem_append.mp hb with hb | hb
              · exact .inl (.inr ⟨b, hb, e⟩)
              · rw [List.mem_singleton.mp hb] at e
                exact .inr e.symm
        · have ej : j = ls[i].length := by omega
          subst ej
          refine .inl ⟨⟨_, SqT.of (lift1 tR), by rw [List.length_map]; simp [toI]⟩, ⟨S1, n1, rfl, fw1, fun z => ?_⟩⟩
          rw [hS1 z, List.take_length, List.take_succ_eq_append_getElem hi]
          constructor
          · rintro (⟨l, hl, x, hx, e⟩ | ⟨x, hx, e⟩)
            · exact .inl ⟨l, List.mem_append_left _ hl, x, hx, e⟩
            · exact .inl ⟨ls[i], List.mem_append_right _ (List.mem_singleton.mpr rfl), x, hx, e⟩
          · rintro (⟨l, hl, x, hx, e⟩ | ⟨x, hx, e⟩)
            · rcases List.mem_append.mp hl with hl | hl
              · exact .inl ⟨l, hl, x, hx, e⟩
              · rw [List.mem_singleton.mp hl] at hx
                exact .inr ⟨x, hx, e⟩
            · cases hx
      · have ei : i = ls.length := by omega
        subst ei
        refine .inl ⟨⟨_, SqL.of (lift Ss.top), by rw [lenR]; exact Nat.le_refl _⟩, ?_⟩
        have hS' : ∀ z, S z = true ↔ ∃ x ∈ unionL ls, (x : Int) = z := fun z => by
          rw [hS z, List.take_length]
          constructor
          · rintro (⟨l, hl, x, hx, e⟩ | ⟨x, hx, e⟩)
            · exact ⟨x, (mem_unionL hls).2 ⟨l, hl, hx⟩, e⟩
            · cases hx
          · rintro ⟨x, hx, e⟩
            obtain ⟨l, hl, hx⟩ := (mem_unionL hls).1 hx
            exact .inl ⟨l, hl, x, hx, e⟩
        have lt8 : ∀ z, S z = true → ∃ x : Nat, x < 8 ∧ (x : Int) = z := fun z hz => by
          obtain ⟨x, hx, e⟩ := (hS' z).1 hz
          obtain ⟨l, hl, hx⟩ := (mem_unionL hls).1 hx
          exact ⟨x, hls l hl x hx, e⟩
        refine ⟨U, S, n, rfl, upd_same, Nat.lt_of_le_of_lt (fw.le lt8) (by decide), fun ns l rising hmem _ hl => ?_⟩
        have ens : ns = toI (unionL ls) := sorted_is rising fun z => (hmem z).trans (hS' z)
        subst ens
        refine ⟨l, _, rfl, .inl ⟨SqL.of upd_same, fun r hr => ?_⟩⟩
        have s2 : Same H1 (upd H1 U (SetO w U S n)) := same_upd hU
        have s14 := s2.trans ((same_upd (o := .lst ((toI (unionL ls)).map V.int)) hl).trans (same_upd (o := .tup ((toI (unionL ls)).map V.int)) hr))
        exact q _ es1 r (bt.trans (Same.but s14)) (ProdAt.same s14 Pr1) hl1 upd_same
end
end BjP
/-! Beanjars: numbers in a range, the sets of 0, 1, 2, .. beans. -/
namespace BjP
open PySem L2 Bj BjR
section
variable {P : Program} {w : World} {K : PySem.W.Frag} {mg : PySem.Str → Option Value} {base : Heap}
def spBetween : Sp := fun vs H Q _ => ∃ v lo hi : Int, vs = [.int v, .int lo, .int hi] ∧ lo ≤ v ∧ v ≤ hi ∧ Q .non H
theorem scBetween : FnScope ["value", "low", "high"] ["value", "low", "high"] (defScope sBetween) := ⟨rfl, rfl, rfl, by decide +kernel, rfl, by decide +kernel, by decide +kernel⟩
theorem ok_between {f : Addr} {fd : FuncData} (D1 : DefOk P w K mg base CX0 1 "is_integer" ["value"] spIsInt) (F : Fun K "validate_between" "validate_between" sBetween f fd) : FnOk P w K mg base CX0 2 f fd ["value", "low", "high"] spBetween := by
  obtain ⟨f1, fd1, m1, k1, b1, G1⟩ := D1.ex
  refine F.ok scBetween (fun vs H Q E h => ?_) (fun cdv A outer s H vs Q E hr h => ?_)
  · obtain ⟨v, lo, hi, rfl, _⟩ := h
    rfl
  · obtain ⟨v, lo, hi, rfl, h1, h2, q⟩ := h
    refine ⟨_, pss_one (ps_if (PW.pt (pw_or (pt_not (pt_val (pe_call G1 hr (by rfl) m1 k1 b1 .nil pass0 (pa_cons (pv 0) pa_nil)))) (pw_or1 (pt_not (pt_chain op_le op_le (pv 1) (pv 0) (pv 2)))))) (pss_one ps_never) pss_nil), ?_⟩
    refine ⟨_, rfl, _, rfl, true, rfl, iteF ?_⟩
    refine ⟨_, rfl, _, rfl, _, _, rfl, rfl, _, rfl, ?_⟩
    refine iteD h1 ⟨_, rfl, _, _, rfl, rfl, true, congrArg V.bl (decide_eq_true h2), iteF q⟩
def spCount : Sp := fun vs H Q _ => ∃ v l : Int, vs = [.int v, .int l] ∧ l ≤ v ∧ Q .non H
theorem scCount : FnScope ["value", "least"] ["value", "least"] (defScope sCount) := ⟨rfl, rfl, rfl, by decide +kernel, rfl, by decide +kernel, by decide +kernel⟩
theorem ok_count {f : Addr} {fd : FuncData} (D1 : DefOk P w K mg base CX0 1 "is_integer" ["value"] spIsInt) (F : Fun K "validate_count" "validate_count" sCount f fd) : FnOk P w K mg base CX0 2 f fd ["value", "least"] spCount := by
  obtain ⟨f1, fd1, m1, k1, b1, G1⟩ := D1.ex
  refine F.ok scCount (fun vs H Q E h => ?_) (fun cdv A outer s H vs Q E hr h => ?_)
  · obtain ⟨v, l, rfl, _⟩ := h
    rfl
  · obtain ⟨v, l, rfl, h1, q⟩ := h
    refine ⟨_, pss_one (ps_if (PW.pt (pw_or (pt_not (pt_val (pe_call G1 hr (by rfl) m1 k1 b1 .nil pass0 (pa_cons (pv 0) pa_nil)))) (pw_or1 (pt_cmpR op_lt (pv 0) (pv 1) (nomark _))))) (pss_one ps_never) pss_nil), ?_⟩
    refine ⟨_, rfl, _, rfl, true, rfl, iteF ?_⟩
    exact ⟨_, rfl, _, rfl, _, _, rfl, rfl, _, rfl, iteDF (by omega) q⟩
def spReduced : Sp := fun vs H Q _ => ∃ n st p : Nat, vs = [.int n, .int st, .int p] ∧ 1 ≤ p ∧ Q (.int (red n st p : Nat)) H
theorem scReduced : FnScope ["count", "start", "length"] ["count", "start", "length"] (defScope sReduced) := ⟨rfl, rfl, rfl, by decide +kernel, rfl, by decide +kernel, by decide +kernel⟩
theorem ok_reduced {f : Addr} {fd : FuncData} (F : Fun K "reduced" "reduced" sReduced f fd) : FnOk P w K mg base CX0 1 f fd ["count", "start", "length"] spReduced := by
  refine F.ok scReduced (fun vs H Q E h => ?_) (fun cdv A outer s H vs Q E hr h => ?_)
  · obtain ⟨n, st, p, rfl, _⟩ := h
    rfl
  · obtain ⟨n, st, p, rfl, hp, q⟩ := h
    refine ⟨_, pss_one (ps_ret (pe_ifExp (pt_cmpR op_lt (pv 0) (pv 1) (nomark _)) (pv 0) (pe_op op_add (pv 1) (pe_op op_mod (pe_op op_sub (pv 0) (pv 1)) (pv 2))))), ?_⟩
    refine ⟨_, rfl, _, rfl, _, _, rfl, rfl, _, rfl, ?_⟩
    by_cases hn : n < st
    · refine iteD (by omega) ⟨_, rfl, ?_⟩
      have e : red n st p = n := if_pos hn
      rw [e] at q
      exact q
    · refine iteDF (by omega) ?_
      refine ⟨_, rfl, _, rfl, _, rfl, _, _, rfl, rfl, _, rfl, _, _, rfl, rfl, (by omega), _, _, rfl, rfl, ?_⟩
      have e : ((red n st p : Nat) : Int) = (st : Int) + ((n : Int) - (st : Int)) % (p : Int) := by
        unfold red
        rw [if_neg hn]
        have e1 : (n : Int) - (st : Int) = ((n - st : Nat) : Int) := by omega
        rw [e1, Int.natCast_add, Int.natCast_emod]
      rw [e] at q
      exact q
/-! ### first_sets -/
theorem SetsAt.but {d L : Addr} {H H' : Hp} {rs : List Addr} {ls : List (List Nat)} {es : List Ent} (D : DictP P w H d es) (s : But d H H') (h : SetsAt H L rs ls) : SetsAt H' L rs ls :=
  ⟨s.keep _ _ (ne_of h.top D.ob kd_lst) h.top, h.len, fun i r l h1 h2 => TupI.but D s (h.at_ i r l h1 h2)⟩
theorem SetsAt.push {L r : Addr} {H : Hp} {rs : List Addr} {ls : List (List Nat)} {l : List Nat} (h : SetsAt H L rs ls) (t : TupI H r (toI l)) : SetsAt (L2.upd H L (.lst (rs.map V.ref ++ [V.ref r]))) L (rs ++ [r]) (ls ++ [l]) := by
  have up : ∀ {a : Addr} {zs : List Int}, TupI H a zs → TupI (L2.upd H L (.lst (rs.map V.ref ++ [V.ref r]))) a zs := fun {a zs} z => by
    have z' : H a = some (.tup (zs.map V.int)) := z
    show (L2.upd H L _) a = _
    rw [upd_ne (ne_of z' h.top (by intro e; cases e))]
    exact z'
  refine ⟨by rw [upd_same, List.map_append]; rfl, by rw [List.length_append, List.length_append, h.len]; rfl, fun j r' l' h1 h2 => ?_⟩
  by_cases hj : j < rs.length
  · rw [List.getElem?_append_left hj] at h1
    rw [List.getElem?_append_left (by rw [← h.len]; exact hj)] at h2
    exact up (h.at_ j r' l' h1 h2)
  · have hj2 : j = rs.length := by
      have := (List.getElem?_eq_some_iff.mp h1).1
      rw [List.length_append] at this
      simp at this
      omega
    subst hj2
    rw [List.getElem?_append_right (Nat.le_refl _), Nat.sub_self] at h1
    rw [h.len, List.getElem?_append_right (Nat.le_refl _), Nat.sub_self] at h2
    have er : r = r' := Option.some.inj h1
    have el : l = l' := Option.some.inj h2
    rw [← er, ← el]
    exact up t
/-- the n-th set of a list of sets -/
theorem SetsAt.get {L : Addr} {H : Hp} {rs : List Addr} {N : Nat} {Z : Nat → List Nat} (h : SetsAt H L rs ((List.range N).map Z)) {n : Nat} (hn : n < N) : ∃ r, rs[n]? = some r ∧ (rs.map V.ref)[n]? = some (V.ref r) ∧ TupI H r (toI (Z n)) := by
  have hl : n < rs.length := by rw [h.len]; simpa using hn
  have e : rs[n]? = some rs[n] := List.getElem?_eq_getElem hl
  exact ⟨rs[n], e, by rw [List.getElem?_map, e]; rfl, h.at_ n _ _ e (by simp [hn])⟩
def spFirst (CT : Addr) : Sp := fun vs H Q _ => ∃ (t : Addr) (c many : Nat) (rows : List (List Nat)) (k : Nat), vs = [.ref t, .int c, .int many] ∧ TableAt CT H t rows ∧ Tab k rows ∧ c < k ∧ 2 ≤ many ∧ many ≤ 200 ∧
  ∀ (H' : Hp) (fl : Addr) (rs : List Addr), Same H H' → SetsAt H' fl rs ((List.range (many + 1)).map (S rows c)) → Q (.ref fl) H'
theorem scFirst : FnScope ["table", "colour", "many", "products", "found", "count", "part"] ["table", "colour", "many"] (defScope sFirst) := ⟨rfl, rfl, rfl, by decide +kernel, rfl, by decide +kernel, by decide +kernel⟩
end
end BjP
/-! Beanjars: first_sets. -/
namespace BjP
open PySem L2 Bj BjR
/-- the pairs of sets that the program joins for n beans -/
noncomputable def prsOf (rows : List (List Nat)) (c n : Nat) : List (List Nat × List Nat) := (List.range (n / 2)).map fun i => (S rows c (i + 1), S rows c (n - (i + 1)))
theorem prs_parts (rows : List (List Nat)) (c n : Nat) : joined rows (prsOf rows c n) = parts rows c n := by
  unfold joined prsOf parts
  rw [List.map_map]
  rfl
theorem prs_len (rows : List (List Nat)) (c n : Nat) : (prsOf rows c n).length = n / 2 := by simp [prsOf]
section
variable {P : Program} {w : World} {K : PySem.W.Frag} {mg : PySem.Str → Option Value} {base : Heap}
theorem ok_first {f CT C fI : Addr} {fd fdI : FuncData} (B : Blt mg) (T : ProTxt K C) (mC : mg "SetProducts" = some (.ref C)) (M : Mk K C fI) (bI : Binds K fdI ["self", "table"] []) (GI : FnOk P w K mg base CX0 2 fI fdI ["self", "table"] (spProInit P w CT C))
    (D1 : MethOk P w K mg base CX0 C 2 "union" ["self", "pairs"] (spUnion P w C)) (F : Fun K "first_sets" "first_sets" sFirst f fd) : FnOk P w K mg base CX0 4 f fd ["table", "colour", "many"] (spFirst CT) := by
  obtain ⟨f1, fd1, m1, b1, G1⟩ := D1.ex
  refine F.ok scFirst (fun vs H Q E h => ?_) (fun cdv A0 outer s H vs Q E hr h => ?_)
  · obtain ⟨t, c, many, rows, k, rfl, _⟩ := h
    rfl
  · obtain ⟨t, c, many, rows, k, rfl, hT, Tb, hc, hm2, hm, q⟩ := h
    refine ⟨_, pss_cons (ps_asg (pe_tup (pa_cons (pe_make M GI hr rfl mC bI .nil pass0 (pa_cons (pv 0) pa_nil)) (pa_cons (pe_lst (pa_cons (pe_tup pa_nil) (pa_cons (pe_tup (pa_cons (pv 1) pa_nil)) pa_nil))) pa_nil)))
        (pg_tup rfl (pgs_cons (pg_name (i := 3) scFirst.nd rfl (Or.inl rfl)) (pgs_cons (pg_name (i := 4) scFirst.nd rfl (Or.inr rfl)) pgs_nil))))
      (pss_cons (ps_for PassesOwn.never rfl (pi_range2 (by rfl) B.range (pa_cons pe_int (pa_cons (pe_op op_add (pv 2) pe_int) pa_nil))) (pg_name (i := 5) scFirst.nd rfl (Or.inr rfl))
        (pss_one (ps_expr (pe_bm PySem.F.plainAttrs_list PySem.F.slot_list_append PySem.F.type_list_append mt_append (pv 4) (pa_cons (pe_meth (pv 3) T.cl m1 G1 (hr.mono (by decide)) b1 .nil pass0
          (pa_cons (pe_lc (own := [("part", 6)]) (g := gName 6) (tt := tYes) rfl scFirst.nd (pi_range2 (by rfl) B.range (pa_cons pe_int (pa_cons (pe_op op_add (pe_op op_fdiv (pv 5) pe_int) pe_int) pa_nil)))
            (blkOk_by (N := ["table", "colour", "many", "products", "found", "count", "part"]) (sc := defScope sFirst) (by decide +kernel)) (fun _ _ _ _ _ => pg_name (i := 6) scFirst.nd rfl (Or.inl rfl)) (fun _ _ _ _ _ => pts_nil)
            (fun _ _ _ _ _ => pe_tup (pa_cons (pe_ix (ixLK K) (pv 4) (pv 6) (fun _ _ => rfl)) (pa_cons (pe_ix (ixLK K) (pv 4) (pe_op op_sub (pv 5) (pv 6)) (fun _ _ => rfl)) pa_nil)))) pa_nil)) pa_nil)))))
      (pss_one (ps_ret (pv 4)))), ?_⟩
    -- SetProducts(table)
    refine ⟨_, rfl, fun x dx nx ndx nex => ?_⟩
    have s0 : Same H (upd (upd H dx (.own x)) x (.ins C dx [])) := fun b o e => by
      rw [upd_ne (ne_of_none e nx), upd_ne (ne_of_none e ndx)]
      exact e
    refine ⟨x, dx, t, rows, rfl, upd_same, hT.same s0, by rw [Tb.len]; exact Tb.le8, fun H1 d hd Pr1 kp => ⟨rfl, ?_⟩⟩
    have s1 : Same H H1 := fun b o e => kp b o (s0 b o e) (ne_of_none e nx)
    -- [(), (colour,)]
    refine ⟨Nat.zero_le _, fun t0 ht0 => ?_⟩
    refine ⟨_, rfl, (by show 1 ≤ sizeLine; decide), fun t1 ht1 => ?_⟩
    refine ⟨two_line, fun fl hfl => ?_⟩
    have sA : Same H1 (upd H1 t0 (.tup [])) := same_upd ht0
    have sB : Same (upd H1 t0 (.tup [])) (upd (upd H1 t0 (.tup [])) t1 (.tup [.int c])) := same_upd ht1
    have tA : TupI (upd (upd H1 t0 (.tup [])) t1 (.tup [.int c])) t0 (toI []) := sB _ _ upd_same
    have tB : TupI (upd (upd H1 t0 (.tup [])) t1 (.tup [.int c])) t1 (toI [c]) := upd_same
    generalize upd (upd H1 t0 (.tup [])) t1 (.tup [.int c]) = H2 at sB hfl tA tB
    have s2 : Same H1 H2 := sA.trans sB
    have s3 : Same H2 (upd H2 fl (.lst [.ref t0, .ref t1])) := same_upd hfl
    refine ⟨two_line, fun tp htp => ?_⟩
    have s4 : Same (upd H2 fl (.lst [.ref t0, .ref t1])) (upd (upd H2 fl (.lst [.ref t0, .ref t1])) tp (.tup [.ref x, .ref fl])) := same_upd htp
    refine ⟨tp, _, rfl, SqT.of upd_same, rfl, _, _, rfl, _, _, rfl, rfl, ?_⟩
    have hfl4 : (upd (upd H2 fl (.lst [.ref t0, .ref t1])) tp (.tup [.ref x, .ref fl])) fl = some (.lst [.ref t0, .ref t1]) := s4 _ _ upd_same
    generalize hH4 : upd (upd H2 fl (.lst [.ref t0, .ref t1])) tp (.tup [.ref x, .ref fl]) = H4 at s4 hfl4
    have s24 : Same H2 H4 := s3.trans s4
    have Pr2 := ProdAt.same s2 Pr1
    have Pr4 := ProdAt.same s24 Pr2
    have Ss4 : SetsAt H4 fl [t0, t1] ((List.range 2).map (S rows c)) := by
      refine ⟨hfl4, rfl, fun i r l h1 h2 => ?_⟩
      have e0 : S rows c 0 = [] := S_zero
      have e1 : S rows c 1 = [c] := S_one Tb hc
      match i, h1, h2 with
      | 0, h1, h2 =>
        have er : t0 = r := Option.some.inj h1
        have el : S rows c 0 = l := Option.some.inj h2
        rw [← er, ← el, e0]
        exact tA.same s24
      | 1, h1, h2 =>
        have er : t1 = r := Option.some.inj h1
        have el : S rows c 1 = l := Option.some.inj h2
        rw [← er, ← el, e1]
        exact tB.same s24
      | i + 2, h1, h2 => simp at h1
    -- the loop
    refine ⟨_, rfl, _, _, rfl, rfl, 2, (many : Int) + 1, rfl, ⟨by omega, by omega, by omega, by omega⟩, ?_⟩
    have eN : ((many : Int) + 1 - 2).toNat = many - 1 := by omega
    rw [eN]
    refine for_range (lo := 2) (n := many - 1) (fun i σ H' => ∃ vc, σ = [some (.ref t), some (.int c), some (.int many), some (.ref x), some (.ref fl), vc, none] ∧ But d H2 H' ∧ ∃ (rs : List Addr) (es : List Ent), SetsAt H' fl rs ((List.range (i + 2)).map (S rows c)) ∧ ProdAt P w C H' x d rows es ∧ es.length ≤ 200 * i)
      ⟨none, rfl, Same.but s24, _, [], Ss4, Pr4, Nat.zero_le _⟩ ?_ ?_
    · rintro i σ H' hi ⟨vc, rfl, bt, rs, es, Ss, Pr, hes⟩
      obtain ⟨dxP, LP, asP, hxP, RP⟩ := Pr.ob
      have fd : fl ≠ d := ne_of Ss.top Pr.dict.ob kd_lst
      refine ⟨_, rfl, .inl ⟨rfl, _, SqL.of Ss.top⟩, ?_⟩
      refine ⟨_, rfl, x, dxP, _, rfl, hxP, pf_no _ _ (by decide +kernel) (by decide +kernel), ?_⟩
      -- the pairs
      have hcnt : (2 : Int) + (i : Int) = ((i + 2 : Nat) : Int) := by omega
      rw [hcnt]
      refine ⟨_, rfl, _, _, rfl, rfl, ⟨by decide, by decide⟩, _, _, rfl, rfl, 1, _, rfl, ⟨by omega, by omega, by omega, by omega⟩, ?_⟩
      have eD : (((i + 2 : Nat) : Int) / 2 + 1 - 1).toNat = (i + 2) / 2 := by omega
      rw [eD]
      intro D hD
      refine lc_range (lo := 1) (n := (i + 2) / 2) (fun j H'' => Same H' H'' ∧ ∃ ts, PairsAt H'' D ts ((prsOf rows c (i + 2)).take j)) ⟨same_upd hD, [], upd_same, rfl, fun i t ab h1 _ => by simp at h1⟩ ?_ ?_
      · rintro j H'' hj ⟨sm, ts, Ps⟩
        have SsJ := SetsAt.same sm Ss
        refine ⟨rfl, ?_⟩
        obtain ⟨r1, _, g1, u1⟩ := SsJ.get (n := j + 1) (by omega)
        obtain ⟨r2, _, g2, u2⟩ := SsJ.get (n := i + 2 - (j + 1)) (by omega)
        refine ⟨_, rfl, _, rfl, fl, _, _, _, rfl, rfl, SqL.of SsJ.top, at_of (by omega) g1, _, rfl, _, rfl, _, rfl, _, _, rfl, rfl, fl, _, _, _, rfl, rfl, SqL.of SsJ.top, at_of (by omega) g2, two_line, fun tp2 htp2 => ?_⟩
        have s5 : Same H'' (upd H'' tp2 (.tup [.ref r1, .ref r2])) := same_upd htp2
        have hl : ts.length = j := by
          rw [Ps.len, List.length_take, prs_len]
          omega
        have hDs := s5 _ _ Ps.top
        refine ⟨_, hDs, ?_, fun b o e => ?_, ts ++ [tp2], ⟨by rw [upd_same, List.map_append]; rfl, ?_, fun j' t' ab h1 h2 => ?_⟩⟩
        · rw [List.length_map, hl]
          exact small1000 (by omega)
        · rw [upd_ne (ne_of_none e hD)]
          exact s5 _ _ (sm _ _ e)
        · rw [List.length_append, hl, List.length_take, prs_len]
          have : (i + 2) / 2 ≥ j + 1 := hj
          show j + 1 = _
          omega
        · have hjl : j < (prsOf rows c (i + 2)).length := by rw [prs_len]; exact hj
          have up : ∀ {a : Addr} {A B : List Int}, KeyAt (upd H'' tp2 (.tup [.ref r1, .ref r2])) a A B → KeyAt (upd (upd H'' tp2 (.tup [.ref r1, .ref r2])) D (.lst (ts.map V.ref ++ [V.ref tp2]))) a A B := fun {a A B} z => by
            obtain ⟨p, q', e, z1, z2⟩ := z
            have nd : ∀ {b : Addr} {ys : List V}, (upd H'' tp2 (.tup [.ref r1, .ref r2])) b = some (.tup ys) → b ≠ D := fun e => ne_of e hDs (by intro z; cases z)
            have y1 : (upd H'' tp2 (.tup [.ref r1, .ref r2])) p = some (.tup (A.map V.int)) := z1
            have y2 : (upd H'' tp2 (.tup [.ref r1, .ref r2])) q' = some (.tup (B.map V.int)) := z2
            exact ⟨p, q', by rw [upd_ne (nd e)]; exact e, by show (upd _ D _) p = _; rw [upd_ne (nd y1)]; exact y1, by show (upd _ D _) q' = _; rw [upd_ne (nd y2)]; exact y2⟩
          rw [List.take_succ_eq_append_getElem hjl] at h2
          by_cases hj' : j' < ts.length
          · rw [List.getElem?_append_left hj'] at h1
            rw [List.getElem?_append_left (by rw [← Ps.len]; exact hj')] at h2
            exact up ((Ps.at_ j' t' ab h1 h2).same s5)
          · have hj2 : j' = ts.length := by
              have := (List.getElem?_eq_some_iff.mp h1).1
              rw [List.length_append] at this
              simp at this
              omega
            subst hj2
            rw [List.getElem?_append_right (Nat.le_refl _), Nat.sub_self] at h1
            rw [Ps.len, List.getElem?_append_right (Nat.le_refl _), Nat.sub_self] at h2
            have er : tp2 = t' := Option.some.inj h1
            have el : (prsOf rows c (i + 2))[j] = ab := Option.some.inj h2
            have eab : ab = (S rows c (j + 1), S rows c (i + 2 - (j + 1))) := by
              rw [← el]
              simp [prsOf]
            rw [← er, eab]
            exact up ⟨r1, r2, upd_same, u1.same s5, u2.same s5⟩
      · rintro H'' ⟨sm, ts, Ps⟩
        have et : (prsOf rows c (i + 2)).take ((i + 2) / 2) = prsOf rows c (i + 2) := List.take_of_length_le (by rw [prs_len]; exact Nat.le_refl _)
        rw [et] at Ps
        refine ⟨x, d, D, ts, prsOf rows c (i + 2), rows, es, k, rfl, ProdAt.same sm Pr, Tb, Ps, fun ab hab => ?_, by rw [prs_len]; omega, fun H3 es3 r bt3 Pr3 hl3 tR => ?_⟩
        · obtain ⟨j, _, rfl⟩ := List.mem_map.mp hab
          exact ⟨fun a ha => S_lt Tb hc ha, fun b hb => S_lt Tb hc hb⟩
        · rw [prs_parts, ← S_step Tb hc (show 2 ≤ i + 2 by omega)] at tR
          have bt13 : But d H2 H3 := bt.trans ((Same.but sm).trans bt3)
          have Ss3 := SetsAt.but (ProdAt.same sm Pr).dict bt3 (SetsAt.same sm Ss)
          refine ⟨fl, _, _, rfl, rfl, Ss3.top, ?_, ?_⟩
          · rw [List.length_map, Ss3.len]
            exact small1000 (by simp; omega)
          · refine ⟨_, rfl, bt13.put hfl Ss3.top, rs ++ [r], es3, ?_, ProdAt.put bt13 Pr2 Pr3 hfl Ss3.top, by rw [prs_len] at hl3; omega⟩
            have z := SetsAt.push Ss3 tR
            have er : (List.range (i + 1 + 2)).map (S rows c) = (List.range (i + 2)).map (S rows c) ++ [S rows c (i + 2)] := by
              rw [show i + 1 + 2 = (i + 2) + 1 by omega, List.range_succ, List.map_append]
              rfl
            rw [er]
            exact z
    · rintro σ H' ⟨vc, rfl, bt, rs, es, Ss, Pr, hes⟩
      have e : many - 1 + 2 = many + 1 := by omega
      rw [e] at Ss
      refine ⟨_, rfl, q H' fl rs (fun b o e => ?_) Ss⟩
      exact bt.keep _ _ (fun z => by
        have z2 := kp b o (s0 b o e) (ne_of_none e nx)
        rw [z] at e
        have hd2 : (upd (upd H dx (.own x)) x (.ins C dx [])) d = none := hd
        rw [s0 d o e] at hd2
        cases hd2) (s2 _ _ (s1 _ _ e))
end
end BjP
/-! Beanjars: the period is looked for. -/
namespace BjP
open PySem L2 Bj BjR
theorem eqv_nums : ∀ A B : List Int, PyData.eqvAll (A.map PyData.int) (B.map PyData.int) = decide (A = B)
  | [], [] => by simp [PyData.eqvAll]
  | [], _ :: _ => by simp [PyData.eqvAll]
  | _ :: _, [] => by simp [PyData.eqvAll]
  | a :: A, b :: B => by
    rw [List.map_cons, List.map_cons, PyData.eqvAll, eqv_nums A B]
    have e : PyData.eqv (.int a) (.int b) = (a == b) := by simp [PyData.eqv]
    rw [e]
    by_cases h1 : a = b <;> by_cases h2 : A = B <;> simp [h1, h2]
theorem eqv_tups (A B : List Nat) : PyData.eqv (.tuple ((toI A).map PyData.int)) (.tuple ((toI B).map PyData.int)) = decide (A = B) := by
  have e : PyData.eqv (.tuple ((toI A).map PyData.int)) (.tuple ((toI B).map PyData.int)) = PyData.eqvAll ((toI A).map PyData.int) ((toI B).map PyData.int) := by rw [PyData.eqv]
  rw [e, eqv_nums]
  by_cases h : A = B
  · subst h
    simp
  · rw [decide_eq_false h, decide_eq_false fun z => h (toI_inj z)]
theorem dpAll_nums {K : PySem.W.Frag} {H : Hp} : ∀ l : List Int, DpAll K H (l.map V.int) (l.map PyData.int)
  | [] => .nil
  | a :: l => .cons (.int a) (dpAll_nums l)
theorem TupI.dp {K : PySem.W.Frag} {H : Hp} {a : Addr} {l : List Int} (t : TupI H a l) : Dp K H (.ref a) (.tuple (l.map PyData.int)) := .tup (SqT.of t) (dpAll_nums l)
theorem depth_ints : ∀ l : List Int, PyData.depthAll (l.map PyData.int) ≤ 1
  | [] => by simp [PyData.depthAll]
  | a :: l => by
    have ih := depth_ints l
    simp only [List.map_cons, PyData.depthAll, PyData.depth]
    omega

theorem lay_ints : ∀ l : List Int, PyData.canLayAll0 (l.map PyData.int) = true
  | [] => by simp [PyData.canLayAll0]
  | a :: l => by
    rw [List.map_cons, PyData.canLayAll0, lay_ints l]
    simp [PyData.canLay0]
theorem shaped_ints (l : List Int) : SeqAt.shaped (.tuple (l.map PyData.int)) = true := by
  unfold SeqAt.shaped
  rw [Bool.and_eq_true, decide_eq_true_eq]
  have h := depth_ints l
  refine ⟨by rw [PyData.canLay0]; exact lay_ints l, ?_⟩
  rw [PyData.depth]
  omega
section
variable {P : Program} {w : World} {K : PySem.W.Frag} {mg : PySem.Str → Option Value} {base : Heap}
/-! ### LimitExceeded.__init__ -/
def spLim (C : Addr) : Sp := fun vs H Q _ => ∃ (a : Addr) (v : V), vs = [.ref a, v] ∧ H a = some (exo a C none) ∧ ∀ dx, H dx = none → dx ≠ a → Q .non (upd (upd H dx (exd dx [("limit", v)])) a (exo a C (some dx)))
theorem scLim : FnScope ["self", "limit"] ["self", "limit"] (defScope sLimInit) := ⟨rfl, rfl, rfl, by decide +kernel, rfl, by decide +kernel, by decide +kernel⟩
/-- what the written part says of LimitExceeded, at C, and of its __init__, at fI -/
structure LimTxt (K : PySem.W.Frag) (mg : PySem.Str → Option Value) (C fI : Addr) : Prop where
  ex : OexO K C
  noL : PySem.W.findIn K (.ref C) "limit" = some none
  mC : mg "LimitExceeded" = some (.ref C)
  mO : mg "OverflowError" = none
  vO : PySem.W.findCls K (.type "OverflowError") (.type "type") "__init__" = some (.val (.builtin "OverflowError.__init__"))
  iC : PySem.W.findIn K (.ref C) "__init__" = some (some (.ref fI))
  tI : PySem.W.typeIn K (.ref fI) = some (.type "function")
theorem ok_lim {f C : Addr} {fd : FuncData} (T : LimTxt K mg C f) (F : Fun K "__init__" "LimitExceeded.__init__" sLimInit f fd) : FnOk P w K mg base CX0 1 f fd ["self", "limit"] (spLim C) := by
  refine F.ok scLim (fun vs H Q E h => ?_) (fun cdv A outer s H vs Q E hr h => ?_)
  · obtain ⟨a, v, rfl, _⟩ := h
    rfl
  · obtain ⟨a, v, rfl, ha, q⟩ := h
    refine ⟨_, pss_cons (ps_expr (pe_oeinit (by rfl) T.mO T.vO (pa_cons (pv 0) (pa_cons pe_str pa_nil)))) (pss_one (ps_os1 (pv 0) (pv 1))), ?_⟩
    refine ⟨_, rfl, a, C, _, rfl, (by show 1 ≤ 1000; decide), T.ex, ha, ?_⟩
    exact ⟨_, rfl, _, rfl, a, C, rfl, T.ex, T.noL, ha, q⟩
/-! ### start_of -/
def spStart : Sp := fun vs H Q _ => ∃ (fl : Addr) (rs : List Addr) (N p : Nat) (Z : Nat → List Nat), vs = [.ref fl, .int p] ∧ SetsAt H fl rs ((List.range N).map Z) ∧ 1 ≤ p ∧ p < N ∧ Q (.int (startFrom Z p (N - p) : Nat)) H
theorem scStart : FnScope ["found", "length", "start"] ["found", "length"] (defScope sStart) := ⟨rfl, rfl, rfl, by decide +kernel, rfl, by decide +kernel, by decide +kernel⟩
theorem ok_start {f : Addr} {fd : FuncData} (B : Blt mg) (F : Fun K "start_of" "start_of" sStart f fd) : FnOk P w K mg base CX0 1 f fd ["found", "length"] spStart := by
  refine F.ok scStart (fun vs H Q E h => ?_) (fun cdv A outer s H vs Q E hr h => ?_)
  · obtain ⟨fl, rs, N, p, Z, rfl, _⟩ := h
    rfl
  · obtain ⟨fl, rs, N, p, Z, rfl, Ss, hp, hN, q⟩ := h
    have hu := hr.units
    refine ⟨_, pss_cons (ps_set (i := 2) scStart.nd rfl (Or.inl rfl) (pe_op op_sub (pe_callB call_len_seq (by rfl) B.len bLen (pa_cons (pv 0) pa_nil)) (pv 1)))
      (pss_cons (ps_while PassesOwn.never (PW.pt (pw_and (pt_cmpR op_gt (pv 2) pe_int (nomark _)) (pw_and1 (pt_cmpR (op_eqD hu) (pe_ix ix_list (pv 0) (pe_op op_sub (pv 2) pe_int) (fun _ _ => rfl)) (pe_ix ix_list (pv 0) (pe_op op_add (pe_op op_sub (pv 2) pe_int) (pv 1)) (fun _ _ => rfl)) (nomark _)))))
        (pss_one (ps_aug (i := 2) scStart.nd rfl (Or.inl rfl) pe_int ip_sub)))
      (pss_one (ps_ret (pv 2)))), ?_⟩
    have hl : (rs.map V.ref).length = N := by rw [List.length_map, Ss.len]; simp
    refine ⟨_, rfl, fl, _, rfl, .inl (SqL.of Ss.top), _, rfl, _, _, rfl, rfl, ?_⟩
    rw [hl]
    refine ⟨fun m σ H' => H' = H ∧ 1 ≤ m ∧ m ≤ N - p ∧ startFrom Z p m = startFrom Z p (N - p) ∧ σ = [some (.ref fl), some (.int p), some (.int (m : Nat))], ⟨N - p, rfl, by omega, Nat.le_refl _, rfl, ?_⟩, ?_⟩
    · show [some (V.ref fl), some (V.int p), some (V.int ((N : Int) - (p : Int)))] = _
      rw [show (N : Int) - (p : Int) = ((N - p : Nat) : Int) by omega]
    · rintro m σ H' ⟨rfl, h1, h2, h3, rfl⟩
      refine ⟨_, rfl, _, _, rfl, rfl, _, rfl, ?_⟩
      by_cases hm : (1 : Int) < (m : Int)
      · refine iteD hm ?_
        obtain ⟨m', rfl⟩ : ∃ m', m = m' + 2 := ⟨m - 2, by omega⟩
        obtain ⟨r1, _, g1, u1⟩ := Ss.get (n := m' + 1) (by omega)
        obtain ⟨r2, _, g2, u2⟩ := Ss.get (n := m' + 1 + p) (by omega)
        refine ⟨_, rfl, _, rfl, _, _, rfl, rfl, fl, _, _, _, rfl, rfl, SqL.of Ss.top, at_of (by omega) g1, _, rfl, _, rfl, _, _, rfl, rfl, _, rfl, _, _, rfl, rfl, fl, _, _, _, rfl, rfl, SqL.of Ss.top, at_of (by omega) g2, _, _, TupI.dp u1, TupI.dp u2, shaped_ints _, shaped_ints _, _, rfl, ?_⟩
        rw [eqv_tups]
        by_cases e : Z (m' + 1) = Z (m' + 1 + p)
        · refine iteD e ⟨fun σ' H'' => H'' = H' ∧ σ' = [some (.ref fl), some (.int p), some (.int ((m' + 1 : Nat) : Nat))], ?_, _, rfl, _, _, rfl, rfl, rfl, ?_⟩
          · rintro σ' H'' ⟨rfl, rfl⟩
            refine ⟨m' + 1, by omega, rfl, by omega, by omega, ?_, rfl⟩
            rw [← h3]
            show _ = if Z (m' + 1) = Z (m' + 1 + p) then startFrom Z p (m' + 1) else m' + 2
            rw [if_pos e]
          · show [some (V.ref fl), some (V.int p), some (V.int (((m' + 2 : Nat) : Int) - 1))] = _
            rw [show ((m' + 2 : Nat) : Int) - 1 = ((m' + 1 : Nat) : Int) by omega]
        · refine iteDF e ⟨_, rfl, ?_⟩
          rw [← h3] at q
          have e2 : startFrom Z p (m' + 2) = m' + 2 := by
            show (if Z (m' + 1) = Z (m' + 1 + p) then startFrom Z p (m' + 1) else m' + 2) = _
            rw [if_neg e]
          rw [e2] at q
          exact q
      · refine iteDF hm ⟨_, rfl, ?_⟩
        have em : m = 1 := by omega
        subst em
        rw [← h3] at q
        exact q
/-! ### find_period -/
/-- the slots of a def that may raise -/
def spFindP (CL : Addr) : Sp := fun vs H Q E => ∃ (fl : Addr) (rs : List Addr) (most : Nat) (Z : Nat → List Nat), vs = [.ref fl, .int most] ∧ SetsAt H fl rs ((List.range (2 * most + 1)).map Z) ∧ 2 ≤ most ∧ most ≤ 100 ∧
  (perOf Z most = none → ∀ d H', Same H H' → E (.ref CL) (some d) H') ∧ ∀ st p, perOf Z most = some (st, p) → ∀ t, H t = none → Q (.ref t) (upd H t (.tup [.int st, .int p]))
theorem scFindP : FnScope ["found", "most", "length", "start"] ["found", "most"] (defScope sFindP) := ⟨rfl, rfl, rfl, by decide +kernel, rfl, by decide +kernel, by decide +kernel⟩
theorem ok_findP {f CL fI : Addr} {fd fdI : FuncData} (B : Blt mg) (T : LimTxt K mg CL fI) (bI : Binds K fdI ["self", "limit"] []) (GI : FnOk P w K mg base CX0 1 fI fdI ["self", "limit"] (spLim CL))
    (D1 : DefOk P w K mg base CX0 1 "start_of" ["found", "length"] spStart) (F : Fun K "find_period" "find_period" sFindP f fd) : FnOk P w K mg base (L2.CX P w) 3 f fd ["found", "most"] (spFindP CL) := by
  obtain ⟨f1, fd1, m1, k1, b1, G1⟩ := D1.ex
  refine F.okX scFindP (fun vs H Q E h => ?_) (fun cdv A outer s H vs Q E hr h => ?_)
  · obtain ⟨fl, rs, most, Z, rfl, _⟩ := h
    rfl
  · obtain ⟨fl, rs, most, Z, rfl, Ss, hm2, hm, kE, kQ⟩ := h
    refine ⟨_, pss_cons (ps_for (passes_of rfl) rfl (pi_range2 (by rfl) B.range (pa_cons pe_int (pa_cons (pv 1) pa_nil))) (pg_name (i := 2) scFindP.nd rfl (Or.inl rfl))
        (pss_cons (ps_set (i := 3) scFindP.nd rfl (Or.inl rfl) (pe_call G1 (hr.mono (by decide)) (by rfl) m1 k1 b1 .nil pass0 (pa_cons (pv 0) (pa_cons (pv 2) pa_nil))))
        (pss_one (ps_if (pt_cmpR op_le (pe_op op_add (pv 3) (pv 2)) (pv 1) (nomark _)) (pss_one (ps_ret (pe_tup (pa_cons (pv 3) (pa_cons (pv 2) pa_nil))))) pss_nil))))
      (pss_one (ps_raise rfl (takes_of rfl rfl rfl rfl) (pmk_oe T.ex T.iC T.tI GI hr bI pass0 (by rfl) T.mC (pa_cons (pv 1) pa_nil)))), ?_⟩
    refine ⟨_, rfl, 1, (most : Int), rfl, ⟨by omega, by omega, by omega, by omega⟩, ?_⟩
    have eN : ((most : Int) - 1).toNat = most - 1 := by omega
    rw [eN]
    refine for_range (lo := 1) (n := most - 1) (fun i σ H' => H' = H ∧ (∀ j, j < i → tryLen Z most j = none) ∧ ∃ v2 v3, σ = [some (.ref fl), some (.int most), v2, v3]) ⟨rfl, fun j hj => by omega, none, none, rfl⟩ ?_ ?_
    · rintro i σ H' hi ⟨rfl, hno, v2, v3, rfl⟩
      have e1 : (1 : Int) + (i : Int) = ((i + 1 : Nat) : Int) := by omega
      rw [e1]
      refine ⟨_, rfl, _, rfl, fl, rs, 2 * most + 1, i + 1, Z, rfl, Ss, by omega, by omega, ?_⟩
      refine ⟨_, rfl, _, rfl, _, _, rfl, rfl, _, rfl, _, _, rfl, rfl, _, rfl, ?_⟩
      by_cases hle : startFrom Z (i + 1) (2 * most + 1 - (i + 1)) + (i + 1) ≤ most
      · refine iteD (by omega) ?_
        refine ⟨_, rfl, _, rfl, two_line, fun t ht => ?_⟩
        have ht2 : tryLen Z most i = some (startFrom Z (i + 1) (2 * most + 1 - (i + 1)), i + 1) := if_pos hle
        exact kQ _ _ (perOf_found (by omega) hno ht2) t ht
      · refine iteDF (by omega) ?_
        have ht2 : tryLen Z most i = none := if_neg hle
        refine ⟨rfl, fun j hj => ?_, _, _, rfl⟩
        by_cases e : j = i
        · rw [e]
          exact ht2
        · exact hno j (by omega)
    · rintro σ H' ⟨rfl, hno, v2, v3, rfl⟩
      refine ⟨_, rfl, (by show 1 ≤ 1000; decide), fun a ha => ?_⟩
      refine ⟨a, _, rfl, upd_same, fun dx hdx nda => ⟨rfl, dx, [("limit", V.int (most : Int))], upd_same, ?_, ?_, ?_⟩⟩
      · rw [upd_ne nda]
        exact upd_same
      · rw [upd_ne nda] at hdx
        exact hdx
      · refine kE (perOf_none hno) dx _ fun b o e => ?_
        rw [upd_ne nda] at hdx
        have nb : b ≠ a := ne_of_none e ha
        have nb2 : b ≠ dx := ne_of_none e hdx
        rw [upd_ne nb2, del_ne nb, upd_ne nb, upd_ne nb2, upd_ne nb]
        exact e
end
end BjP
/-! Beanjars: the sets of any number of beans. -/
namespace BjP
open PySem L2 Bj BjR
section
variable {P : Program} {w : World} {K : PySem.W.Frag} {mg : PySem.Str → Option Value} {base : Heap}
/-- a callee's exception is this def's -/
theorem passOwn {X : Cx} {E : XK} (hs : X.stack = X.env :: X.outer) (hf : X.env.frame = some X.env.locals) (hex : X.ex = []) {E1 : Value → Shared → Prop}
    (hx : X.xe = fun e s' => wpAny (model X.prog X.w) X.A (leaving X.env e) (fun _ s'' => L2.CX X.prog X.w X.outer X.H_0 X.s_0 E e s'') E1 s') : Passes (L2.CX X.prog X.w) X E :=
  passes_call (takes_of (E := E) hs hf hex hx) fun _ _ _ _ h => h
/-! ### find_sets -/
def spFindS (CT CL : Addr) : Sp := fun vs H Q E => ∃ (t : Addr) (c most : Nat) (rows : List (List Nat)) (k : Nat), vs = [.ref t, .int c, .int most] ∧ TableAt CT H t rows ∧ Tab k rows ∧ c < k ∧ 2 ≤ most ∧ most ≤ 100 ∧
  (perOf (S rows c) most = none → ∀ d H', Same H H' → E (.ref CL) (some d) H') ∧
  ∀ st p, perOf (S rows c) most = some (st, p) → ∀ (H' : Hp) (fl tp : Addr) (rs : List Addr), Same H H' → SetsAt H' fl rs ((List.range (2 * most + 1)).map (S rows c)) → H' tp = some (.tup [.int st, .int p, .ref fl]) → Q (.ref tp) H'
theorem scFindS : FnScope ["table", "colour", "most", "found", "start", "length"] ["table", "colour", "most"] (defScope sFindS) := ⟨rfl, rfl, rfl, by decide +kernel, rfl, by decide +kernel, by decide +kernel⟩
theorem ok_findS {f CT CL : Addr} {fd : FuncData} (D1 : DefOk P w K mg base CX0 4 "first_sets" ["table", "colour", "many"] (spFirst CT)) (D2 : DefOk P w K mg base (L2.CX P w) 3 "find_period" ["found", "most"] (spFindP CL))
    (F : Fun K "find_sets" "find_sets" sFindS f fd) : FnOk P w K mg base (L2.CX P w) 5 f fd ["table", "colour", "most"] (spFindS CT CL) := by
  obtain ⟨f1, fd1, m1, k1, b1, G1⟩ := D1.ex
  obtain ⟨f2, fd2, m2, k2, b2, G2⟩ := D2.ex
  refine F.okX scFindS (fun vs H Q E h => ?_) (fun cdv A outer s H vs Q E hr h => ?_)
  · obtain ⟨t, c, most, rows, k, rfl, _⟩ := h
    rfl
  · obtain ⟨t, c, most, rows, k, rfl, hT, Tb, hc, hm2, hm, kE, kQ⟩ := h
    refine ⟨_, pss_cons (ps_set (i := 3) scFindS.nd rfl (Or.inl rfl) (pe_call G1 hr (by rfl) m1 k1 b1 .nil pass0 (pa_cons (pv 0) (pa_cons (pv 1) (pa_cons (pe_op op_mul pe_int (pv 2)) pa_nil)))))
      (pss_cons (ps_asg (pe_call (E := E) G2 (hr.mono (by decide)) (by rfl) m2 k2 b2 .nil (passOwn rfl rfl rfl rfl) (pa_cons (pv 3) (pa_cons (pv 2) pa_nil)))
        (pg_tup rfl (pgs_cons (pg_name (i := 4) scFindS.nd rfl (Or.inl rfl)) (pgs_cons (pg_name (i := 5) scFindS.nd rfl (Or.inl rfl)) pgs_nil))))
      (pss_one (ps_ret (pe_tup (pa_cons (pv 4) (pa_cons (pv 5) (pa_cons (pv 3) pa_nil))))))), ?_⟩
    refine ⟨_, rfl, _, rfl, _, rfl, _, _, rfl, rfl, .inl ⟨by omega, by omega⟩, ?_⟩
    have e2 : (2 : Int) * (most : Int) = ((2 * most : Nat) : Int) := by omega
    refine ⟨t, c, 2 * most, rows, k, (by show [V.ref t, V.int (c : Int), V.int ((2 : Int) * (most : Int))] = _; rw [e2]), hT, Tb, hc, by omega, by omega, fun H1 fl rs s1 Ss => ?_⟩
    refine ⟨_, rfl, _, rfl, fl, rs, most, S rows c, rfl, Ss, hm2, hm, fun hn d H' s2 => kE hn d H' (s1.trans s2), fun st p hp tp htp => ?_⟩
    have s2 : Same H1 (upd H1 tp (.tup [.int st, .int p])) := same_upd htp
    refine ⟨tp, _, rfl, SqT.of upd_same, rfl, _, _, rfl, _, _, rfl, rfl, ?_⟩
    refine ⟨_, rfl, _, rfl, _, rfl, (by show 3 ≤ sizeLine; decide), fun tq htq => ?_⟩
    have s3 : Same (upd H1 tp (.tup [.int st, .int p])) (upd (upd H1 tp (.tup [.int st, .int p])) tq (.tup [.int st, .int p, .ref fl])) := same_upd htq
    exact kQ st p hp _ fl tq rs (s1.trans (s2.trans s3)) (SetsAt.same (s2.trans s3) Ss) upd_same
/-! ### period -/
theorem cut2 (a b c : V) : cutV [a, b, c] none (some 2) = [a, b] := by
  unfold cutV
  rw [HT.sIx_none, show HT.sIx ([a, b, c] : List V).length ([a, b, c] : List V).length (some 2) = 2 from rfl]
  rfl
def spPeriod (CT CL : Addr) : Sp := fun vs H Q E => ∃ (t : Addr) (c most : Nat) (rows : List (List Nat)) (k : Nat), vs = [.ref t, .int c, .int most] ∧ TableAt CT H t rows ∧ Tab k rows ∧ c < k ∧ 2 ≤ most ∧ most ≤ 100 ∧
  (perOf (S rows c) most = none → ∀ d H', Same H H' → E (.ref CL) (some d) H') ∧
  ∀ st p, perOf (S rows c) most = some (st, p) → ∀ (H' : Hp) (tp : Addr), Same H H' → H' tp = some (.tup [.int st, .int p]) → Q (.ref tp) H'
theorem scPeriod : FnScope ["table", "colour", "most"] ["table", "colour", "most"] (defScope sPeriod) := ⟨rfl, rfl, rfl, by decide +kernel, rfl, by decide +kernel, by decide +kernel⟩
theorem ok_period {f CT CL : Addr} {fd : FuncData} (TT : TabTxt K CT) (m100 : ∃ t, mg "MAX_MOST" = some (.int 100 t)) (D1 : MethOk P w K mg base CX0 CT 3 "validate_colour" ["self", "value"] (spVal CT)) (D2 : DefOk P w K mg base CX0 2 "validate_between" ["value", "low", "high"] spBetween)
    (D3 : DefOk P w K mg base (L2.CX P w) 5 "find_sets" ["table", "colour", "most"] (spFindS CT CL)) (F : Fun K "period" "period" sPeriod f fd) : FnOk P w K mg base (L2.CX P w) 6 f fd ["table", "colour", "most"] (spPeriod CT CL) := by
  obtain ⟨f1, fd1, m1, b1, G1⟩ := D1.ex
  obtain ⟨f2, fd2, m2, k2, b2, G2⟩ := D2.ex
  obtain ⟨f3, fd3, m3, k3, b3, G3⟩ := D3.ex
  obtain ⟨t100, m100⟩ := m100
  refine F.okX scPeriod (fun vs H Q E h => ?_) (fun cdv A outer s H vs Q E hr h => ?_)
  · obtain ⟨t, c, most, rows, k, rfl, _⟩ := h
    rfl
  · obtain ⟨t, c, most, rows, k, rfl, hT, Tb, hc, hm2, hm, kE, kQ⟩ := h
    refine ⟨_, pss_cons (ps_expr (pe_meth (pv 0) TT.cl m1 G1 (hr.mono (by decide)) b1 .nil pass0 (pa_cons (pv 1) pa_nil)))
      (pss_cons (ps_expr (pe_call G2 (hr.mono (by decide)) (by rfl) m2 k2 b2 .nil pass0 (pa_cons (pv 2) (pa_cons pe_int (pa_cons (pe_glob (v := .int 100) (by rfl) m100 ⟨_, rfl⟩) pa_nil)))))
      (pss_one (ps_ret (pe_slice sl_tup (pe_call (E := E) G3 hr (by rfl) m3 k3 b3 .nil (passOwn rfl rfl rfl rfl) (pa_cons (pv 0) (pa_cons (pv 1) (pa_cons (pv 2) pa_nil)))) po_none (po_some pe_int))))), ?_⟩
    obtain ⟨dx, L, as, ht, R⟩ := id hT
    refine ⟨_, rfl, t, dx, _, rfl, ht, lk_no _ (by decide +kernel), _, rfl, t, rows, c, rfl, hT, by rw [Tb.len]; exact hc, ?_⟩
    refine ⟨_, rfl, most, 2, 100, rfl, by omega, by omega, ?_⟩
    refine ⟨_, rfl, _, rfl, _, rfl, t, c, most, rows, k, rfl, hT, Tb, hc, hm2, hm, kE, fun st p hp H1 fl tp rs s1 Ss htp => ?_⟩
    refine ⟨2, rfl, tp, _, rfl, SqT.of htp, (fun z => absurd z.2 (by show ¬ HT.sIx 3 3 (some 2) = 3; decide)), fun tq htq => ?_⟩
    rw [cut2]
    exact kQ st p hp _ tq (s1.trans (same_upd htq)) upd_same
/-! ### beans_of_many -/
def spBeans (CT : Addr) : Sp := fun vs H Q _ => ∃ (t : Addr) (c n most : Nat) (rows : List (List Nat)) (k st p : Nat), vs = [.ref t, .int c, .int n, .int most] ∧ TableAt CT H t rows ∧ Tab k rows ∧ c < k ∧ 1 ≤ n ∧ 2 ≤ most ∧ most ≤ 100 ∧ perOf (S rows c) most = some (st, p) ∧
  ∀ (H' : Hp) (l : Addr), Same H H' → H l = none → H' l = some (.lst (vI (S rows c n))) → Q (.ref l) H'
theorem scBeans : FnScope ["table", "colour", "count", "most", "start", "length", "found"] ["table", "colour", "count", "most"] (defScope sBeans) := ⟨rfl, rfl, rfl, by decide +kernel, rfl, by decide +kernel, by decide +kernel⟩
theorem ok_beans {f CT CL : Addr} {fd : FuncData} (B : Blt mg) (TT : TabTxt K CT) (m100 : ∃ t, mg "MAX_MOST" = some (.int 100 t)) (D1 : MethOk P w K mg base CX0 CT 3 "validate_colour" ["self", "value"] (spVal CT)) (D2 : DefOk P w K mg base CX0 2 "validate_between" ["value", "low", "high"] spBetween)
    (D3 : DefOk P w K mg base (L2.CX P w) 5 "find_sets" ["table", "colour", "most"] (spFindS CT CL)) (D4 : DefOk P w K mg base CX0 2 "validate_count" ["value", "least"] spCount) (D5 : DefOk P w K mg base CX0 1 "reduced" ["count", "start", "length"] spReduced)
    (F : Fun K "beans_of_many" "beans_of_many" sBeans f fd) : FnOk P w K mg base CX0 6 f fd ["table", "colour", "count", "most"] (spBeans CT) := by
  obtain ⟨f1, fd1, m1, b1, G1⟩ := D1.ex
  obtain ⟨f2, fd2, m2, k2, b2, G2⟩ := D2.ex
  obtain ⟨f3, fd3, m3, k3, b3, G3⟩ := D3.ex
  obtain ⟨f4, fd4, m4, k4, b4, G4⟩ := D4.ex
  obtain ⟨f5, fd5, m5, k5, b5, G5⟩ := D5.ex
  obtain ⟨t100, m100⟩ := m100
  refine F.ok scBeans (fun vs H Q E h => ?_) (fun cdv A outer s H vs Q E hr h => ?_)
  · obtain ⟨t, c, n, most, rows, k, st, p, rfl, _⟩ := h
    rfl
  · obtain ⟨t, c, n, most, rows, k, st, p, rfl, hT, Tb, hc, hn, hm2, hm, hp, q⟩ := h
    refine ⟨_, pss_cons (ps_expr (pe_meth (pv 0) TT.cl m1 G1 (hr.mono (by decide)) b1 .nil pass0 (pa_cons (pv 1) pa_nil)))
      (pss_cons (ps_expr (pe_call G4 (hr.mono (by decide)) (by rfl) m4 k4 b4 .nil pass0 (pa_cons (pv 2) (pa_cons pe_int pa_nil))))
      (pss_cons (ps_expr (pe_call G2 (hr.mono (by decide)) (by rfl) m2 k2 b2 .nil pass0 (pa_cons (pv 3) (pa_cons pe_int (pa_cons (pe_glob (v := .int 100) (by rfl) m100 ⟨_, rfl⟩) pa_nil)))))
      (pss_cons (ps_asg (pe_call G3 hr (by rfl) m3 k3 b3 .nil passL (pa_cons (pv 0) (pa_cons (pv 1) (pa_cons (pv 3) pa_nil))))
        (pg_tup rfl (pgs_cons (pg_name (i := 4) scBeans.nd rfl (Or.inl rfl)) (pgs_cons (pg_name (i := 5) scBeans.nd rfl (Or.inl rfl)) (pgs_cons (pg_name (i := 6) scBeans.nd rfl (Or.inl rfl)) pgs_nil)))))
      (pss_one (ps_ret (pe_callTy call_list_of (by rfl) B.list bList (pa_cons (pe_ix ix_list (pv 6) (pe_call G5 (hr.mono (by decide)) (by rfl) m5 k5 b5 .nil pass0 (pa_cons (pv 2) (pa_cons (pv 4) (pa_cons (pv 5) pa_nil)))) (fun _ _ => rfl)) pa_nil))))))), ?_⟩
    obtain ⟨dx, L, as, ht, R⟩ := id hT
    refine ⟨_, rfl, t, dx, _, rfl, ht, lk_no _ (by decide +kernel), _, rfl, t, rows, c, rfl, hT, by rw [Tb.len]; exact hc, ?_⟩
    refine ⟨_, rfl, n, 1, rfl, by omega, ?_⟩
    refine ⟨_, rfl, most, 2, 100, rfl, by omega, by omega, ?_⟩
    refine ⟨_, rfl, _, rfl, _, rfl, t, c, most, rows, k, rfl, hT, Tb, hc, hm2, hm, (fun hn => by rw [hp] at hn; cases hn), fun st' p' hp' H1 fl tp rs s1 Ss htp => ?_⟩
    rw [hp] at hp'
    cases hp'
    have Pr := perOf_spec hp
    refine ⟨tp, _, rfl, SqT.of htp, rfl, _, _, rfl, _, _, rfl, _, _, rfl, rfl, ?_⟩
    have hlt := red_lt (n := n) (st := st) Pr.p1
    have hle := Pr.le
    obtain ⟨r, _, g, u⟩ := Ss.get (n := red n st p) (by omega)
    refine ⟨_, rfl, _, rfl, _, rfl, _, rfl, n, st, p, rfl, Pr.p1, fl, _, _, _, rfl, rfl, SqL.of Ss.top, at_of rfl g, r, _, rfl, .inr (SqT.of u), fun l hl => ?_⟩
    refine q _ l (s1.trans (same_upd hl)) (s1.free hl) ?_
    rw [upd_same, S_red Tb hc Pr]
    rfl
end
end BjP
/-! Beanjars: the leading numbers and their count. -/
namespace BjP
open PySem L2 Bj BjR
theorem in_vI (x : Nat) (l : List Nat) : inV (.int (x : Int)) (vI l) = l.contains x := by
  unfold inV
  rw [vI_eq, Bool.eq_iff_iff, List.any_eq_true, List.contains_iff_mem]
  constructor
  · rintro ⟨y, hy, e⟩
    obtain ⟨z, hz, rfl⟩ := List.mem_map.mp hy
    have e : ((z : Int) == (x : Int)) = true := e
    have e2 : z = x := by
      have := of_decide_eq_true e
      omega
    rw [← e2]
    exact hz
  · intro h
    exact ⟨.int x, List.mem_map.mpr ⟨x, h, rfl⟩, by show ((x : Int) == (x : Int)) = true; simp⟩
theorem flat_vI (l : List Nat) : (vI l).all flatV = true := by
  rw [vI_eq, List.all_map]
  simp [flatV]
theorem vI_app (l m : List Nat) : vI (l ++ m) = vI l ++ vI m := by
  rw [vI_eq, vI_eq, vI_eq, List.map_append]
section
variable {P : Program} {w : World} {K : PySem.W.Frag} {mg : PySem.Str → Option Value} {base : Heap}
/-! ### leading_counts -/
def spLead (CT : Addr) : Sp := fun vs H Q _ => ∃ (t : Addr) (c x most : Nat) (rows : List (List Nat)) (k st p : Nat), vs = [.ref t, .int c, .int x, .int most] ∧ TableAt CT H t rows ∧ Tab k rows ∧ c < k ∧ 2 ≤ most ∧ most ≤ 100 ∧ perOf (S rows c) most = some (st, p) ∧
  ∀ (H' : Hp) (tp l : Addr), Same H H' → H' tp = some (.tup [.int st, .int p, .ref l]) → H' l = some (.lst (vI (lead (S rows c) st p x))) → Q (.ref tp) H'
theorem scLead : FnScope ["table", "colour", "wanted", "most", "start", "length", "found", "count"] ["table", "colour", "wanted", "most"] (defScope sLead) := ⟨rfl, rfl, rfl, by decide +kernel, rfl, by decide +kernel, by decide +kernel⟩
theorem ok_lead {f CT CL : Addr} {fd : FuncData} (B : Blt mg) (D3 : DefOk P w K mg base (L2.CX P w) 5 "find_sets" ["table", "colour", "most"] (spFindS CT CL))
    (F : Fun K "leading_counts" "leading_counts" sLead f fd) : FnOk P w K mg base CX0 6 f fd ["table", "colour", "wanted", "most"] (spLead CT) := by
  obtain ⟨f3, fd3, m3, k3, b3, G3⟩ := D3.ex
  refine F.ok scLead (fun vs H Q E h => ?_) (fun cdv A outer s H vs Q E hr h => ?_)
  · obtain ⟨t, c, x, most, rows, k, st, p, rfl, _⟩ := h
    rfl
  · obtain ⟨t, c, x, most, rows, k, st, p, rfl, hT, Tb, hc, hm2, hm, hp, q⟩ := h
    refine ⟨_, pss_cons (ps_asg (pe_call G3 hr (by rfl) m3 k3 b3 .nil passL (pa_cons (pv 0) (pa_cons (pv 1) (pa_cons (pv 3) pa_nil))))
        (pg_tup rfl (pgs_cons (pg_name (i := 4) scLead.nd rfl (Or.inl rfl)) (pgs_cons (pg_name (i := 5) scLead.nd rfl (Or.inl rfl)) (pgs_cons (pg_name (i := 6) scLead.nd rfl (Or.inr rfl)) pgs_nil)))))
      (pss_one (ps_ret (pe_tup (pa_cons (pv 4) (pa_cons (pv 5) (pa_cons (pe_lc (own := [("count", 7)]) (g := gName 7) rfl scLead.nd (pi_range2 (by rfl) B.range (pa_cons pe_int (pa_cons (pe_op op_add (pv 4) (pv 5)) pa_nil)))
        (blkOk_by (N := ["table", "colour", "wanted", "most", "start", "length", "found", "count"]) (sc := defScope sLead) (by decide +kernel)) (fun _ _ _ _ _ => pg_name (i := 7) scLead.nd rfl (Or.inl rfl))
        (fun _ _ _ _ _ => pts_one (pt_cmpR (inK K) (pv 2) (pe_ix (ixLK K) (pv 6) (pv 7) (fun _ _ => rfl)) (by rfl)))
        (fun _ _ _ _ _ => pv 7)) pa_nil)))))), ?_⟩
    refine ⟨_, rfl, _, rfl, _, rfl, t, c, most, rows, k, rfl, hT, Tb, hc, hm2, hm, (fun hn => by rw [hp] at hn; cases hn), fun st' p' hp' H1 fl tp rs s1 Ss htp => ?_⟩
    rw [hp] at hp'
    cases hp'
    have Pr := perOf_spec hp
    have hst := Pr.st1
    have hpp := Pr.p1
    have hle := Pr.le
    refine ⟨tp, _, rfl, SqT.of htp, rfl, _, _, rfl, _, _, rfl, _, _, rfl, rfl, ?_⟩
    refine ⟨_, rfl, _, rfl, ?_⟩
    refine ⟨_, rfl, _, rfl, _, _, rfl, rfl, 1, _, rfl, ⟨by omega, by omega, by omega, by omega⟩, ?_⟩
    have eN : ((st : Int) + (p : Int) - 1).toNat = st + p - 1 := by omega
    rw [eN]
    intro D hD
    refine lc_range (lo := 1) (n := st + p - 1) (fun i H' => Same H1 H' ∧ H' D = some (.lst (vI ((List.range' 1 i).filter fun n => (S rows c n).contains x)))) ⟨same_upd hD, upd_same⟩ ?_ ?_
    · rintro i H' hi ⟨sm, hDs⟩
      refine ⟨rfl, ?_⟩
      have e1 : (1 : Int) + (i : Int) = ((1 + i : Nat) : Int) := by omega
      rw [e1]
      obtain ⟨r, _, g, u⟩ := (SetsAt.same sm Ss).get (n := 1 + i) (by omega)
      refine ⟨_, rfl, _, rfl, _, rfl, fl, _, _, _, rfl, rfl, SqL.of (SetsAt.same sm Ss).top, at_of rfl g, r, vI (S rows c (1 + i)), rfl, .inr (SqT.of u), rfl, flat_vI _, _, rfl, ?_⟩
      rw [List.range'_1_concat, List.filter_append]
      show if inV (.int (x : Int)) (vI (S rows c (1 + i))) = true then _ else _
      rw [in_vI]
      by_cases hx : (S rows c (1 + i)).contains x = true
      · rw [hx]
        refine iteT ⟨_, rfl, _, hDs, ?_, ?_, ?_⟩
        · rw [vI_len]
          have := List.length_filter_le (fun n => (S rows c n).contains x) (List.range' 1 i)
          rw [List.length_range'] at this
          exact small1000 (by omega)
        · intro b o e
          rw [upd_ne (ne_of_none e hD)]
          exact sm _ _ e
        · rw [upd_same]
          have ef : [1 + i].filter (fun n => (S rows c n).contains x) = [1 + i] := by simp only [List.filter_cons, hx, if_true, List.filter_nil]
          rw [ef, vI_app]
          rfl
      · have hx : (S rows c (1 + i)).contains x = false := by simpa using hx
        rw [hx]
        refine iteF ⟨sm, ?_⟩
        have ef : [1 + i].filter (fun n => (S rows c n).contains x) = [] := by simp only [List.filter_cons, hx, List.filter_nil]; rfl
        rw [ef, List.append_nil]
        exact hDs
    · rintro H' ⟨sm, hDs⟩
      refine ⟨by show 3 ≤ sizeLine; decide, fun tq htq => ?_⟩
      exact q _ tq D (s1.trans (sm.trans (same_upd htq))) upd_same (same_upd htq _ _ hDs)
end
end BjP
/-! Beanjars: count_leading. -/
namespace BjP
open PySem L2 Bj BjR
theorem filt_step (f : Nat → Bool) {L : List Nat} {i n : Nat} (h : L[i]? = some n) : (L.take (i + 1)).filter f = (L.take i).filter f ++ if f n = true then [n] else [] := by
  rw [List.take_succ, h, List.filter_append]
  cases e : f n <;> simp [e]
theorem filt_len (f : Nat → Bool) (L : List Nat) (i : Nat) : ((L.take i).filter f).length ≤ i := by
  have h1 := List.length_filter_le f (L.take i)
  have h2 := List.length_take_le i L
  omega
theorem lead_len (Z : Nat → List Nat) (st p x : Nat) : (lead Z st p x).length ≤ st + p - 1 := by
  unfold lead
  have h := List.length_filter_le (fun n => (Z n).contains x) (List.range' 1 (st + p - 1))
  rw [List.length_range'] at h
  exact h
theorem sum_toI : ∀ l : List Nat, (toI l).sum = ((l.sum : Nat) : Int)
  | [] => rfl
  | a :: l => by
    have ih := sum_toI l
    unfold toI at ih ⊢
    rw [List.map_cons, List.sum_cons, ih, List.sum_cons]
    omega
section
variable {P : Program} {w : World} {K : PySem.W.Frag} {mg : PySem.Str → Option Value} {base : Heap}
def spCLead (CT : Addr) : Sp := fun vs H Q _ => ∃ (t : Addr) (c x h most : Nat) (rows : List (List Nat)) (k st p : Nat), vs = [.ref t, .int c, .int x, .int h, .int most] ∧ TableAt CT H t rows ∧ Tab k rows ∧ c < k ∧ x < k ∧ 2 ≤ most ∧ most ≤ 100 ∧ perOf (S rows c) most = some (st, p) ∧
  ∀ H' : Hp, Same H H' → Q (.int (cntL st p h (lead (S rows c) st p x) : Nat)) H'
theorem scCLead : FnScope ["table", "colour", "wanted", "high", "most", "start", "length", "counts", "small", "count"] ["table", "colour", "wanted", "high", "most"] (defScope sCLead) := ⟨rfl, rfl, rfl, by decide +kernel, rfl, by decide +kernel, by decide +kernel⟩
theorem ok_cLead {f CT : Addr} {fd : FuncData} (B : Blt mg) (TT : TabTxt K CT) (m100 : ∃ t, mg "MAX_MOST" = some (.int 100 t)) (D1 : MethOk P w K mg base CX0 CT 3 "validate_colour" ["self", "value"] (spVal CT)) (D2 : DefOk P w K mg base CX0 2 "validate_between" ["value", "low", "high"] spBetween)
    (D4 : DefOk P w K mg base CX0 2 "validate_count" ["value", "least"] spCount) (D3 : DefOk P w K mg base CX0 6 "leading_counts" ["table", "colour", "wanted", "most"] (spLead CT))
    (F : Fun K "count_leading" "count_leading" sCLead f fd) : FnOk P w K mg base CX0 7 f fd ["table", "colour", "wanted", "high", "most"] (spCLead CT) := by
  obtain ⟨f1, fd1, m1, b1, G1⟩ := D1.ex
  obtain ⟨f2, fd2, m2, k2, b2, G2⟩ := D2.ex
  obtain ⟨f3, fd3, m3, k3, b3, G3⟩ := D3.ex
  obtain ⟨f4, fd4, m4, k4, b4, G4⟩ := D4.ex
  obtain ⟨t100, m100⟩ := m100
  refine F.ok scCLead (fun vs H Q E h => ?_) (fun cdv A outer s H vs Q E hr h => ?_)
  · obtain ⟨t, c, x, h, most, rows, k, st, p, rfl, _⟩ := h
    rfl
  · obtain ⟨t, c, x, h, most, rows, k, st, p, rfl, hT, Tb, hc, hx, hm2, hm, hp, q⟩ := h
    refine ⟨_, pss_cons (ps_expr (pe_meth (pv 0) TT.cl m1 G1 (hr.mono (by decide)) b1 .nil pass0 (pa_cons (pv 1) pa_nil)))
      (pss_cons (ps_expr (pe_meth (pv 0) TT.cl m1 G1 (hr.mono (by decide)) b1 .nil pass0 (pa_cons (pv 2) pa_nil)))
      (pss_cons (ps_expr (pe_call G4 (hr.mono (by decide)) (by rfl) m4 k4 b4 .nil pass0 (pa_cons (pv 3) (pa_cons pe_int pa_nil))))
      (pss_cons (ps_expr (pe_call G2 (hr.mono (by decide)) (by rfl) m2 k2 b2 .nil pass0 (pa_cons (pv 4) (pa_cons pe_int (pa_cons (pe_glob (v := .int 100) (by rfl) m100 ⟨_, rfl⟩) pa_nil)))))
      (pss_cons (ps_asg (pe_call G3 hr (by rfl) m3 k3 b3 .nil pass0 (pa_cons (pv 0) (pa_cons (pv 1) (pa_cons (pv 2) (pa_cons (pv 4) pa_nil)))))
        (pg_tup rfl (pgs_cons (pg_name (i := 5) scCLead.nd rfl (Or.inr rfl)) (pgs_cons (pg_name (i := 6) scCLead.nd rfl (Or.inr rfl)) (pgs_cons (pg_name (i := 7) scCLead.nd rfl (Or.inl rfl)) pgs_nil)))))
      (pss_cons (ps_setLc (i := 8) (own := [("count", 9)]) (g := gName 9) rfl scCLead.nd rfl rfl (sw_true rfl rfl rfl (by decide +kernel)) (pi_list (pv 7))
        (blkOk_by (N := ["table", "colour", "wanted", "high", "most", "start", "length", "counts", "small", "count"]) (sc := defScope sCLead) (by decide +kernel)) (fun _ _ _ _ _ => pg_name (i := 9) scCLead.nd rfl (Or.inl rfl))
        (fun _ _ _ _ _ => pts_one (PW.pt (pw_and (pt_cmpR op_lt (pv 9) (pv 5) (nomark _)) (pw_and1 (pt_cmpR op_le (pv 9) (pv 3) (nomark _))))))
        (fun _ _ _ _ _ => pv 9))
      (pss_one (ps_ret (pe_op op_add (pe_callB call_len_seq (by rfl) B.len bLen (pa_cons (pv 8) pa_nil)) (pe_callB (cr_sum rfl) (by rfl) B.sum bSum (pa_cons (pe_lc (own := [("count", 9)]) (g := gName 9) rfl scCLead.nd (pi_list (pv 7))
        (blkOk_by (N := ["table", "colour", "wanted", "high", "most", "start", "length", "counts", "small", "count"]) (sc := defScope sCLead) (by decide +kernel)) (fun _ _ _ _ _ => pg_name (i := 9) scCLead.nd rfl (Or.inl rfl))
        (fun _ _ _ _ _ => pts_one (pt_chain op_le op_le (pv 5) (pv 9) (pv 3)))
        (fun _ _ _ _ _ => pe_op op_add (pe_op op_fdiv (pe_op op_sub (pv 3) (pv 9)) (pv 6)) pe_int)) pa_nil)))))))))), ?_⟩
    obtain ⟨dx, LT, as, ht, R⟩ := id hT
    refine ⟨_, rfl, t, dx, _, rfl, ht, lk_no _ (by decide +kernel), _, rfl, t, rows, c, rfl, hT, by rw [Tb.len]; exact hc, ?_⟩
    refine ⟨_, rfl, t, dx, _, rfl, ht, lk_no _ (by decide +kernel), _, rfl, t, rows, x, rfl, hT, by rw [Tb.len]; exact hx, ?_⟩
    refine ⟨_, rfl, h, 0, rfl, by omega, ?_⟩
    refine ⟨_, rfl, most, 2, 100, rfl, by omega, by omega, ?_⟩
    refine ⟨_, rfl, _, rfl, _, rfl, _, rfl, t, c, x, most, rows, k, st, p, rfl, hT, Tb, hc, hm2, hm, hp, fun H1 tp l s1 htp hl => ?_⟩
    have Pr := perOf_spec hp
    have hst := Pr.st1
    have hpp := Pr.p1
    have hle := Pr.le
    have hll := lead_len (S rows c) st p x
    generalize lead (S rows c) st p x = L at hl hll q
    refine ⟨tp, _, rfl, SqT.of htp, rfl, _, _, rfl, _, _, rfl, _, _, rfl, rfl, ?_⟩
    refine ⟨_, rfl, l, rfl, ⟨_, SqL.of hl⟩, fun D hD => ?_⟩
    refine lc_list (K := K) (a := l) (xs := vI L) (fun i H' => Same H1 H' ∧ H' D = some (.lst (vI ((L.take i).filter fun n => decide (n < st) && decide (n ≤ h))))) ⟨same_upd hD, upd_same⟩ (fun i H' _ ⟨sm, _⟩ => SqL.of (sm _ _ hl)) ?_ ?_
    · rintro i y H' hy ⟨sm, hDs⟩
      obtain ⟨n, hn, rfl⟩ := vI_of hy
      have hi : i < L.length := (List.getElem?_eq_some_iff.mp hn).1
      refine ⟨rfl, ?_⟩
      refine ⟨_, rfl, _, rfl, _, _, rfl, rfl, _, rfl, ?_⟩
      rw [filt_step _ hn]
      by_cases h1 : (n : Int) < (st : Int)
      · refine iteD h1 ⟨_, rfl, _, rfl, _, _, rfl, rfl, _, rfl, ?_⟩
        by_cases h2 : (n : Int) ≤ (h : Int)
        · refine iteD h2 ⟨_, rfl, _, hDs, ?_, ?_, ?_⟩
          · rw [vI_len]
            have := filt_len (fun n => decide (n < st) && decide (n ≤ h)) L i
            exact small1000 (by omega)
          · intro b o e
            rw [upd_ne (ne_of_none e hD)]
            exact sm _ _ e
          · rw [upd_same, if_pos (by simp; omega), vI_app]
            rfl
        · refine iteDF h2 ⟨sm, ?_⟩
          rw [if_neg (by simp; omega), List.append_nil]
          exact hDs
      · refine iteDF h1 (iteF ⟨sm, ?_⟩)
        rw [if_neg (by simp; omega), List.append_nil]
        exact hDs
    · rintro H2 ⟨s2, hD2⟩
      have eT : L.take (vI L).length = L := by rw [vI_len]; exact List.take_length
      rw [eT] at hD2
      refine ⟨_, rfl, D, _, rfl, .inl (SqL.of hD2), ?_⟩
      refine ⟨_, rfl, l, rfl, ⟨_, SqL.of (s2 _ _ hl)⟩, fun D2 hD3 => ?_⟩
      refine lc_list (K := K) (a := l) (xs := vI L) (fun i H' => Same H2 H' ∧ H' D2 = some (.lst (vI (((L.take i).filter fun n => decide (st ≤ n) && decide (n ≤ h)).map fun n => (h - n) / p + 1)))) ⟨same_upd hD3, upd_same⟩ (fun i H' _ ⟨sm, _⟩ => SqL.of (sm _ _ (s2 _ _ hl))) ?_ ?_
      · rintro i y H' hy ⟨sm, hDs⟩
        obtain ⟨n, hn, rfl⟩ := vI_of hy
        have hi : i < L.length := (List.getElem?_eq_some_iff.mp hn).1
        refine ⟨rfl, ?_⟩
        refine ⟨_, rfl, _, rfl, _, _, rfl, rfl, _, rfl, ?_⟩
        rw [filt_step _ hn, List.map_append]
        by_cases h1 : (st : Int) ≤ (n : Int)
        · refine iteD h1 ⟨_, rfl, _, _, rfl, rfl, _, rfl, ?_⟩
          by_cases h2 : (n : Int) ≤ (h : Int)
          · refine iteD h2 ?_
            have ed : ((h : Int) - (n : Int)) / (p : Int) + 1 = (((h - n) / p + 1 : Nat) : Int) := by
              rw [show (h : Int) - (n : Int) = ((h - n : Nat) : Int) by omega]
              omega
            refine ⟨_, rfl, _, rfl, _, _, rfl, rfl, _, rfl, _, _, rfl, rfl, ⟨by omega, by omega⟩, _, _, rfl, rfl, _, hDs, ?_, ?_, ?_⟩
            · rw [vI_len, List.length_map]
              have := filt_len (fun n => decide (st ≤ n) && decide (n ≤ h)) L i
              exact small1000 (by omega)
            · intro b o e
              rw [upd_ne (ne_of_none e hD3)]
              exact sm _ _ e
            · rw [upd_same, if_pos (by simp; omega), vI_app]
              show some (HO.lst (_ ++ [V.int (((h : Int) - (n : Int)) / (p : Int) + 1)])) = _
              rw [ed]
              rfl
          · refine iteDF h2 ⟨sm, ?_⟩
            rw [if_neg (by simp; omega), List.map_nil, List.append_nil]
            exact hDs
        · refine iteDF h1 ⟨_, rfl, iteF ⟨sm, ?_⟩⟩
          rw [if_neg (by simp; omega), List.map_nil, List.append_nil]
          exact hDs
      · rintro H3 ⟨s3, hD4⟩
        rw [eT] at hD4
        refine ⟨D2, _, rfl, SqL.of hD4, _, _, rfl, rfl, ?_⟩
        have z := q H3 (s1.trans (s2.trans s3))
        have ef : (((vI (L.filter fun n => decide (n < st) && decide (n ≤ h))).length : Nat) : Int) + (toI ((L.filter fun n => decide (st ≤ n) && decide (n ≤ h)).map fun n => (h - n) / p + 1)).sum = ((cntL st p h L : Nat) : Int) := by
          rw [sum_toI, vI_len]
          unfold cntL
          omega
        rw [← ef] at z
        exact z
end
end BjP
/-! Beanjars: the pool and its draws. -/
namespace BjP
open PySem L2 Bj BjR
theorem shaped_lints (l : List Int) : SeqAt.shaped (.list (l.map PyData.int)) = true := by
  unfold SeqAt.shaped
  rw [Bool.and_eq_true, decide_eq_true_eq]
  have h := depth_ints l
  refine ⟨by rw [PyData.canLay0]; exact lay_ints l, ?_⟩
  rw [PyData.depth]
  omega
theorem mod_nat (b : Int) {m : Nat} (h : 1 ≤ m) : ∃ v : Nat, b % (m : Int) = (v : Int) ∧ v < m := by
  have h1 := Int.emod_nonneg b (show (m : Int) ≠ 0 by omega)
  have h2 := Int.emod_lt_of_pos b (show (0 : Int) < (m : Int) by omega)
  exact ⟨(b % (m : Int)).toNat, by omega, by omega⟩
theorem mod_q {Q : VK} {H : Hp} (b : Int) {m : Nat} (h : 1 ≤ m) (k : ∀ v : Nat, v < m → Q (.int (v : Int)) H) : Q (.int (b % (m : Int))) H := by
  obtain ⟨v, e, hv⟩ := mod_nat b h
  rw [e]
  exact k v hv
/-- the first 63 cells -/
def cutI (ns : List Int) : List Int := (ns.drop (HT.sIx ns.length 0 none)).take (HT.sIx ns.length ns.length (some 63) - HT.sIx ns.length 0 none)
/-- the pool's list at L, its cells at C -/
def PoolAt (H : Hp) (L C : Addr) : Prop := ∃ (a b d : Int) (ns : List Int), H L = some (.lst [.ref C, .int a, .int b, .int d]) ∧ H C = some (.lst (ns.map V.int)) ∧ ns.length ≤ 63
theorem pool_ne {H : Hp} {L C : Addr} {a b d : Int} {ns : List Int} (h1 : H L = some (.lst [.ref C, .int a, .int b, .int d])) (h2 : H C = some (.lst (ns.map V.int))) : C ≠ L := by
  intro z
  rw [z, h1] at h2
  have e := Option.some.inj h2
  injection e with e
  cases ns with
  | nil => simp at e
  | cons n ns =>
    rw [List.map_cons] at e
    injection e with e1 e2
    cases e1
theorem PoolAt.put {H H' : Hp} {L C : Addr} {a b d a' b' d' : Int} {ns : List Int} (h1 : H L = some (.lst [.ref C, .int a, .int b, .int d])) (h2 : H C = some (.lst (ns.map V.int))) (hl : ns.length ≤ 63) (bt : But L H H') (h3 : H' L = some (.lst [.ref C, .int a', .int b', .int d'])) : PoolAt H' L C :=
  ⟨a', b', d', ns, h3, bt.keep _ _ (pool_ne h1 h2) h2, hl⟩
theorem But.new {L p : Addr} {H H' : Hp} {o : HO} (bt : But L H H') (h : H' p = none) : But L H (L2.upd H' p o) := bt.trans (Same.but (same_upd h))
theorem But.set {L : Addr} {H H' : Hp} {o : HO} (bt : But L H H') : But L H (L2.upd H' L o) := bt.trans But.upd
theorem cells_of (ns : List Int) : ∃ ms : List Int, ns.map V.int ++ (List.replicate (if PyData.eqv (.list (ns.map PyData.int)) (.list (([] : List Int).map PyData.int)) = true then (1 : Int) else 0).toNat [V.int 0]).flatten = ms.map V.int ∧ 1 ≤ ms.length ∧ ms.length ≤ ns.length + 1 := by
  cases ns with
  | nil =>
    refine ⟨[0], ?_, by decide, by decide⟩
    have e : PyData.eqv (.list (([] : List Int).map PyData.int)) (.list (([] : List Int).map PyData.int)) = true := by simp [PyData.eqv, PyData.eqvAll]
    rw [if_pos e]
    rfl
  | cons n ns =>
    by_cases e : PyData.eqv (.list ((n :: ns).map PyData.int)) (.list (([] : List Int).map PyData.int)) = true
    · refine ⟨n :: ns ++ [0], ?_, by simp, by simp⟩
      rw [if_pos e, List.map_append]
      rfl
    · refine ⟨n :: ns, ?_, by simp, by simp⟩
      rw [if_neg e]
      simp
section
variable {P : Program} {w : World} {K : PySem.W.Frag} {mg : PySem.Str → Option Value} {base : Heap}
def spPool (K : PySem.W.Frag) : Sp := fun vs H Q _ => ∃ (a : Addr) (ns : List Int), vs = [.ref a] ∧ SqL K H a (ns.map V.int) ∧ ns.length ≤ 63 ∧ ∀ (H' : Hp) (L C : Addr), Same H H' → PoolAt H' L C → Q (.ref L) H'
theorem scPool : FnScope ["_law_script"] ["_law_script"] (defScope sPool) := ⟨rfl, rfl, rfl, by decide +kernel, rfl, by decide +kernel, by decide +kernel⟩
theorem ok_pool {f : Addr} {fd : FuncData} (F : Fun K "_law_pool" "_law_pool" sPool f fd) : FnOk P w K mg base CX0 1 f fd ["_law_script"] (spPool K) := by
  refine F.ok scPool (fun vs H Q E h => ?_) (fun cdv A outer s H vs Q E hr h => ?_)
  · obtain ⟨a, ns, rfl, _⟩ := h
    rfl
  · obtain ⟨a, ns, rfl, hS, hl, q⟩ := h
    refine ⟨_, pss_one (ps_ret (pe_lst (pa_cons (pe_slice sl_list (pv 0) po_none (po_some pe_int)) (pa_cons pe_int (pa_cons pe_int (pa_cons pe_int pa_nil)))))), ?_⟩
    refine ⟨_, rfl, 63, rfl, a, _, rfl, hS, fun C hC => ?_⟩
    refine ⟨by show 4 ≤ sizeLine; decide, fun L hL => ?_⟩
    have s1 : Same H (upd H C (.lst (cutV (ns.map V.int) none (some 63)))) := same_upd hC
    have s2 := same_upd (o := .lst [.ref C, .int 0, .int 0, .int 0]) hL
    have ec : cutV (ns.map V.int) none (some 63) = (cutI ns).map V.int := by
      unfold cutV cutI
      rw [List.length_map, List.map_take, List.map_drop]
    refine q _ L C (s1.trans s2) ⟨0, 0, 0, cutI ns, upd_same, ?_, ?_⟩
    · rw [← ec]
      exact s2 _ _ upd_same
    · unfold cutI
      rw [List.length_take, List.length_drop]
      omega
def spDraw : Sp := fun vs H Q _ => ∃ (L C : Addr) (many : Nat), vs = [.ref L, .int many] ∧ 1 ≤ many ∧ many < 1073741824 ∧ PoolAt H L C ∧ ∀ (H' : Hp) (v : Nat), v < many → But L H H' → PoolAt H' L C → Q (.int v) H'
theorem scDraw : FnScope ["_law_pool_here", "_law_many", "_law_found", "_law_cells", "_law_cell", "_law_mixed"] ["_law_pool_here", "_law_many"] (defScope sDraw) := ⟨rfl, rfl, rfl, by decide +kernel, rfl, by decide +kernel, by decide +kernel⟩
theorem ok_draw {f : Addr} {fd : FuncData} (B : Blt mg) (F : Fun K "_law_draw" "_law_draw" sDraw f fd) : FnOk P w K mg base CX0 1 f fd ["_law_pool_here", "_law_many"] spDraw := by
  refine F.ok scDraw (fun vs H Q E h => ?_) (fun cdv A outer s H vs Q E hr h => ?_)
  · obtain ⟨L, C, many, rfl, _⟩ := h
    rfl
  · obtain ⟨L, C, many, rfl, h1, h2, hP, q⟩ := h
    have hu := hr.units
    refine ⟨_, pss_cons (ps_asg (pe_op op_add (pe_ix ix_list (pv 0) pe_int (fun _ _ => rfl)) pe_int) (pg_sub (pv 0) pe_int set_list))
      (pss_cons (ps_if (pt_cmpR op_gt (pe_ix ix_list (pv 0) pe_int (fun _ _ => rfl)) pe_int (nomark _))
        (pss_cons (ps_set (i := 2) scDraw.nd rfl (Or.inl rfl) (pe_op op_mod (pe_ix ix_list (pv 0) pe_int (fun _ _ => rfl)) (pv 1)))
          (pss_cons (ps_asg (pe_op op_fdiv (pe_ix ix_list (pv 0) pe_int (fun _ _ => rfl)) (pv 1)) (pg_sub (pv 0) pe_int set_list))
          (pss_one (ps_ret (pv 2))))) pss_nil)
      (pss_cons (ps_set (i := 3) scDraw.nd rfl (Or.inl rfl) (pe_op op_cat (pe_ix ix_list (pv 0) pe_int (fun _ _ => rfl)) (pe_op op_rep (pe_lst (pa_cons pe_int pa_nil))
          (pe_callTy call_int1 (by rfl) B.int bInt (pa_cons (pe_cmpR (op_eqD hu) (pe_ix ix_list (pv 0) pe_int (fun _ _ => rfl)) (pe_lst pa_nil) (nomark _)) pa_nil)))))
      (pss_cons (ps_set (i := 4) scDraw.nd rfl (Or.inl rfl) (pe_ix ix_list (pv 3) (pe_op op_mod (pe_ix ix_list (pv 0) pe_int (fun _ _ => rfl)) (pe_callB call_len_seq (by rfl) B.len bLen (pa_cons (pv 3) pa_nil))) (fun _ _ => rfl)))
      (pss_cons (ps_asg (pe_op op_add (pe_ix ix_list (pv 0) pe_int (fun _ _ => rfl)) pe_int) (pg_sub (pv 0) pe_int set_list))
      (pss_cons (ps_if (pt_cmpR op_ge (pv 4) (pe_op op_pow pe_int pe_int) (nomark _))
        (pss_cons (ps_asg (pe_op op_fdiv (pv 4) (pv 1)) (pg_sub (pv 0) pe_int set_list)) (pss_one (ps_ret (pe_op op_mod (pv 4) (pv 1))))) pss_nil)
      (pss_cons (ps_set (i := 5) scDraw.nd rfl (Or.inl rfl) (pe_op op_mod (pe_op op_add (pv 4) (pe_op op_mul pe_int (pe_ix ix_list (pv 0) pe_int (fun _ _ => rfl)))) pe_int))
      (pss_one (ps_ret (pe_op op_mod (pe_op op_fdiv (pe_op op_mod (pe_op op_mul (pe_op op_pow (pv 5) pe_int) pe_int) pe_int) pe_int) (pv 1)))))))))), ?_⟩
    obtain ⟨a, b, d, ns, hL, hC, hn⟩ := id hP
    have nCL := pool_ne hL hC
    refine ⟨_, rfl, L, _, _, _, rfl, rfl, SqL.of hL, rfl, _, _, rfl, rfl, _, rfl, L, _, 3, 3, rfl, rfl, hL, rfl, ?_⟩
    have bt1 : But L H (upd H L (.lst [.ref C, .int a, .int b, .int (d + 1)])) := But.upd
    have hL1 : (upd H L (.lst [.ref C, .int a, .int b, .int (d + 1)])) L = some (.lst [.ref C, .int a, .int b, .int (d + 1)]) := upd_same
    refine ⟨_, rfl, L, _, _, _, rfl, rfl, SqL.of hL1, rfl, _, _, rfl, rfl, _, rfl, ?_⟩
    by_cases hb : 0 < b
    · refine iteD hb ?_
      refine ⟨_, rfl, L, _, _, _, rfl, rfl, SqL.of hL1, rfl, _, rfl, _, _, rfl, rfl, (by omega : (0 : Int) < (many : Int)), ?_⟩
      refine ⟨_, rfl, L, _, _, _, rfl, rfl, SqL.of hL1, rfl, _, rfl, _, _, rfl, rfl, ⟨by omega, by omega⟩, _, rfl, L, _, 2, 2, rfl, rfl, hL1, rfl, ?_⟩
      refine ⟨_, rfl, ?_⟩
      obtain ⟨v, e, hv⟩ := mod_nat b h1
      show Q (.int (b % (many : Int))) _
      rw [e]
      exact q _ v hv bt1.set (PoolAt.put hL hC hn bt1.set upd_same)
    · refine iteDF hb ?_
      have hC1 := bt1.keep _ _ nCL hC
      refine ⟨_, rfl, L, _, _, _, rfl, rfl, SqL.of hL1, rfl, ?_⟩
      refine ⟨by show 1 ≤ sizeLine; decide, fun z1 hz1 => ?_⟩
      have bt2 := bt1.new (o := .lst [.int 0]) hz1
      have hL2 : (upd (upd H L (.lst [.ref C, .int a, .int b, .int (d + 1)])) z1 (.lst [.int 0])) L = _ := same_upd hz1 _ _ hL1
      have hC2 : (upd (upd H L (.lst [.ref C, .int a, .int b, .int (d + 1)])) z1 (.lst [.int 0])) C = _ := same_upd hz1 _ _ hC1
      refine ⟨_, rfl, L, _, _, _, rfl, rfl, SqL.of hL2, rfl, Nat.zero_le _, fun z2 hz2 => ?_⟩
      have s3 := same_upd (o := .lst []) hz2
      have hL3 := s3 _ _ hL2
      have hC3 := s3 _ _ hC2
      have bt3 := But.trans bt2 (Same.but s3)
      have hZ3 := s3 z1 (.lst [.int 0]) upd_same
      obtain ⟨ms, eC, m1, m2⟩ := cells_of ns
      refine ⟨.list (ns.map PyData.int), .list (([] : List Int).map PyData.int), .lst (SqL.of hC3) (dpAll_nums ns), .lst (SqL.of upd_same) .nil, shaped_lints ns, shaped_lints [], .inr ⟨_, rfl, z1, _, _, rfl, rfl, hZ3, ?_, ?_, ?_, fun z3 hz3 => ?_⟩⟩
      · split <;> decide
      · split <;> decide
      · split <;> decide
      have s4 := same_upd (o := .lst (List.replicate (if PyData.eqv (.list (ns.map PyData.int)) (.list (([] : List Int).map PyData.int)) = true then (1 : Int) else 0).toNat [V.int 0]).flatten) hz3
      have hL4 := s4 _ _ hL3
      have hC4 := s4 _ _ hC3
      have bt4 := But.trans bt3 (Same.but s4)
      refine ⟨C, z3, _, _, rfl, rfl, hC4, upd_same, ?_, fun z4 hz4 => ?_⟩
      · rw [← List.length_append, eC, List.length_map]
        exact Nat.le_trans m2 (Nat.le_trans (Nat.succ_le_succ hn) (by decide))
      have s5 := same_upd (o := .lst (ns.map V.int ++ (List.replicate (if PyData.eqv (.list (ns.map PyData.int)) (.list (([] : List Int).map PyData.int)) = true then (1 : Int) else 0).toNat [V.int 0]).flatten)) hz4
      have hL5 := s5 _ _ hL4
      have hC5 := s5 _ _ hC4
      have bt5 := But.trans bt4 (Same.but s5)
      refine ⟨_, rfl, _, rfl, L, _, _, _, rfl, rfl, SqL.of hL5, rfl, _, rfl, z4, ms.map V.int, rfl, .inl (SqL.of (by rw [← eC]; exact upd_same)), ?_⟩
      rw [List.length_map]
      obtain ⟨j, ej, hj⟩ := mod_nat a m1
      obtain ⟨cell, ec⟩ : ∃ c, ms[j]? = some c := ⟨ms[j], List.getElem?_eq_getElem hj⟩
      refine ⟨_, _, rfl, rfl, (by omega : (0 : Int) < (ms.length : Int)), z4, ms.map V.int, _, .int cell, rfl, rfl, SqL.of (by rw [← eC]; exact upd_same), ?_, ?_⟩
      · show atI (ms.map V.int) (a % (ms.length : Int)) = _
        rw [ej]
        exact atI_nat (by rw [List.getElem?_map, ec]; rfl)
      refine ⟨_, rfl, L, _, _, _, rfl, rfl, SqL.of hL5, rfl, _, _, rfl, rfl, _, rfl, L, _, 1, 1, rfl, rfl, hL5, rfl, ?_⟩
      have bt6 := But.set (o := .lst [.ref C, .int (a + 1), .int b, .int (d + 1)]) bt5
      have hL6 : ∀ G : Hp, (upd G L (.lst [.ref C, .int (a + 1), .int b, .int (d + 1)])) L = some (.lst [.ref C, .int (a + 1), .int b, .int (d + 1)]) := fun _ => upd_same
      refine ⟨_, rfl, _, _, rfl, rfl, ⟨by omega, by omega, by decide⟩, _, _, rfl, rfl, _, rfl, ?_⟩
      by_cases hc : (10 : Int) ^ (18 : Int).toNat ≤ cell
      · refine iteD hc ?_
        refine ⟨_, rfl, _, rfl, _, _, rfl, rfl, ⟨by omega, by omega⟩, _, rfl, L, _, 2, 2, rfl, rfl, hL6 _, rfl, ?_⟩
        refine ⟨_, rfl, _, rfl, _, _, rfl, rfl, (by omega : (0 : Int) < (many : Int)), ?_⟩
        obtain ⟨v, e, hv⟩ := mod_nat cell h1
        show Q (.int (cell % (many : Int))) _
        rw [e]
        exact q _ v hv bt6.set (PoolAt.put hL hC hn bt6.set upd_same)
      · refine iteDF hc ?_
        refine ⟨_, rfl, _, rfl, L, _, _, _, rfl, rfl, SqL.of (hL6 _), rfl, _, _, rfl, rfl, .inl ⟨by decide, by decide⟩, _, _, rfl, rfl, _, _, rfl, rfl, (by decide : (0 : Int) < 2147483647), ?_⟩
        refine ⟨_, rfl, _, _, rfl, rfl, ⟨by omega, by omega, ?_⟩, _, _, rfl, rfl, .inr ⟨by decide, by decide⟩, _, _, rfl, rfl, (by decide : (0 : Int) < 2147483629), _, _, rfl, rfl, ⟨by decide, by decide⟩, _, rfl, _, _, rfl, rfl, (by omega : (0 : Int) < (many : Int)), ?_⟩
        · show (((cell + 7919 * (d + 1)) % 2147483647 : Int)).natAbs < 2 ^ 64
          omega
        · refine mod_q _ h1 fun v hv => ?_
          exact q _ v hv bt6 (PoolAt.put hL hC hn bt6 upd_same)
end
end BjP
/-! Beanjars: rows that are written. -/
namespace Bj
/-- one item written -/
def put (rows : List (List Nat)) (a b v : Nat) : List (List Nat) := rows.set a ((rows.getD a []).set b v)
theorem rowD {rows : List (List Nat)} {a : Nat} {r : List Nat} (h : rows[a]? = some r) : rows.getD a [] = r := by
  rw [List.getD_eq_getElem?_getD, h]
  rfl
theorem cell_put {rows : List (List Nat)} {a b v : Nat} (ha : a < rows.length) (hb : b < (rows.getD a []).length) (i j : Nat) : cell (put rows a b v) i j = if i = a ∧ j = b then v else cell rows i j := by
  unfold cell put
  simp only [List.getD_eq_getElem?_getD] at hb ⊢
  rw [List.getElem?_set]
  by_cases hi : a = i
  · subst hi
    rw [if_pos rfl, if_pos ha]
    simp only [Option.getD_some]
    rw [List.getElem?_set]
    by_cases hj : b = j
    · subst hj
      rw [if_pos rfl, if_pos hb, if_pos (by simp)]
      rfl
    · rw [if_neg hj, if_neg fun z => hj z.2.symm]
  · rw [if_neg hi, if_neg fun z => hi z.1.symm]
theorem put_len (rows : List (List Nat)) (a b v : Nat) : (put rows a b v).length = rows.length := by
  unfold put
  rw [List.length_set]
theorem put_row {k : Nat} {rows : List (List Nat)} {a b v : Nat} (ha : a < rows.length) (h : ∀ r ∈ rows, r.length = k) : ∀ r ∈ put rows a b v, r.length = k := by
  intro r hr
  rcases List.mem_or_eq_of_mem_set hr with z | z
  · exact h r z
  · rw [z, List.length_set]
    have e : rows[a]? = some rows[a] := List.getElem?_eq_getElem ha
    rw [rowD e]
    exact h _ (List.getElem_mem ha)
theorem rowD_len {k : Nat} {rows : List (List Nat)} {a : Nat} (ha : a < rows.length) (h : ∀ r ∈ rows, r.length = k) : (rows.getD a []).length = k := by
  have e : rows[a]? = some rows[a] := List.getElem?_eq_getElem ha
  rw [rowD e]
  exact h _ (List.getElem_mem ha)
theorem cell_put2 {k : Nat} {rows : List (List Nat)} {a b v : Nat} (hl : rows.length = k) (hr : ∀ r ∈ rows, r.length = k) (ha : a < k) (hb : b < k) (i j : Nat) :
    cell (put (put rows a b v) b a v) i j = if (i = b ∧ j = a) ∨ (i = a ∧ j = b) then v else cell rows i j := by
  have h1 := put_row (b := b) (v := v) (by rw [hl]; exact ha) hr
  rw [cell_put (by rw [put_len, hl]; exact hb) (by rw [rowD_len (by rw [put_len, hl]; exact hb) h1]; exact ha), cell_put (by rw [hl]; exact ha) (by rw [rowD_len (by rw [hl]; exact ha) hr]; exact hb)]
  by_cases e1 : i = b ∧ j = a
  · rw [if_pos e1, if_pos (.inl e1)]
  · rw [if_neg e1]
    by_cases e2 : i = a ∧ j = b
    · rw [if_pos e2, if_pos (.inr e2)]
    · rw [if_neg e2, if_neg fun z => z.elim e1 e2]
theorem Tab.put2 {k : Nat} {rows : List (List Nat)} {a b v : Nat} (T : Tab k rows) (ha : a < k) (hb : b < k) (hv : v < k) : Tab k (put (put rows a b v) b a v) := by
  have h1 := put_row (b := b) (v := v) (by rw [T.len]; exact ha) T.row
  refine ⟨by rw [put_len, put_len, T.len], T.pos, T.le8, put_row (by rw [put_len, T.len]; exact hb) h1, fun i j hi hj => ?_, fun i j hi hj => ?_⟩
  · rw [cell_put2 T.len T.row ha hb]
    split
    · exact hv
    · exact T.col i j hi hj
  · rw [cell_put2 T.len T.row ha hb, cell_put2 T.len T.row ha hb]
    by_cases e : (i = b ∧ j = a) ∨ (i = a ∧ j = b)
    · rw [if_pos e, if_pos (by omega)]
    · rw [if_neg e, if_neg (by omega)]
      exact T.sym i j hi hj
theorem Tab.zero {k : Nat} (h1 : 1 ≤ k) (h8 : k ≤ 8) : Tab k (List.replicate k (List.replicate k 0)) := by
  have hz : ∀ a b, cell (List.replicate k (List.replicate k 0)) a b = 0 := by
    intro a b
    unfold cell
    simp only [List.getD_eq_getElem?_getD, List.getElem?_replicate]
    by_cases e : a < k
    · rw [if_pos e]
      simp only [Option.getD_some, List.getElem?_replicate]
      by_cases e2 : b < k
      · rw [if_pos e2]; rfl
      · rw [if_neg e2]; rfl
    · rw [if_neg e]; rfl
  refine ⟨by simp, h1, h8, fun r hr => ?_, fun a b _ _ => by rw [hz]; omega, fun a b _ _ => by rw [hz, hz]⟩
  rw [List.eq_of_mem_replicate hr]
  simp
end Bj
namespace BjP
open PySem L2 Bj BjR
theorem vI_set (l : List Nat) (i x : Nat) : (vI l).set i (.int (x : Int)) = vI (l.set i x) := by
  rw [vI_eq, vI_eq, List.map_set]
theorem vI_zero (k : Nat) : (List.replicate (k : Int).toNat [V.int 0]).flatten = vI (List.replicate k 0) := by
  rw [vI_eq, List.map_replicate, Int.toNat_natCast]
  induction k with
  | zero => rfl
  | succ k ih => rw [List.replicate_succ, List.flatten_cons, ih, List.replicate_succ]; rfl
theorem ixN_nat {n j : Nat} (h : j < n) : ixN n (j : Int) = some j := by
  unfold ixN
  rw [if_pos (Int.natCast_nonneg j), if_pos (by omega), Int.toNat_natCast]
/-- rows and pool: H0 the heap before the rows were made -/
structure RowSt (H0 H : Hp) (L C Lr : Addr) (as : List Addr) (k : Nat) (rows : List (List Nat)) : Prop where
  bt : But L H0 H
  pool : PoolAt H L C
  at_ : RowsAt H Lr as rows
  len : rows.length = k
  rl : ∀ r ∈ rows, r.length = k
  nd : as.Nodup
  fr : ∀ a ∈ as, H0 a = none
  frL : H0 Lr = none
  hL : H0 L ≠ none
  hC : H0 C ≠ none
theorem PoolAt.same {H H' : Hp} {L C : Addr} (s : Same H H') (p : PoolAt H L C) : PoolAt H' L C := by
  obtain ⟨a, b, d, ns, h1, h2, h3⟩ := p
  exact ⟨a, b, d, ns, s _ _ h1, s _ _ h2, h3⟩
theorem PoolAt.some {H : Hp} {L C : Addr} (p : PoolAt H L C) : H L ≠ none ∧ H C ≠ none := by
  obtain ⟨a, b, d, ns, h1, h2, h3⟩ := p
  exact ⟨by rw [h1]; simp, by rw [h2]; simp⟩
theorem RowSt.move {H0 H H' : Hp} {L C Lr : Addr} {as : List Addr} {k : Nat} {rows : List (List Nat)} (S : RowSt H0 H L C Lr as k rows) (bt : But L H H') (p : PoolAt H' L C) : RowSt H0 H' L C Lr as k rows := by
  refine ⟨S.bt.trans bt, p, ⟨bt.keep _ _ (fun z => S.hL (z ▸ S.frL)) S.at_.top, S.at_.len, fun i a r h1 h2 => bt.keep _ _ (fun z => S.hL (z ▸ S.fr a (List.mem_of_getElem? h1))) (S.at_.row i a r h1 h2)⟩, S.len, S.rl, S.nd, S.fr, S.frL, S.hL, S.hC⟩
theorem RowSt.same {H0 H H' : Hp} {L C Lr : Addr} {as : List Addr} {k : Nat} {rows : List (List Nat)} (S : RowSt H0 H L C Lr as k rows) (s : Same H H') : RowSt H0 H' L C Lr as k rows := S.move (Same.but s) (PoolAt.same s S.pool)
/-- a row's item is written -/
theorem RowSt.put {H0 H : Hp} {L C Lr : Addr} {as : List Addr} {k : Nat} {rows : List (List Nat)} (S : RowSt H0 H L C Lr as k rows) {a b v : Nat} (ha : a < k) (hb : b < k) :
    ∃ p r, atI (as.map V.ref) (a : Int) = some (V.ref p) ∧ H p = some (.lst (vI r)) ∧ r.length = k ∧ atI (vI r) (b : Int) = some (V.int (cell rows a b : Int)) ∧ RowSt H0 (L2.upd H p (.lst ((vI r).set b (V.int (v : Int))))) L C Lr as k (Bj.put rows a b v) := by
  have h1 : a < rows.length := by rw [S.len]; exact ha
  have e1 : rows[a]? = some rows[a] := List.getElem?_eq_getElem h1
  obtain ⟨p, g1, g2, g3⟩ := S.at_.get e1
  have hrl := S.rl _ (List.getElem_mem h1)
  have fp := S.fr p (List.mem_of_getElem? g1)
  have nL : p ≠ L := fun z => S.hL (z ▸ fp)
  have nC : p ≠ C := fun z => S.hC (z ▸ fp)
  have ec : (rows[a])[b]? = some (cell rows a b) := by
    have h2 : b < (rows[a]).length := by rw [hrl]; exact hb
    unfold cell
    rw [rowD e1, List.getD_eq_getElem?_getD, List.getElem?_eq_getElem h2]
    rfl
  have nT : Lr ≠ p := by
    intro z
    have q := S.at_.top
    rw [z, g3] at q
    have q := Option.some.inj q
    injection q with q
    have h3 : 0 < as.length := by
      have := (List.getElem?_eq_some_iff.mp g1).1
      omega
    have h4 : (rows[a])[0]? = some (rows[a])[0] := List.getElem?_eq_getElem (by rw [hrl]; omega)
    have q0 : (vI rows[a])[0]? = (as.map V.ref)[0]? := by rw [q]
    rw [vI_get h4, List.getElem?_map, List.getElem?_eq_getElem h3] at q0
    cases q0
  refine ⟨p, rows[a], atI_nat g2, g3, hrl, atI_nat (vI_get ec), ?_⟩
  rw [vI_set]
  refine ⟨⟨fun c o n e => ?_, fun h => ?_⟩, ?_, ⟨by rw [upd_ne nT]; exact S.at_.top, by rw [put_len]; exact S.at_.len, fun i c r h2 h3 => ?_⟩, by rw [put_len, S.len], put_row h1 S.rl, S.nd, S.fr, S.frL, S.hL, S.hC⟩
  · rw [upd_ne (ne_of_none e fp)]
    exact S.bt.keep _ _ n e
  · rw [upd_ne nL.symm]
    exact S.bt.here h
  · obtain ⟨x, y, z, ns, q1, q2, q3⟩ := S.pool
    exact ⟨x, y, z, ns, by rw [upd_ne nL.symm]; exact q1, by rw [upd_ne nC.symm]; exact q2, q3⟩
  · unfold Bj.put at h3
    rw [List.getElem?_set, rowD e1] at h3
    by_cases hi : a = i
    · subst hi
      rw [if_pos rfl, if_pos h1] at h3
      have e2 : c = p := by
        rw [h2] at g1
        exact Option.some.inj g1
      rw [e2, upd_same, Option.some.inj h3]
    · rw [if_neg hi] at h3
      have ncp : c ≠ p := by
        intro z
        subst z
        obtain ⟨l1, x1⟩ := List.getElem?_eq_some_iff.mp g1
        obtain ⟨l2, x2⟩ := List.getElem?_eq_some_iff.mp h2
        exact hi ((List.getElem_inj S.nd).mp (x1.trans x2.symm))
      rw [upd_ne ncp]
      exact S.at_.row i c r h2 h3
/-- the rows of zeros, as they are made -/
structure Zs (H0 H : Hp) (D : Addr) (k : Nat) (as : List Addr) : Prop where
  top : H D = some (.lst (as.map V.ref))
  nd : as.Nodup
  fr : ∀ a ∈ as, H0 a = none
  at_ : ∀ a ∈ as, H a = some (.lst (vI (List.replicate k 0)))
theorem Zs.more {H0 H H1 : Hp} {D l : Addr} {k : Nat} {as : List Addr} (h1 : 1 ≤ k) (Z : Zs H0 H D k as) (s : Same H H1) (fl : H0 l = none) (hl : H1 l = none) :
    (L2.upd H1 l (.lst (vI (List.replicate k 0)))) D = some (.lst (as.map V.ref)) ∧ Zs H0 (L2.upd (L2.upd H1 l (.lst (vI (List.replicate k 0)))) D (.lst (as.map V.ref ++ [V.ref l]))) D k (as ++ [l]) := by
  have hD := s _ _ Z.top
  have nD : D ≠ l := ne_of_none hD hl
  refine ⟨by rw [upd_ne nD]; exact hD, by rw [upd_same, List.map_append]; rfl, ?_, fun a ha => ?_, fun a ha => ?_⟩
  · rw [List.nodup_append]
    refine ⟨Z.nd, by simp, fun a ha b hb => ?_⟩
    rw [List.mem_singleton.mp hb]
    exact ne_of_none (s _ _ (Z.at_ a ha)) hl
  · rcases List.mem_append.mp ha with ha | ha
    · exact Z.fr a ha
    · rw [List.mem_singleton.mp ha]
      exact fl
  · rcases List.mem_append.mp ha with ha | ha
    · have z := s _ _ (Z.at_ a ha)
      have na : a ≠ D := by
        intro e
        rw [e, hD] at z
        have z := Option.some.inj z
        injection z with z
        cases as with
        | nil => cases ha
        | cons a0 as0 =>
          cases k with
          | zero => omega
          | succ k =>
            rw [vI_eq, List.replicate_succ] at z
            simp at z
      rw [upd_ne na, upd_ne (ne_of_none z hl)]
      exact z
    · rw [List.mem_singleton.mp ha, upd_ne nD.symm, upd_same]
end BjP
/-! Beanjars: the law's own rows. -/
namespace BjP
open PySem L2 Bj BjR
theorem PSby {X : Cx} {st : Stmt} {t t' : TS} (h : PS X st t) (hw : ∀ D σ H, t' D σ H → t D σ H) : PS X st t' := ⟨fun pins s σ H D I z => h.run pins s σ H D I (hw D σ H z)⟩
theorem PEby {X : Cx} {e : Expr} {t t' : TE} (h : PE X e t) (hw : ∀ σ H Q, t' σ H Q → t σ H Q) : PE X e t' := ⟨fun pins s σ H Q I z => h.run pins s σ H Q I (hw σ H Q z)⟩
theorem upd_self {H : Hp} {z : Addr} {o : HO} (h : H z = some o) : L2.upd H z o = H := by
  funext b
  by_cases e : b = z
  · rw [e, upd_same, h]
  · rw [upd_ne e]
theorem cell_put_same {k : Nat} {rows : List (List Nat)} {a b v : Nat} (hl : rows.length = k) (hr : ∀ r ∈ rows, r.length = k) (ha : a < k) (hb : b < k) : Bj.cell (Bj.put rows a b v) a b = v := by
  rw [cell_put (by rw [hl]; exact ha) (by rw [rowD_len (by rw [hl]; exact ha) hr]; exact hb), if_pos ⟨rfl, rfl⟩]
/-- four colours below k -/
def Four (k : Nat) (l : List Nat) : Prop := l.length = 4 ∧ ∀ c ∈ l, c < k
theorem Four.set {k : Nat} {l : List Nat} {i x : Nat} (h : Four k l) (hx : x < k) : Four k (l.set i x) := by
  refine ⟨by rw [List.length_set]; exact h.1, fun c hc => ?_⟩
  rcases List.mem_or_eq_of_mem_set hc with z | z
  · exact h.2 c z
  · rw [z]; exact hx
theorem Four.get {k : Nat} {l : List Nat} {i : Nat} (h : Four k l) (hi : i < 4) : ∃ x, l[i]? = some x ∧ x < k := by
  have hl : i < l.length := by rw [h.1]; exact hi
  have e : l[i]? = some l[i] := List.getElem?_eq_getElem hl
  exact ⟨_, e, h.2 _ (List.getElem_mem _)⟩
/-- the slots of _law_some_rows within its loops -/
def slots (L : Addr) (k kind a : Nat) (Lr : Addr) (b : Nat) (z : Addr) : L2.St := [some (.ref L), some (.int k), some (.int kind), some (.int a), some (.ref Lr), some (.int b), some (.ref z)]
/-- the colours' first item may change -/
def tCol : TS := fun D σ H => ∃ (L : Addr) (k kind a : Nat) (Lr : Addr) (b : Nat) (z : Addr) (l : List Nat), σ = slots L k kind a Lr b z ∧ H z = some (.lst (vI l)) ∧ 1 ≤ k ∧ k ≤ 8 ∧ Four k l ∧ ∀ l', Four k l' → D.nx σ (L2.upd H z (.lst (vI l')))
/-- one of the colours -/
def tPick : TE := fun σ H Q => ∃ (L : Addr) (k kind a : Nat) (Lr : Addr) (b : Nat) (z : Addr) (l : List Nat), σ = slots L k kind a Lr b z ∧ H z = some (.lst (vI l)) ∧ Four k l ∧ ∀ x : Nat, x < k → Q (.int x) H
section
variable {P : Program} {w : World} {K : PySem.W.Frag} {mg : PySem.Str → Option Value} {base : Heap}
def spSome : Sp := fun vs H Q _ => ∃ (L C : Addr) (k : Nat), vs = [.ref L, .int k] ∧ 1 ≤ k ∧ k ≤ 8 ∧ PoolAt H L C ∧ ∀ (H' : Hp) (Lr : Addr) (as : List Addr) (rows : List (List Nat)), RowSt H H' L C Lr as k rows → Tab k rows → Q (.ref Lr) H'
theorem scSome : FnScope ["_law_pool_here", "_law_size", "_law_kind", "_law_a", "_law_rows", "_law_b", "_law_colour"] ["_law_pool_here", "_law_size"] (defScope sSome) := ⟨rfl, rfl, rfl, by decide +kernel, rfl, by decide +kernel, by decide +kernel⟩
theorem ok_some {f : Addr} {fd : FuncData} (B : Blt mg) (D1 : DefOk P w K mg base CX0 1 "_law_draw" ["_law_pool_here", "_law_many"] spDraw) (F : Fun K "_law_some_rows" "_law_some_rows" sSome f fd) : FnOk P w K mg base CX0 2 f fd ["_law_pool_here", "_law_size"] spSome := by
  obtain ⟨f1, fd1, m1, k1, b1, G1⟩ := D1.ex
  refine F.ok scSome (fun vs H Q E h => ?_) (fun cdv A outer s H vs Q E hr h => ?_)
  · obtain ⟨L, C, k, rfl, _⟩ := h
    rfl
  · obtain ⟨L, C, k, rfl, hk1, hk8, hP, q⟩ := h
    refine ⟨_, pss_cons (ps_set (i := 2) scSome.nd rfl (Or.inl rfl) (pe_call G1 hr (by rfl) m1 k1 b1 .nil pass0 (pa_cons (pv 0) (pa_cons pe_int pa_nil))))
      (pss_cons (ps_setLc (i := 4) (own := [("_law_a", 3)]) (g := gName 3) (tt := tYes) rfl scSome.nd rfl rfl (sw_true rfl rfl rfl (by decide +kernel)) (pi_range1 (by rfl) B.range (pa_cons (pv 1) pa_nil))
        (blkOk_by (N := ["_law_pool_here", "_law_size", "_law_kind", "_law_a", "_law_rows", "_law_b", "_law_colour"]) (sc := defScope sSome) (by decide +kernel)) (fun _ _ _ _ _ => pg_name (i := 3) scSome.nd rfl (Or.inl rfl)) (fun _ _ _ _ _ => pts_nil)
        (fun _ _ _ _ _ => pe_op op_rep (pe_lst (pa_cons pe_int pa_nil)) (pv 1)))
      (pss_cons (ps_for PassesOwn.never rfl (pi_range1 (by rfl) B.range (pa_cons (pv 1) pa_nil)) (pg_name (i := 3) scSome.nd rfl (Or.inl rfl))
        (pss_one (ps_for PassesOwn.never rfl (pi_range2 (by rfl) B.range (pa_cons (pv 3) (pa_cons (pv 1) pa_nil))) (pg_name (i := 5) scSome.nd rfl (Or.inl rfl))
          (pss_cons (ps_set (i := 6) scSome.nd rfl (Or.inl rfl) (pe_lst (pa_cons (pe_call G1 hr (by rfl) m1 k1 b1 .nil pass0 (pa_cons (pv 0) (pa_cons (pv 1) pa_nil)))
              (pa_cons (pe_op op_mod (pe_op op_add (pv 3) (pv 5)) (pv 1))
              (pa_cons (pe_callB (call_max2 rfl) (by rfl) B.max bMax (pa_cons (pv 3) (pa_cons (pv 5) pa_nil)))
              (pa_cons (pe_callB (call_min2 rfl) (by rfl) B.min bMin (pa_cons (pe_op op_add (pv 3) (pv 5)) (pa_cons (pe_op op_sub (pv 1) pe_int) pa_nil))) pa_nil))))))
          (pss_cons (PSby (t' := tCol) (ps_if (pt_cmpR op_eq (pv 2) pe_int (nomark _)) (pss_one (ps_asg (pe_ifExp (pt_cmpR op_eq (pv 3) (pv 5) (nomark _)) (pe_op op_mod (pe_op op_add (pv 3) pe_int) (pv 1)) (pe_op op_sub (pv 1) pe_int)) (pg_sub (pv 6) pe_int set_list))) pss_nil) ?w1)
          (pss_cons (PSby (t' := tCol) (ps_if (pt_cmpR op_eq (pv 2) pe_int (nomark _)) (pss_one (ps_asg (pe_op op_fdiv (pe_ix ix_list (pv 6) pe_int (fun _ _ => rfl)) pe_int) (pg_sub (pv 6) pe_int set_list))) pss_nil) ?w2)
          (pss_cons (ps_asg (PEby (t' := tPick) (pe_ifExp (pt_cmpR op_lt (pv 2) pe_int (nomark _)) (pe_ix ix_list (pv 6) (pv 2) (fun _ _ => rfl)) (pe_ix ix_list (pv 6) pe_int (fun _ _ => rfl))) ?w3) (pg_sub (pe_ix ix_list (pv 4) (pv 3) (fun _ _ => rfl)) (pv 5) set_list))
          (pss_one (ps_asg (pe_ix ix_list (pe_ix ix_list (pv 4) (pv 3) (fun _ _ => rfl)) (pv 5) (fun _ _ => rfl)) (pg_sub (pe_ix ix_list (pv 4) (pv 5) (fun _ _ => rfl)) (pv 3) set_list))))))))))
      (pss_one (ps_ret (pv 4))))), ?_⟩
    case w1 =>
      rintro D σ H' ⟨L', k', kind, a, Lr, b, z, l, rfl, hz, h1, h8, h4, nx⟩
      refine ⟨_, rfl, rfl, _, rfl, ?_⟩
      by_cases e : V.int (kind : Int) = V.int 4
      · refine iteD e ⟨_, rfl, _, rfl, rfl, _, rfl, ?_⟩
        by_cases e2 : V.int (a : Int) = V.int (b : Int)
        · refine iteD e2 ⟨_, rfl, _, _, rfl, rfl, _, rfl, _, _, rfl, rfl, (by omega : (0 : Int) < (k' : Int)), _, rfl, z, _, 0, 0, rfl, rfl, hz, (by rw [vI_len, h4.1]; rfl), ?_⟩
          obtain ⟨v, ev, hv⟩ := mod_nat ((a : Int) + 1) h1
          have g := nx _ (h4.set (i := 0) hv)
          rw [← vI_set, ← ev] at g
          exact g
        · refine iteDF e2 ⟨_, rfl, _, _, rfl, rfl, _, rfl, z, _, 0, 0, rfl, rfl, hz, (by rw [vI_len, h4.1]; rfl), ?_⟩
          have g := nx _ (h4.set (i := 0) (x := k' - 1) (by omega))
          rw [← vI_set, show ((k' - 1 : Nat) : Int) = (k' : Int) - 1 by omega] at g
          exact g
      · refine iteDF e ?_
        have g := nx l h4
        rw [upd_self hz] at g
        exact g
    case w2 =>
      rintro D σ H' ⟨L', k', kind, a, Lr, b, z, l, rfl, hz, h1, h8, h4, nx⟩
      refine ⟨_, rfl, rfl, _, rfl, ?_⟩
      by_cases e : V.int (kind : Int) = V.int 5
      · obtain ⟨x, ex, hx⟩ := h4.get (i := 0) (by decide)
        refine iteD e ⟨_, rfl, z, _, _, _, rfl, rfl, SqL.of hz, atI_nat (j := 0) (vI_get ex), _, _, rfl, rfl, ⟨by decide, by decide⟩, _, rfl, z, _, 0, 0, rfl, rfl, hz, (by rw [vI_len, h4.1]; rfl), ?_⟩
        have g := nx _ (h4.set (i := 0) (x := x / 2) (by omega))
        rw [← vI_set, show ((x / 2 : Nat) : Int) = (x : Int) / 2 by omega] at g
        exact g
      · refine iteDF e ?_
        have g := nx l h4
        rw [upd_self hz] at g
        exact g
    case w3 =>
      rintro σ H' Q' ⟨L', k', kind, a, Lr, b, z, l, rfl, hz, h4, nx⟩
      refine ⟨_, rfl, _, _, rfl, rfl, _, rfl, ?_⟩
      by_cases e : (kind : Int) < 4
      · obtain ⟨x, ex, hx⟩ := h4.get (i := kind) (by omega)
        exact iteD e ⟨_, rfl, _, rfl, z, _, _, _, rfl, rfl, SqL.of hz, atI_nat (vI_get ex), nx x hx⟩
      · obtain ⟨x, ex, hx⟩ := h4.get (i := 0) (by decide)
        exact iteDF e ⟨_, rfl, z, _, _, _, rfl, rfl, SqL.of hz, atI_nat (j := 0) (vI_get ex), nx x hx⟩
    have hPs := hP.some
    refine ⟨_, rfl, L, C, 7, rfl, by decide, by decide, hP, fun H1 kind hkd bt1 P1 => ?_⟩
    refine ⟨_, rfl, k, rfl, by omega, by omega, fun D hD => ?_⟩
    refine lc_range (lo := 0) (n := k) (fun i H' => Same H1 H' ∧ ∃ as, as.length = i ∧ Zs H H' D k as) ⟨same_upd hD, [], rfl, upd_same, List.nodup_nil, fun a ha => (by cases ha), fun a ha => (by cases ha)⟩ ?_ ?_
    · rintro i H' hi ⟨sm, as, hla, Z⟩
      refine ⟨rfl, ?_⟩
      refine ⟨by show 1 ≤ sizeLine; decide, fun z hz => ?_⟩
      have s1 := same_upd (o := .lst [.int 0]) hz
      refine ⟨_, rfl, z, _, _, rfl, rfl, upd_same, by omega, by omega, ?_, fun l hl => ?_⟩
      · show 1 * (k : Int).toNat ≤ sizeLine
        rw [Int.toNat_natCast, Nat.one_mul]
        exact Nat.le_trans hk8 (by decide)
      rw [vI_zero]
      have fl : H l = none := (bt1.trans (Same.but (sm.trans s1))).free hl
      obtain ⟨e1, Z'⟩ := Z.more hk1 s1 fl hl
      refine ⟨as.map V.ref, e1, ?_, fun b o e => ?_, as ++ [l], by simp [hla], Z'⟩
      · rw [List.length_map, hla]
        exact small1000 (by omega)
      · rw [upd_ne (ne_of_none e hD)]
        exact same_upd hl _ _ (s1 _ _ (sm _ _ e))
    · rintro H2 ⟨s2, as, hla, Z⟩
      have S0 : RowSt H H2 L C D as k (List.replicate k (List.replicate k 0)) := by
        refine ⟨bt1.trans (Same.but s2), PoolAt.same s2 P1, ⟨Z.top, by simp [hla], fun i a r h1 h2 => ?_⟩, by simp, fun r hr => by rw [List.eq_of_mem_replicate hr]; simp, Z.nd, Z.fr, bt1.free hD, hPs.1, hPs.2⟩
        have e := List.eq_of_mem_replicate (List.mem_of_getElem? h2)
        rw [e]
        exact Z.at_ a (List.mem_of_getElem? h1)
      refine ⟨_, rfl, k, rfl, by omega, by omega, ?_⟩
      refine for_range (lo := 0) (n := k) (fun i σ H' => ∃ va vb vc rows, σ = [some (.ref L), some (.int k), some (.int kind), va, some (.ref D), vb, vc] ∧ RowSt H H' L C D as k rows ∧ Tab k rows) ⟨none, none, none, _, rfl, S0, Tab.zero hk1 hk8⟩ ?_ ?_
      · rintro a σ H' ha ⟨va, vb, vc, rows, rfl, S, Tb⟩
        rw [Int.zero_add]
        refine ⟨_, rfl, _, rfl, (a : Int), (k : Int), rfl, ⟨by omega, by omega, by omega, by omega⟩, ?_⟩
        have eN : ((k : Int) - (a : Int)).toNat = k - a := by omega
        rw [eN]
        refine for_range (lo := (a : Int)) (n := k - a) (fun j σ H' => ∃ vb vc rows, σ = [some (.ref L), some (.int k), some (.int kind), some (.int a), some (.ref D), vb, vc] ∧ RowSt H H' L C D as k rows ∧ Tab k rows) ⟨vb, vc, rows, rfl, S, Tb⟩ ?_ ?_
        · rintro j σ H3 hj ⟨vb, vc, rows, rfl, S, Tb⟩
          have eb : (a : Int) + (j : Int) = ((a + j : Nat) : Int) := by omega
          rw [eb]
          have hb : a + j < k := by omega
          generalize a + j = b at hb
          refine ⟨_, rfl, _, rfl, L, C, k, rfl, hk1, by omega, S.pool, fun H4 v hv bt4 P4 => ?_⟩
          refine ⟨_, rfl, _, rfl, _, _, rfl, rfl, _, rfl, _, _, rfl, rfl, (by omega : (0 : Int) < (k : Int)), _, rfl, _, rfl, _, _, rfl, _, rfl, _, rfl, _, _, rfl, rfl, _, rfl, _, _, rfl, rfl, _, _, rfl, (by show 4 ≤ sizeLine; decide), fun z hz => ?_⟩
          obtain ⟨c1, e1, hc1⟩ := mod_nat ((a : Int) + (b : Int)) hk1
          obtain ⟨c2, e2, hc2⟩ : ∃ c : Nat, (if (b : Int) > (a : Int) then (b : Int) else (a : Int)) = (c : Int) ∧ c < k := by
            by_cases e : (b : Int) > (a : Int)
            · exact ⟨b, if_pos e, hb⟩
            · exact ⟨a, if_neg e, ha⟩
          obtain ⟨c3, e3, hc3⟩ : ∃ c : Nat, (if (k : Int) - 1 < (a : Int) + (b : Int) then (k : Int) - 1 else (a : Int) + (b : Int)) = (c : Int) ∧ c < k := by
            by_cases e : (k : Int) - 1 < (a : Int) + (b : Int)
            · exact ⟨k - 1, by rw [if_pos e]; omega, by omega⟩
            · exact ⟨a + b, by rw [if_neg e]; omega, by omega⟩
          have F0 : Four k [v, c1, c2, c3] := by
            refine ⟨rfl, fun c hc => ?_⟩
            simp only [List.mem_cons, List.not_mem_nil, or_false] at hc
            rcases hc with e | e | e | e <;> rw [e] <;> assumption
          have hz1 : (upd H4 z (.lst [.int v, .int (((a : Int) + (b : Int)) % (k : Int)), .int (if (b : Int) > (a : Int) then (b : Int) else (a : Int)), .int (if (k : Int) - 1 < (a : Int) + (b : Int) then (k : Int) - 1 else (a : Int) + (b : Int))])) z = some (.lst (vI [v, c1, c2, c3])) := by
            rw [upd_same, e1, e2, e3]
            rfl
          refine ⟨L, k, kind, a, D, b, z, [v, c1, c2, c3], rfl, hz1, hk1, hk8, F0, fun l1 F1 => ?_⟩
          refine ⟨L, k, kind, a, D, b, z, l1, rfl, upd_same, hk1, hk8, F1, fun l2 F2 => ?_⟩
          refine ⟨L, k, kind, a, D, b, z, l2, rfl, upd_same, F2, fun x hx => ?_⟩
          have SG : RowSt H (upd (upd (upd H4 z (.lst [.int v, .int (((a : Int) + (b : Int)) % (k : Int)), .int (if (b : Int) > (a : Int) then (b : Int) else (a : Int)), .int (if (k : Int) - 1 < (a : Int) + (b : Int) then (k : Int) - 1 else (a : Int) + (b : Int))])) z (.lst (vI l1))) z (.lst (vI l2))) L C D as k rows := by
            rw [upd_upd, upd_upd]
            exact (S.move bt4 P4).same (same_upd hz)
          obtain ⟨p, r, g1, g2, g3, g4, T1⟩ := SG.put (v := x) ha hb
          refine ⟨_, rfl, _, rfl, D, _, _, _, rfl, rfl, SqL.of SG.at_.top, g1, _, rfl, p, _, _, b, rfl, rfl, g2, ixN_nat (by rw [vI_len, g3]; exact hb), ?_⟩
          obtain ⟨p2, r2, y1, y2, y3, y4, T2⟩ := T1.put (v := x) hb ha
          obtain ⟨p3, r3, w1, w2, w3, w4, _⟩ := T1.put (v := 0) ha hb
          rw [cell_put_same SG.len SG.rl ha hb] at w4
          refine ⟨_, rfl, _, rfl, D, _, _, _, rfl, rfl, SqL.of T1.at_.top, w1, _, rfl, p3, _, _, _, rfl, rfl, SqL.of w2, w4, _, rfl, _, rfl, D, _, _, _, rfl, rfl, SqL.of T1.at_.top, y1, _, rfl, p2, _, _, a, rfl, rfl, y2, ixN_nat (by rw [vI_len, y3]; exact ha), ?_⟩
          exact ⟨_, _, _, rfl, T2, Tab.put2 Tb ha hb hx⟩
        · rintro σ H3 ⟨vb, vc, rows, rfl, S, Tb⟩
          exact ⟨_, _, _, _, rfl, S, Tb⟩
      · rintro σ H3 ⟨va, vb, vc, rows, rfl, S, Tb⟩
        exact ⟨_, rfl, q _ _ _ _ S Tb⟩
end
end BjP
/-! Beanjars: the law's drawn rows. -/
namespace BjP
open PySem L2 Bj BjR
theorem iteAB {b : Bool} {A B : Prop} (ha : A) (hb : B) : if b = true then A else B := by
  cases b
  · exact iteF hb
  · exact iteT ha
/-- the slots of _law_drawn_rows within its loops -/
def slots2 (L : Addr) (k : Nat) (Lr : Addr) (a b c : Nat) : L2.St := [some (.ref L), some (.int k), some (.ref Lr), some (.int ((k : Int) - 1)), some (.int a), some (.int b), some (.int c)]
/-- the colour may change -/
def tTint : TS := fun D σ H => ∃ (L : Addr) (k : Nat) (Lr : Addr) (a b c : Nat), σ = slots2 L k Lr a b c ∧ 1 ≤ k ∧ c < k ∧ ∀ c', c' < k → D.nx (slots2 L k Lr a b c') H
/-- the colour may be drawn -/
def tTintD : TS := fun D σ H => ∃ (L C : Addr) (k : Nat) (Lr : Addr) (a b c : Nat), σ = slots2 L k Lr a b c ∧ 1 ≤ k ∧ k ≤ 8 ∧ PoolAt H L C ∧ c < k ∧ ∀ c' H', c' < k → But L H H' → PoolAt H' L C → D.nx (slots2 L k Lr a b c') H'
section
variable {P : Program} {w : World} {K : PySem.W.Frag} {mg : PySem.Str → Option Value} {base : Heap}
theorem scDrawn : FnScope ["_law_pool_here", "_law_size", "_law_rows", "_law_last", "_law_a", "_law_b", "_law_colour"] ["_law_pool_here", "_law_size"] (defScope sDrawn) := ⟨rfl, rfl, rfl, by decide +kernel, rfl, by decide +kernel, by decide +kernel⟩
theorem ok_drawn {f : Addr} {fd : FuncData} (B : Blt mg) (D1 : DefOk P w K mg base CX0 1 "_law_draw" ["_law_pool_here", "_law_many"] spDraw) (D2 : DefOk P w K mg base CX0 2 "_law_some_rows" ["_law_pool_here", "_law_size"] spSome)
    (F : Fun K "_law_drawn_rows" "_law_drawn_rows" sDrawn f fd) : FnOk P w K mg base CX0 3 f fd ["_law_pool_here", "_law_size"] spSome := by
  obtain ⟨f1, fd1, m1, k1, b1, G1⟩ := D1.ex
  obtain ⟨f2, fd2, m2, k2, b2, G2⟩ := D2.ex
  refine F.ok scDrawn (fun vs H Q E h => ?_) (fun cdv A outer s H vs Q E hr h => ?_)
  · obtain ⟨L, C, k, rfl, _⟩ := h
    rfl
  · obtain ⟨L, C, k, rfl, hk1, hk8, hP, q⟩ := h
    refine ⟨_, pss_cons (ps_set (i := 2) scDrawn.nd rfl (Or.inl rfl) (pe_call G2 hr (by rfl) m2 k2 b2 .nil pass0 (pa_cons (pv 0) (pa_cons (pv 1) pa_nil))))
      (pss_cons (ps_if (pt_cmpR op_eq (pe_call G1 (hr.mono (by decide)) (by rfl) m1 k1 b1 .nil pass0 (pa_cons (pv 0) (pa_cons pe_int pa_nil))) pe_int (nomark _))
        (pss_cons (ps_set (i := 3) scDrawn.nd rfl (Or.inl rfl) (pe_op op_sub (pv 1) pe_int))
        (pss_one (ps_for PassesOwn.never rfl (pi_range1 (by rfl) B.range (pa_cons (pv 1) pa_nil)) (pg_name (i := 4) scDrawn.nd rfl (Or.inl rfl))
          (pss_one (ps_for PassesOwn.never rfl (pi_range2 (by rfl) B.range (pa_cons (pv 4) (pa_cons (pv 1) pa_nil))) (pg_name (i := 5) scDrawn.nd rfl (Or.inl rfl))
            (pss_cons (ps_set (i := 6) scDrawn.nd rfl (Or.inl rfl) (pv 3))
            (pss_cons (PSby (t' := tTint) (ps_if (PW.pt (pw_and (pt_cmpR op_eq (pv 4) (pv 5) (nomark _)) (pw_and1 (pt_cmpR op_lt (pv 4) (pv 3) (nomark _)))))
              (pss_one (ps_set (i := 6) scDrawn.nd rfl (Or.inl rfl) (pe_op op_mod (pe_op op_add (pv 4) pe_int) (pe_callB (call_max2 rfl) (by rfl) B.max bMax (pa_cons pe_int (pa_cons (pv 3) pa_nil)))))) pss_nil) ?w1)
            (pss_cons (PSby (t' := tTintD) (ps_if (PW.pt (pw_and (pt_cmpR op_eq (pv 4) pe_int (nomark _)) (pw_and1 (pt_cmpR op_eq (pv 5) (pe_callB (call_max2 rfl) (by rfl) B.max bMax (pa_cons pe_int (pa_cons (pe_op op_sub (pv 3) pe_int) pa_nil))) (nomark _)))))
              (pss_one (ps_set (i := 6) scDrawn.nd rfl (Or.inl rfl) (pe_call G1 (hr.mono (by decide)) (by rfl) m1 k1 b1 .nil pass0 (pa_cons (pv 0) (pa_cons (pv 1) pa_nil))))) pss_nil) ?w2)
            (pss_cons (ps_asg (pv 6) (pg_sub (pe_ix ix_list (pv 2) (pv 4) (fun _ _ => rfl)) (pv 5) set_list))
            (pss_one (ps_asg (pv 6) (pg_sub (pe_ix ix_list (pv 2) (pv 5) (fun _ _ => rfl)) (pv 4) set_list)))))))))))) pss_nil)
      (pss_one (ps_ret (pv 2)))), ?_⟩
    case w1 =>
      rintro D σ H' ⟨L', k', Lr, a, b, c, rfl, h1, hc, nx⟩
      refine ⟨_, rfl, _, rfl, rfl, _, rfl, ?_⟩
      by_cases e : V.int (a : Int) = V.int (b : Int)
      · refine iteD e ⟨_, rfl, _, rfl, _, _, rfl, rfl, _, rfl, ?_⟩
        by_cases e2 : (a : Int) < (k' : Int) - 1
        · refine iteD e2 ?_
          obtain ⟨m, em, hm1, hm2⟩ : ∃ m : Nat, (if (k' : Int) - 1 > 1 then (k' : Int) - 1 else 1) = (m : Int) ∧ 1 ≤ m ∧ m < k' := by
            by_cases e3 : (k' : Int) - 1 > 1
            · exact ⟨k' - 1, by rw [if_pos e3]; omega, by omega, by omega⟩
            · exact ⟨1, by rw [if_neg e3]; rfl, by omega, by omega⟩
          obtain ⟨v, ev, hv⟩ := mod_nat ((a : Int) + 1) hm1
          refine ⟨_, rfl, _, _, rfl, rfl, _, rfl, _, _, rfl, _, _, rfl, rfl, (by show (0 : Int) < if (k' : Int) - 1 > 1 then (k' : Int) - 1 else 1; omega), ?_⟩
          have g := nx v (by omega)
          rw [← em] at ev
          have es : slots2 L' k' Lr a b v = [some (.ref L'), some (.int k'), some (.ref Lr), some (.int ((k' : Int) - 1)), some (.int a), some (.int b), some (.int (((a : Int) + 1) % (if (k' : Int) - 1 > 1 then (k' : Int) - 1 else 1)))] := by
            rw [ev]
            rfl
          rw [es] at g
          exact g
        · exact iteDF e2 (nx c hc)
      · exact iteDF e (iteF (nx c hc))
    case w2 =>
      rintro D σ H' ⟨L', C', k', Lr, a, b, c, rfl, h1, h8, hP', hc, nx⟩
      have stay := nx c H' hc (But.refl _ _) hP'
      refine ⟨_, rfl, rfl, _, rfl, ?_⟩
      refine iteAB ?_ (iteF stay)
      refine ⟨_, rfl, _, rfl, _, _, rfl, rfl, _, _, rfl, rfl, _, rfl, ?_⟩
      refine iteAB ?_ stay
      exact ⟨_, rfl, _, rfl, L', C', k', rfl, h1, by omega, hP', fun H2 v hv bt P2 => nx v H2 hv bt P2⟩
    have hPs := hP.some
    refine ⟨_, rfl, _, rfl, L, C, k, rfl, hk1, hk8, hP, fun H1 Lr as rows S1 T1 => ?_⟩
    refine ⟨_, rfl, L, C, 3, rfl, by decide, by decide, S1.pool, fun H2 v hv bt2 P2 => ⟨rfl, _, rfl, ?_⟩⟩
    have S2 := S1.move bt2 P2
    refine iteAB ?_ ⟨_, rfl, q _ _ _ _ S2 T1⟩
    refine ⟨_, rfl, _, _, rfl, rfl, ?_⟩
    refine ⟨_, rfl, k, rfl, by omega, by omega, ?_⟩
    refine for_range (lo := 0) (n := k) (fun i σ H' => ∃ va vb vc rows, σ = [some (.ref L), some (.int k), some (.ref Lr), some (.int ((k : Int) - 1)), va, vb, vc] ∧ RowSt H H' L C Lr as k rows ∧ Tab k rows) ⟨none, none, none, _, rfl, S2, T1⟩ ?_ ?_
    · rintro a σ H' ha ⟨va, vb, vc, rows, rfl, S, Tb⟩
      rw [Int.zero_add]
      refine ⟨_, rfl, _, rfl, (a : Int), (k : Int), rfl, ⟨by omega, by omega, by omega, by omega⟩, ?_⟩
      have eN : ((k : Int) - (a : Int)).toNat = k - a := by omega
      rw [eN]
      refine for_range (lo := (a : Int)) (n := k - a) (fun j σ H' => ∃ vb vc rows, σ = [some (.ref L), some (.int k), some (.ref Lr), some (.int ((k : Int) - 1)), some (.int a), vb, vc] ∧ RowSt H H' L C Lr as k rows ∧ Tab k rows) ⟨vb, vc, rows, rfl, S, Tb⟩ ?_ ?_
      · rintro j σ H3 hj ⟨vb, vc, rows, rfl, S, Tb⟩
        have eb : (a : Int) + (j : Int) = ((a + j : Nat) : Int) := by omega
        rw [eb]
        have hb : a + j < k := by omega
        generalize a + j = b at hb
        refine ⟨_, rfl, ?_⟩
        have el : (k : Int) - 1 = ((k - 1 : Nat) : Int) := by omega
        refine ⟨L, k, Lr, a, b, k - 1, (by unfold slots2; rw [← el]; rfl), hk1, by omega, fun c1 hc1 => ?_⟩
        refine ⟨L, C, k, Lr, a, b, c1, rfl, hk1, hk8, S.pool, hc1, fun x H4 hx bt4 P4 => ?_⟩
        have SG := S.move bt4 P4
        obtain ⟨p, r, g1, g2, g3, g4, T1⟩ := SG.put (v := x) ha hb
        refine ⟨_, rfl, _, rfl, _, rfl, Lr, _, _, _, rfl, rfl, SqL.of SG.at_.top, g1, _, rfl, p, _, _, b, rfl, rfl, g2, ixN_nat (by rw [vI_len, g3]; exact hb), ?_⟩
        obtain ⟨p2, r2, y1, y2, y3, y4, T2⟩ := T1.put (v := x) hb ha
        refine ⟨_, rfl, _, rfl, _, rfl, Lr, _, _, _, rfl, rfl, SqL.of T1.at_.top, y1, _, rfl, p2, _, _, a, rfl, rfl, y2, ixN_nat (by rw [vI_len, y3]; exact ha), ?_⟩
        exact ⟨_, _, _, rfl, T2, Tab.put2 Tb ha hb hx⟩
      · rintro σ H3 ⟨vb, vc, rows, rfl, S, Tb⟩
        exact ⟨_, _, _, _, rfl, S, Tb⟩
    · rintro σ H3 ⟨va, vb, vc, rows, rfl, S, Tb⟩
      exact ⟨_, rfl, q _ _ _ _ S Tb⟩
end
end BjP
/-! Beanjars: the jar after a draw. -/
namespace Bj
theorem toI_set (l : List Nat) (i x : Nat) : (toI l).set i (x : Int) = toI (l.set i x) := by
  unfold toI
  rw [List.map_set]
theorem toI_len (l : List Nat) : (toI l).length = l.length := by
  unfold toI
  rw [List.length_map]
theorem toI_get {l : List Nat} {i : Nat} (h : i < l.length) : (toI l)[i]? = some ((l.getD i 0 : Nat) : Int) := by
  unfold toI
  rw [List.getElem?_map, List.getElem?_eq_getElem h, List.getD_eq_getElem?_getD, List.getElem?_eq_getElem h]
  rfl
/-- two beans taken, below zero where they are not there -/
theorem after_spec {cts : List Nat} {a b : Nat} (ha : a < cts.length) (hb : b < cts.length) :
    ∃ y A Z : Int, ((toI cts).set a (((cts.getD a 0 : Nat) : Int) - 1))[b]? = some y ∧ (((toI cts).set a (((cts.getD a 0 : Nat) : Int) - 1)).set b (y - 1))[a]? = some A ∧
      (((toI cts).set a (((cts.getD a 0 : Nat) : Int) - 1)).set b (y - 1))[b]? = some Z ∧ (canDraw cts a b → 0 ≤ A ∧ 0 ≤ Z ∧ ((toI cts).set a (((cts.getD a 0 : Nat) : Int) - 1)).set b (y - 1) = toI (taken cts a b)) ∧ (¬ canDraw cts a b → A < 0 ∨ Z < 0) := by
  have hl : ∀ z : Int, b < ((toI cts).set a z).length := fun z => by rw [List.length_set, toI_len]; exact hb
  by_cases h1 : 1 ≤ cts.getD a 0
  · have e1 : ((cts.getD a 0 : Nat) : Int) - 1 = ((cts.getD a 0 - 1 : Nat) : Int) := by omega
    rw [e1, toI_set]
    have hb' : b < (cts.set a (cts.getD a 0 - 1)).length := by rw [List.length_set]; exact hb
    have ey := toI_get hb'
    by_cases h2 : 1 ≤ (cts.set a (cts.getD a 0 - 1)).getD b 0
    · have e2 : (((cts.set a (cts.getD a 0 - 1)).getD b 0 : Nat) : Int) - 1 = (((cts.set a (cts.getD a 0 - 1)).getD b 0 - 1 : Nat) : Int) := by omega
      refine ⟨_, _, _, ey, by rw [e2, toI_set]; exact toI_get (by rw [List.length_set, List.length_set]; exact ha), by rw [e2, toI_set]; exact toI_get (by rw [List.length_set, List.length_set]; exact hb), fun _ => ⟨by omega, by omega, by rw [e2, toI_set]; rfl⟩, fun n => absurd ⟨h1, h2⟩ n⟩
    · have e0 : (cts.set a (cts.getD a 0 - 1)).getD b 0 = 0 := by omega
      rw [e0] at ey
      have hb2 : b < (toI (cts.set a (cts.getD a 0 - 1))).length := by rw [toI_len]; exact hb'
      have ha2 : a < ((toI (cts.set a (cts.getD a 0 - 1))).set b (((0 : Nat) : Int) - 1)).length := by rw [List.length_set, toI_len, List.length_set]; exact ha
      refine ⟨_, _, _, ey, List.getElem?_eq_getElem ha2, by rw [List.getElem?_set, if_pos rfl, if_pos hb2], fun c => absurd c.2 h2, fun _ => .inr (by decide)⟩
  · have e0 : cts.getD a 0 = 0 := by omega
    have ha1 : a < (toI cts).length := by rw [toI_len]; exact ha
    refine ⟨_, _, _, List.getElem?_eq_getElem (hl _), List.getElem?_eq_getElem (by rw [List.length_set, List.length_set]; exact ha1), List.getElem?_eq_getElem (by rw [List.length_set]; exact hl _), fun c => absurd c.1 h1, fun _ => .inl ?_⟩
    rw [List.getElem_set]
    by_cases e : b = a
    · subst e
      rw [if_pos rfl, List.getElem_set, if_pos rfl, e0]
      decide
    · rw [if_neg e, List.getElem_set, if_pos rfl, e0]
      decide
end Bj
namespace BjP
open PySem L2 Bj BjR
section
variable {P : Program} {w : World} {K : PySem.W.Frag} {mg : PySem.Str → Option Value} {base : Heap}
def spAfter (K : PySem.W.Frag) : Sp := fun vs H Q _ => ∃ (Lr cp : Addr) (as : List Addr) (rows : List (List Nat)) (cts : List Nat) (k a b : Nat), vs = [.ref Lr, .ref cp, .int a, .int b] ∧ RowsAt H Lr as rows ∧ Tab k rows ∧ SqT K H cp (vI cts) ∧ cts.length = k ∧ a < k ∧ b < k ∧
  (¬ canDraw cts a b → ∀ H', Same H H' → Q .non H') ∧ (canDraw cts a b → ∀ H' t, Same H H' → TupF H' t (vI (drawn cts a b (cell rows a b))) → Q (.ref t) H')
theorem scAfter : FnScope ["_law_rows", "_law_counts", "_law_a", "_law_b", "_law_found"] ["_law_rows", "_law_counts", "_law_a", "_law_b"] (defScope sAfter) := ⟨rfl, rfl, rfl, by decide +kernel, rfl, by decide +kernel, by decide +kernel⟩
theorem at_ints {l : List Int} {i : Nat} {x : Int} (h : l[i]? = some x) : atI (l.map V.int) (i : Int) = some (V.int x) := atI_nat (by rw [List.getElem?_map, h]; rfl)
theorem set_ints (l : List Int) (i : Nat) (x : Int) : (l.map V.int).set i (V.int x) = (l.set i x).map V.int := by rw [List.map_set]
theorem ok_after {f : Addr} {fd : FuncData} (B : Blt mg) (F : Fun K "_law_after" "_law_after" sAfter f fd) : FnOk P w K mg base CX0 1 f fd ["_law_rows", "_law_counts", "_law_a", "_law_b"] (spAfter K) := by
  refine F.ok scAfter (fun vs H Q E h => ?_) (fun cdv A outer s H vs Q E hr h => ?_)
  · obtain ⟨Lr, cp, as, rows, cts, k, a, b, rfl, _⟩ := h
    rfl
  · obtain ⟨Lr, cp, as, rows, cts, k, a, b, rfl, R, Tb, hcp, hlen, ha, hb, kN, kT⟩ := h
    refine ⟨_, pss_cons (ps_set (i := 4) scAfter.nd rfl (Or.inl rfl) (pe_callTy call_list_of (by rfl) B.list bList (pa_cons (pv 1) pa_nil)))
      (pss_cons (ps_asg (pe_op op_sub (pe_ix ix_list (pv 4) (pv 2) (fun _ _ => rfl)) pe_int) (pg_sub (pv 4) (pv 2) set_list))
      (pss_cons (ps_asg (pe_op op_sub (pe_ix ix_list (pv 4) (pv 3) (fun _ _ => rfl)) pe_int) (pg_sub (pv 4) (pv 3) set_list))
      (pss_cons (ps_if (PW.pt (pw_or (pt_cmpR op_lt (pe_ix ix_list (pv 4) (pv 2) (fun _ _ => rfl)) pe_int (nomark _)) (pw_or1 (pt_cmpR op_lt (pe_ix ix_list (pv 4) (pv 3) (fun _ _ => rfl)) pe_int (nomark _))))) (pss_one (ps_ret pe_non)) pss_nil)
      (pss_cons (ps_asg (pe_op op_add (pe_ix ix_list (pv 4) (pe_ix ix_list (pe_ix ix_list (pv 0) (pv 2) (fun _ _ => rfl)) (pv 3) (fun _ _ => rfl)) (fun _ _ => rfl)) pe_int) (pg_sub (pv 4) (pe_ix ix_list (pe_ix ix_list (pv 0) (pv 2) (fun _ _ => rfl)) (pv 3) (fun _ _ => rfl)) set_list))
      (pss_one (ps_ret (pe_callTy call_tupF (by rfl) B.tuple bTuple (pa_cons (pv 4) pa_nil)))))))), ?_⟩
    have ha' : a < cts.length := by rw [hlen]; exact ha
    have hb' : b < cts.length := by rw [hlen]; exact hb
    refine ⟨_, rfl, cp, vI cts, rfl, .inr hcp, fun l hl => ?_⟩
    have s1 := same_upd (o := .lst (vI cts)) hl
    have u1 : (upd H l (.lst (vI cts))) l = some (.lst ((toI cts).map V.int)) := upd_same
    obtain ⟨y, A, Z, ey, eA, eZ, can, cannot⟩ := after_spec ha' hb'
    refine ⟨_, rfl, _, rfl, l, _, _, _, rfl, rfl, SqL.of u1, at_ints (toI_get ha'), _, _, rfl, rfl, _, rfl, _, rfl, l, _, _, a, rfl, rfl, u1, ixN_nat (by rw [List.length_map, toI_len]; exact ha'), ?_⟩
    rw [set_ints]
    generalize (toI cts).set a (((cts.getD a 0 : Nat) : Int) - 1) = c1 at ey eA eZ can
    have u2 : (upd (upd H l (.lst (vI cts))) l (.lst (c1.map V.int))) l = some (.lst (c1.map V.int)) := upd_same
    refine ⟨_, rfl, _, rfl, l, _, _, _, rfl, rfl, SqL.of u2, at_ints ey, _, _, rfl, rfl, _, rfl, _, rfl, l, _, _, b, rfl, rfl, u2, ixN_nat (by rw [List.length_map]; exact (List.getElem?_eq_some_iff.mp ey).1), ?_⟩
    rw [set_ints, upd_upd, upd_upd]
    have u3 : (upd H l (.lst ((c1.set b (y - 1)).map V.int))) l = some (.lst ((c1.set b (y - 1)).map V.int)) := upd_same
    have s3 := same_upd (o := .lst ((c1.set b (y - 1)).map V.int)) hl
    refine ⟨_, rfl, _, rfl, l, _, _, _, rfl, rfl, SqL.of u3, at_ints eA, _, _, rfl, rfl, _, rfl, ?_⟩
    by_cases hA : A < 0
    · exact iteD hA (iteT (kN (fun c => absurd (can c).1 (by omega)) _ s3))
    refine iteDF hA ⟨_, rfl, _, rfl, l, _, _, _, rfl, rfl, SqL.of u3, at_ints eZ, _, _, rfl, rfl, _, rfl, ?_⟩
    by_cases hZ : Z < 0
    · exact iteD hZ (kN (fun c => absurd (can c).2.1 (by omega)) _ s3)
    refine iteDF hZ ?_
    have hc : canDraw cts a b := Classical.byContradiction fun n => (cannot n).elim hA hZ
    obtain ⟨_, _, e⟩ := can hc
    rw [e] at u3 s3 ⊢
    have hx := Tb.col a b ha hb
    have hx' : cell rows a b < (taken cts a b).length := by rw [taken_length, hlen]; exact hx
    obtain ⟨p, r, g1, g2, g3⟩ := (R.same s3).cell Tb ha hb
    refine ⟨_, rfl, _, rfl, _, rfl, Lr, _, _, _, rfl, rfl, SqL.of (R.same s3).top, g1, _, rfl, p, _, _, _, rfl, rfl, SqL.of g2, g3, l, _, _, _, rfl, rfl, SqL.of u3, at_ints (toI_get hx'), _, _, rfl, rfl, _, rfl, _, rfl, _, rfl, Lr, _, _, _, rfl, rfl, SqL.of (R.same s3).top, g1, _, rfl, p, _, _, _, rfl, rfl, SqL.of g2, g3, l, _, _, cell rows a b, rfl, rfl, u3, ixN_nat (by rw [List.length_map, toI_len]; exact hx'), ?_⟩
    rw [set_ints, upd_upd]
    have ed : (toI (taken cts a b)).set (cell rows a b) ((((taken cts a b).getD (cell rows a b) 0 : Nat) : Int) + 1) = toI (drawn cts a b (cell rows a b)) := by
      rw [show (((taken cts a b).getD (cell rows a b) 0 : Nat) : Int) + 1 = (((taken cts a b).getD (cell rows a b) 0 + 1 : Nat) : Int) by omega, toI_set]
      rfl
    rw [ed]
    refine ⟨_, rfl, l, _, rfl, SqL.of upd_same, fun t o ht ho => ?_⟩
    exact kT hc _ t (Same.trans (same_upd hl) (same_upd ht)) ⟨o, upd_same, ho⟩
/-! ### _law_choices -/
/-- a choice -/
def OptAt (H : Hp) (rows : List (List Nat)) (cts : List Nat) (k : Nat) (v : V) : Prop := ∃ (t t' : Addr) (pr : V) (a b : Nat), v = .ref t ∧ H t = some (.tup [pr, .ref t']) ∧ a ≤ b ∧ b < k ∧ canDraw cts a b ∧ TupF H t' (vI (drawn cts a b (cell rows a b)))
theorem TupF.same {H H' : Hp} {t : Addr} {ys : List V} (s : Same H H') (h : TupF H t ys) : TupF H' t ys := by
  obtain ⟨o, e, d⟩ := h
  exact ⟨o, s _ _ e, d⟩
theorem OptAt.same {H H' : Hp} {rows : List (List Nat)} {cts : List Nat} {k : Nat} {v : V} (s : Same H H') (h : OptAt H rows cts k v) : OptAt H' rows cts k v := by
  obtain ⟨t, t', pr, a, b, e, h1, h2, h3, h4, h5⟩ := h
  exact ⟨t, t', pr, a, b, e, s _ _ h1, h2, h3, h4, TupF.same s h5⟩
/-- a choice stays where a list is written -/
theorem OptAt.put {H : Hp} {rows : List (List Nat)} {cts : List Nat} {k : Nat} {v : V} {D : Addr} {xs ys : List V} (hD : H D = some (.lst xs)) (h : OptAt H rows cts k v) : OptAt (L2.upd H D (.lst ys)) rows cts k v := by
  obtain ⟨t, t', pr, a, b, e, h1, h2, h3, h4, o, h5, h6⟩ := h
  have n1 : t ≠ D := ne_of h1 hD (by intro z; cases z)
  have n2 : t' ≠ D := ne_of h5 hD (by intro z; cases z)
  exact ⟨t, t', pr, a, b, e, by rw [upd_ne n1]; exact h1, h2, h3, h4, o, by rw [upd_ne n2]; exact h5, h6⟩
def spChoices (K : PySem.W.Frag) : Sp := fun vs H Q _ => ∃ (Lr cp : Addr) (as : List Addr) (rows : List (List Nat)) (cts : List Nat) (k : Nat), vs = [.ref Lr, .ref cp] ∧ RowsAt H Lr as rows ∧ Tab k rows ∧ TupF H cp (vI cts) ∧ cts.length = k ∧
  ∀ (H' : Hp) (D : Addr) (opts : List V), Same H H' → H D = none → H' D = some (.lst opts) → (∀ v ∈ opts, OptAt H' rows cts k v) → opts.length ≤ 64 → ((∃ a b, a ≤ b ∧ b < k ∧ canDraw cts a b) → opts ≠ []) → Q (.ref D) H'
theorem scChoices : FnScope ["_law_rows", "_law_counts", "_law_found", "_law_a", "_law_b", "_law_there"] ["_law_rows", "_law_counts"] (defScope sChoices) := ⟨rfl, rfl, rfl, by decide +kernel, rfl, by decide +kernel, by decide +kernel⟩
/-- the choices found so far -/
structure Found (H0 H : Hp) (D : Addr) (rows : List (List Nat)) (cts : List Nat) (k n : Nat) (opts : List V) : Prop where
  sm : Same H0 H
  top : H D = some (.lst opts)
  all : ∀ v ∈ opts, OptAt H rows cts k v
  len : opts.length ≤ n
theorem ok_choices {f : Addr} {fd : FuncData} (B : Blt mg) (D1 : DefOk P w K mg base CX0 1 "_law_after" ["_law_rows", "_law_counts", "_law_a", "_law_b"] (spAfter K)) (F : Fun K "_law_choices" "_law_choices" sChoices f fd) : FnOk P w K mg base CX0 2 f fd ["_law_rows", "_law_counts"] (spChoices K) := by
  obtain ⟨f1, fd1, m1, k1, b1, G1⟩ := D1.ex
  refine F.ok scChoices (fun vs H Q E h => ?_) (fun cdv A outer s H vs Q E hr h => ?_)
  · obtain ⟨Lr, cp, as, rows, cts, k, rfl, _⟩ := h
    rfl
  · obtain ⟨Lr, cp, as, rows, cts, k, rfl, R, Tb, hcp, hlen, q⟩ := h
    have hk8 := Tb.le8
    refine ⟨_, pss_cons (ps_set (i := 2) scChoices.nd rfl (Or.inl rfl) (pe_lst pa_nil))
      (pss_cons (ps_for PassesOwn.never rfl (pi_range1 (by rfl) B.range (pa_cons (pe_callB call_len_seq (by rfl) B.len bLen (pa_cons (pv 0) pa_nil)) pa_nil)) (pg_name (i := 3) scChoices.nd rfl (Or.inl rfl))
        (pss_one (ps_for PassesOwn.never rfl (pi_range2 (by rfl) B.range (pa_cons (pv 3) (pa_cons (pe_callB call_len_seq (by rfl) B.len bLen (pa_cons (pv 0) pa_nil)) pa_nil))) (pg_name (i := 4) scChoices.nd rfl (Or.inl rfl))
          (pss_cons (ps_set (i := 5) scChoices.nd rfl (Or.inl rfl) (pe_call G1 hr (by rfl) m1 k1 b1 .nil pass0 (pa_cons (pv 0) (pa_cons (pv 1) (pa_cons (pv 3) (pa_cons (pv 4) pa_nil))))))
          (pss_one (ps_if (pt_cmp (pc_notN (pv 5))) (pss_one (ps_expr (pe_bm PySem.F.plainAttrs_list PySem.F.slot_list_append PySem.F.type_list_append mt_append (pv 2) (pa_cons (pe_tup (pa_cons (pe_tup (pa_cons (pv 3) (pa_cons (pv 4) pa_nil))) (pa_cons (pv 5) pa_nil))) pa_nil)))) pss_nil))))))
      (pss_one (ps_ret (pv 2)))), ?_⟩
    have hl : (as.map V.ref).length = k := by rw [List.length_map, R.len, Tb.len]
    refine ⟨Nat.zero_le _, fun D hD => ?_⟩
    have s0 := same_upd (o := .lst []) hD
    refine ⟨_, rfl, Lr, _, rfl, .inl (SqL.of (R.same s0).top), ?_⟩
    rw [hl]
    refine ⟨k, rfl, by omega, by omega, ?_⟩
    refine for_range (lo := 0) (n := k) (fun i σ H' => ∃ va vb vc opts, σ = [some (.ref Lr), some (.ref cp), some (.ref D), va, vb, vc] ∧ Found H H' D rows cts k (8 * i) opts ∧ ∀ a b, a < i → a ≤ b → b < k → canDraw cts a b → opts ≠ [])
      ⟨none, none, none, [], rfl, ⟨s0, upd_same, fun v hv => (by cases hv), Nat.zero_le _⟩, fun a b h => by omega⟩ ?_ ?_
    · rintro a σ H' ha ⟨va, vb, vc, opts, rfl, Fo, hne⟩
      rw [Int.zero_add]
      refine ⟨_, rfl, _, rfl, Lr, _, rfl, .inl (SqL.of (R.same Fo.sm).top), ?_⟩
      rw [hl]
      refine ⟨(a : Int), (k : Int), rfl, ⟨by omega, by omega, by omega, by omega⟩, ?_⟩
      have eN : ((k : Int) - (a : Int)).toNat = k - a := by omega
      rw [eN]
      refine for_range (lo := (a : Int)) (n := k - a) (fun j σ H' => ∃ vb vc opts, σ = [some (.ref Lr), some (.ref cp), some (.ref D), some (.int a), vb, vc] ∧ Found H H' D rows cts k (8 * a + j) opts ∧ (∀ a' b, a' < a → a' ≤ b → b < k → canDraw cts a' b → opts ≠ []) ∧ ∀ b, a ≤ b → b < a + j → canDraw cts a b → opts ≠ [])
        ⟨vb, vc, opts, rfl, Fo, hne, fun b h1 h2 => by omega⟩ ?_ ?_
      · rintro j σ H3 hj ⟨vb, vc, opts, rfl, Fo, hn1, hn2⟩
        have eb : (a : Int) + (j : Int) = ((a + j : Nat) : Int) := by omega
        rw [eb]
        have hb : a + j < k := by omega
        refine ⟨_, rfl, _, rfl, _, rfl, _, rfl, Lr, cp, as, rows, cts, k, a, a + j, rfl, R.same Fo.sm, Tb, (TupF.same Fo.sm hcp).sq, hlen, ha, hb, fun nc H4 s4 => ?_, fun hc H4 t s4 hT => ?_⟩
        · refine ⟨_, rfl, false, rfl, iteF ?_⟩
          refine ⟨_, _, opts, rfl, ⟨Fo.sm.trans s4, s4 _ _ Fo.top, fun v hv => OptAt.same s4 (Fo.all v hv), by have := Fo.len; omega⟩, hn1, fun b h1 h2 hc => ?_⟩
          by_cases e : b = a + j
          · subst e
            exact absurd hc nc
          · exact hn2 b h1 (by omega) hc
        · refine ⟨_, rfl, true, rfl, iteT ?_⟩
          have h4 := s4 _ _ Fo.top
          refine ⟨_, rfl, .inl ⟨rfl, _, SqL.of h4⟩, ?_⟩
          refine ⟨_, rfl, _, rfl, two_line, fun t1 ht1 => ⟨_, rfl, two_line, fun t2 ht2 => ?_⟩⟩
          have s5 := same_upd (o := .tup [.int a, .int ((a + j : Nat) : Int)]) ht1
          have s6 := same_upd (o := .tup [.ref t1, .ref t]) ht2
          have s56 := s5.trans s6
          have h6 := s56 _ _ h4
          refine ⟨D, _, _, rfl, rfl, h6, ?_, ?_⟩
          · have := Fo.len
            exact small1000 (by omega)
          · have nD : ∀ {b : Addr} {o : HO}, H b = some o → b ≠ D := fun e => ne_of_none e hD
            refine ⟨_, _, opts ++ [.ref t2], rfl, ⟨fun b o e => ?_, upd_same, fun v hv => ?_, ?_⟩, fun a' b h1 h2 h3 h4 => by simp, fun b h1 h2 h3 => by simp⟩
            · rw [upd_ne (nD e)]
              exact s56 _ _ (s4 _ _ (Fo.sm _ _ e))
            · rcases List.mem_append.mp hv with hv | hv
              · exact OptAt.put h6 (OptAt.same s56 (OptAt.same s4 (Fo.all v hv)))
              · rw [List.mem_singleton.mp hv]
                exact OptAt.put h6 ⟨t2, t, .ref t1, a, a + j, rfl, upd_same, by omega, hb, hc, TupF.same s56 hT⟩
            · have := Fo.len
              rw [List.length_append]
              simp
              omega
      · rintro σ H3 ⟨vb, vc, opts, rfl, Fo, hn1, hn2⟩
        refine ⟨_, _, _, opts, rfl, ⟨Fo.sm, Fo.top, Fo.all, by have := Fo.len; omega⟩, fun a' b h1 h2 h3 h4 => ?_⟩
        by_cases e : a' = a
        · subst e
          exact hn2 b h2 (by omega) h4
        · exact hn1 a' b (by omega) h2 h3 h4
    · rintro σ H3 ⟨va, vb, vc, opts, rfl, Fo, hne⟩
      exact ⟨_, rfl, q _ D opts Fo.sm hD Fo.top Fo.all (by have := Fo.len; omega) fun ⟨a, b, h1, h2, h3⟩ => hne a b (by omega) h1 h2 h3⟩
end
end BjP
/-! Beanjars: the drawn way to its end; the law's numbers. -/
namespace Bj
theorem sum_zero : ∀ {l : List Nat} {i : Nat}, l.sum = 0 → l.getD i 0 = 0
  | [], i, _ => by simp
  | a :: l, 0, h => by
    simp only [List.sum_cons] at h
    simp
    omega
  | a :: l, i + 1, h => by
    simp only [List.sum_cons] at h
    have := sum_zero (l := l) (i := i) (by omega)
    simpa using this
theorem first_one : ∀ {l : List Nat}, l.sum = 1 → ∃ j, j < l.length ∧ l.getD j 0 = 1 ∧ (toI l)[j]? = some 1 ∧ ∀ m, m < j → (toI l)[m]? ≠ some 1
  | [], h => by simp at h
  | a :: l, h => by
    simp only [List.sum_cons] at h
    by_cases e : a = 1
    · refine ⟨0, by simp, by simpa using e, by subst e; rfl, fun m hm => by omega⟩
    · have e0 : a = 0 := by omega
      obtain ⟨j, h1, h2, h3, h4⟩ := first_one (l := l) (by omega)
      refine ⟨j + 1, by simpa using h1, by simpa using h2, by simpa [toI] using h3, fun m hm => ?_⟩
      cases m with
      | zero => subst e0; simp [toI]
      | succ m =>
        have := h4 m (by omega)
        simpa [toI] using this
end Bj
namespace BjP
open PySem L2 Bj BjR
/-- rows stay where the pool's list is written -/
theorem RowsAt.pool {H H' : Hp} {L C Lr : Addr} {as : List Addr} {rows : List (List Nat)} (bt : But L H H') (p : PoolAt H L C) (R : RowsAt H Lr as rows) : RowsAt H' Lr as rows := by
  obtain ⟨a, b, d, ns, h1, h2, h3⟩ := p
  refine ⟨bt.keep _ _ (fun z => ?_) R.top, R.len, fun i c r e1 e2 => bt.keep _ _ (fun z => ?_) (R.row i c r e1 e2)⟩
  · have q := R.top
    rw [z, h1] at q
    have q := Option.some.inj q
    injection q with q
    have q1 : (as.map V.ref)[1]? = some (V.int a) := by rw [← q]; rfl
    rw [List.getElem?_map] at q1
    obtain ⟨x, _, y⟩ := Option.map_eq_some_iff.mp q1
    cases y
  · have q := R.row i c r e1 e2
    rw [z, h1] at q
    have q := Option.some.inj q
    injection q with q
    have q1 : (vI r)[0]? = some (V.ref C) := by rw [← q]; rfl
    obtain ⟨x, _, y⟩ := vI_of q1
    cases y
theorem TableAt.pool {H H' : Hp} {L C CT t : Addr} {rows : List (List Nat)} (bt : But L H H') (p : PoolAt H L C) (T : TableAt CT H t rows) : TableAt CT H' t rows := by
  obtain ⟨dx, Lr, as, h, R⟩ := T
  obtain ⟨a, b, d, ns, h1, h2, h3⟩ := id p
  exact ⟨dx, Lr, as, bt.keep _ _ (ne_of h h1 (by intro z; cases z)) h, R.pool bt p⟩
theorem TupF.pool {H H' : Hp} {L C t : Addr} {ys : List V} (bt : But L H H') (p : PoolAt H L C) (T : TupF H t ys) : TupF H' t ys := by
  obtain ⟨o, e, q⟩ := T
  obtain ⟨a, b, d, ns, h1, h2, h3⟩ := p
  exact ⟨o, bt.keep _ _ (ne_of e h1 (by intro z; cases z)) e, q⟩
theorem OptAt.pool {H H' : Hp} {L C : Addr} {rows : List (List Nat)} {cts : List Nat} {k : Nat} {v : V} (bt : But L H H') (p : PoolAt H L C) (h : OptAt H rows cts k v) : OptAt H' rows cts k v := by
  obtain ⟨t, t', pr, a, b, e, h1, h2, h3, h4, h5⟩ := h
  obtain ⟨x, y, d, ns, g1, g2, g3⟩ := id p
  exact ⟨t, t', pr, a, b, e, bt.keep _ _ (ne_of h1 g1 (by intro z; cases z)) h1, h2, h3, h4, TupF.pool bt p h5⟩
section
variable {P : Program} {w : World} {K : PySem.W.Frag} {mg : PySem.Str → Option Value} {base : Heap}
/-! ### _law_end -/
def spEnd : Sp := fun vs H Q _ => ∃ (L C Lr cp : Addr) (as : List Addr) (rows : List (List Nat)) (cts : List Nat) (k c n : Nat), vs = [.ref L, .ref Lr, .ref cp] ∧ PoolAt H L C ∧ RowsAt H Lr as rows ∧ Tab k rows ∧ H cp = some (.lst (vI cts)) ∧ cts.length = k ∧ 1 ≤ cts.sum ∧ Real (cell rows) c n cts ∧
  ∀ (x : Nat) (H' : Hp), x < k → Poss (cell rows) c n x → But L H H' → PoolAt H' L C → Q (.int x) H'
theorem scEnd : FnScope ["_law_pool_here", "_law_rows", "_law_counts", "_law_current", "_law_options"] ["_law_pool_here", "_law_rows", "_law_counts"] (defScope sEnd) := ⟨rfl, rfl, rfl, by decide +kernel, rfl, by decide +kernel, by decide +kernel⟩
/-- the jar on its way -/
structure Way (H0 H : Hp) (L C Lr cur : Addr) (as : List Addr) (rows : List (List Nat)) (cts : List Nat) (k c n : Nat) : Prop where
  bt : But L H0 H
  pool : PoolAt H L C
  at_ : RowsAt H Lr as rows
  tup : TupF H cur (vI cts)
  len : cts.length = k
  some : 1 ≤ cts.sum
  real : Real (cell rows) c n cts
theorem ok_end {f : Addr} {fd : FuncData} (B : Blt mg) (D1 : DefOk P w K mg base CX0 1 "_law_draw" ["_law_pool_here", "_law_many"] spDraw) (D2 : DefOk P w K mg base CX0 2 "_law_choices" ["_law_rows", "_law_counts"] (spChoices K))
    (F : Fun K "_law_end" "_law_end" sEnd f fd) : FnOk P w K mg base CX0 3 f fd ["_law_pool_here", "_law_rows", "_law_counts"] spEnd := by
  obtain ⟨f1, fd1, m1, k1, b1, G1⟩ := D1.ex
  obtain ⟨f2, fd2, m2, k2, b2, G2⟩ := D2.ex
  refine F.ok scEnd (fun vs H Q E h => ?_) (fun cdv A outer s H vs Q E hr h => ?_)
  · obtain ⟨L, C, Lr, cp, as, rows, cts, k, c, n, rfl, _⟩ := h
    rfl
  · obtain ⟨L, C, Lr, cp, as, rows, cts, k, c, n, rfl, hP, R, Tb, hcp, hlen, hsum, hR, q⟩ := h
    refine ⟨_, pss_cons (ps_set (i := 3) scEnd.nd rfl (Or.inl rfl) (pe_callTy call_tupF (by rfl) B.tuple bTuple (pa_cons (pv 2) pa_nil)))
      (pss_cons (ps_while PassesOwn.never (pt_cmpR op_gt (pe_callB (call_sumT rfl) (by rfl) B.sum bSum (pa_cons (pv 3) pa_nil)) pe_int (nomark _))
        (pss_cons (ps_set (i := 4) scEnd.nd rfl (Or.inl rfl) (pe_call G2 hr (by rfl) m2 k2 b2 .nil pass0 (pa_cons (pv 1) (pa_cons (pv 3) pa_nil))))
        (pss_one (ps_set (i := 3) scEnd.nd rfl (Or.inl rfl) (pe_ix ix_tup (pe_ix ix_list (pv 4) (pe_call G1 (hr.mono (by decide)) (by rfl) m1 k1 b1 .nil pass0 (pa_cons (pv 0) (pa_cons (pe_callB call_len_seq (by rfl) B.len bLen (pa_cons (pv 4) pa_nil)) pa_nil))) (fun _ _ => rfl)) pe_int (fun _ _ => rfl))))))
      (pss_one (ps_ret (pe_indexT (pv 3) (pa_cons pe_int pa_nil))))), ?_⟩
    refine ⟨_, rfl, cp, _, rfl, SqL.of hcp, fun cur o hcur ho => ?_⟩
    have s1 := same_upd (o := .frz o (.tup (vI cts))) hcur
    refine ⟨fun m σ H' => ∃ (cur : Addr) (cts : List Nat) (v4 : Option V), cts.sum = m ∧ σ = [some (.ref L), some (.ref Lr), some (.ref cp), some (.ref cur), v4] ∧ Way H H' L C Lr cur as rows cts k c n,
      ⟨cts.sum, cur, cts, none, rfl, rfl, ⟨Same.but s1, PoolAt.same s1 hP, R.same s1, ⟨o, upd_same, ho⟩, hlen, hsum, hR⟩⟩, ?_⟩
    rintro m σ H' ⟨cur, cts, v4, hm, rfl, W⟩
    refine ⟨_, rfl, cur, toI cts, rfl, W.tup.sq, _, _, rfl, rfl, _, rfl, ?_⟩
    rw [sum_toI]
    by_cases h2 : (1 : Int) < ((cts.sum : Nat) : Int)
    · refine iteD h2 ⟨fun σ' H'' => ∃ m', m' < m ∧ ∃ (cur : Addr) (cts : List Nat) (v4 : Option V), cts.sum = m' ∧ σ' = [some (.ref L), some (.ref Lr), some (.ref cp), some (.ref cur), v4] ∧ Way H H'' L C Lr cur as rows cts k c n, fun _ _ z => z, ?_⟩
      refine ⟨_, rfl, _, rfl, Lr, cur, as, rows, cts, k, rfl, W.at_, Tb, W.tup, W.len, fun H2 D opts s2 hD htop hall h64 hne => ?_⟩
      obtain ⟨a0, b0, c1, c2, c3⟩ := can_some (l := cts) (by omega)
      have hne := hne ⟨a0, b0, c1, by rw [← W.len]; exact c2, c3⟩
      have h1 : 1 ≤ opts.length := by
        cases opts with
        | nil => exact absurd rfl hne
        | cons _ _ => simp
      have P2 := PoolAt.same s2 W.pool
      refine ⟨_, rfl, _, rfl, _, rfl, D, _, rfl, .inl (SqL.of htop), L, C, opts.length, rfl, h1, by omega, P2, fun H3 v hv bt3 P3 => ?_⟩
      have nDL : D ≠ L := fun z => W.pool.some.1 (z ▸ hD)
      have ev : opts[v]? = some opts[v] := List.getElem?_eq_getElem hv
      obtain ⟨t, t', pr, a, b, e1, e2, e3, e4, e5, e6⟩ := (hall _ (List.getElem_mem hv)).pool bt3 P2
      rw [e1] at ev
      refine ⟨D, _, _, _, rfl, rfl, SqL.of (bt3.keep _ _ nDL htop), atI_nat ev, t, _, _, _, rfl, rfl, SqT.of e2, rfl, ?_⟩
      have l1 : a < cts.length := by rw [W.len]; omega
      have l2 : b < cts.length := by rw [W.len]; omega
      have l3 : cell rows a b < cts.length := by rw [W.len]; exact Tb.col a b (by omega) e4
      have hs := drawn_sum l1 l2 l3 e5
      exact ⟨_, by omega, t', drawn cts a b (cell rows a b), _, rfl, rfl, ⟨(W.bt.trans (Same.but s2)).trans bt3, P3, (W.at_.same s2).pool bt3 P2, e6, by rw [drawn_length, W.len], by omega, W.real.draw l1 l2 l3 e5⟩⟩
    · refine iteDF h2 ?_
      have hs : cts.sum = 1 := by have := W.some; omega
      obtain ⟨j, j1, j2, j3, j4⟩ := first_one hs
      exact ⟨_, rfl, cur, toI cts, rfl, W.tup, 1, j, rfl, W.tup, j3, j4, q j H' (by rw [← W.len]; exact j1) (W.real.end hs j2) W.bt W.pool⟩
/-! ### _law_number -/
def spNumber : Sp := fun vs H Q _ => ∃ (L C : Addr), vs = [.ref L] ∧ PoolAt H L C ∧ ∀ (v : Nat) (H' : Hp), 1 ≤ v → But L H H' → PoolAt H' L C → Q (.int v) H'
theorem scNumber : FnScope ["_law_pool_here"] ["_law_pool_here"] (defScope sNumber) := ⟨rfl, rfl, rfl, by decide +kernel, rfl, by decide +kernel, by decide +kernel⟩
theorem ok_number {f : Addr} {fd : FuncData} (D1 : DefOk P w K mg base CX0 1 "_law_draw" ["_law_pool_here", "_law_many"] spDraw) (F : Fun K "_law_number" "_law_number" sNumber f fd) : FnOk P w K mg base CX0 2 f fd ["_law_pool_here"] spNumber := by
  obtain ⟨f1, fd1, m1, k1, b1, G1⟩ := D1.ex
  refine F.ok scNumber (fun vs H Q E h => ?_) (fun cdv A outer s H vs Q E hr h => ?_)
  · obtain ⟨L, C, rfl, _⟩ := h
    rfl
  · obtain ⟨L, C, rfl, hP, q⟩ := h
    refine ⟨_, pss_cons (ps_if (pt_cmpR op_eq (pe_call G1 hr (by rfl) m1 k1 b1 .nil pass0 (pa_cons (pv 0) (pa_cons pe_int pa_nil))) pe_int (nomark _))
        (pss_one (ps_ret (pe_op op_add pe_int (pe_call G1 hr (by rfl) m1 k1 b1 .nil pass0 (pa_cons (pv 0) (pa_cons pe_int pa_nil)))))) pss_nil)
      (pss_one (ps_ret (pe_op op_add (pe_op op_add pe_int (pe_op op_mul (pe_call G1 hr (by rfl) m1 k1 b1 .nil pass0 (pa_cons (pv 0) (pa_cons (pe_op op_pow pe_int pe_int) pa_nil))) (pe_op op_pow pe_int pe_int)))
        (pe_call G1 hr (by rfl) m1 k1 b1 .nil pass0 (pa_cons (pv 0) (pa_cons (pe_op op_pow pe_int pe_int) pa_nil)))))), ?_⟩
    refine ⟨_, rfl, L, C, 2, rfl, by decide, by decide, hP, fun H1 v1 hv1 bt1 P1 => ⟨rfl, _, rfl, ?_⟩⟩
    refine iteAB ?_ ?_
    · refine ⟨_, rfl, L, C, 40, rfl, by decide, by decide, P1, fun H2 v2 hv2 bt2 P2 => ⟨_, _, rfl, rfl, ?_⟩⟩
      have z := q (1 + v2) H2 (by omega) (bt1.trans bt2) P2
      rw [show ((1 + v2 : Nat) : Int) = 1 + (v2 : Int) by omega] at z
      exact z
    · refine ⟨_, rfl, _, _, rfl, rfl, ⟨by decide, by decide, by decide⟩, L, C, 1000000000, rfl, by decide, by decide, P1, fun H2 v2 hv2 bt2 P2 => ?_⟩
      refine ⟨_, _, rfl, rfl, ⟨by decide, by decide, by decide⟩, _, _, rfl, rfl, .inl ⟨by omega, by omega⟩, _, _, rfl, rfl, ?_⟩
      refine ⟨_, rfl, _, _, rfl, rfl, ⟨by decide, by decide, by decide⟩, L, C, 100000, rfl, by decide, by decide, P2, fun H3 v3 hv3 bt3 P3 => ⟨_, _, rfl, rfl, ?_⟩⟩
      have z := q (1 + v2 * 100000000000000000000 + v3) H3 (by omega) ((bt1.trans bt2).trans bt3) P3
      rw [show ((1 + v2 * 100000000000000000000 + v3 : Nat) : Int) = 1 + (v2 : Int) * 100000000000000000000 + (v3 : Int) by omega] at z
      exact z
end
end BjP
/-! Beanjars: calls with a keyword; the period asked for. -/
namespace BjP
open PySem L2 Bj BjR PyProof.Rows
/-- a def of the module, called with its last parameter by keyword -/
structure DefKw (P : Program) (w : World) (K : PySem.W.Frag) (mg : PySem.Str → Option Value) (base : Heap) (CX : CXT) (k : Nat) (x : PySem.Str) (ps : List PySem.Str) (n : Nat) (kw : PySem.Str) (sp : Sp) : Prop where
  ex : ∃ f fd, mg x = some (.ref f) ∧ PySem.W.keepIn K (.ref f) = true ∧ KBn K fd ps n [kw] (fun us ws => us ++ ws) (fun vs zs => vs ++ zs) ∧ FnOk P w K mg base CX k f fd ps sp
section
variable {X : Cx} {CX : CXT} {lv n : Nat} {fa : Addr} {dat : FuncData} {names kws : List PySem.Str} {sp : Sp} {Ex : L2.St → XK} {nm : PySem.Str} {p1 p2 : Pos} {e1 : Expr} {rest : List Expr} {kwl : List Keyword} {t1 t2 : TA} {g1 : List Value → List Value → List Value} {g2 : List V → List V → List V}
/-- the call's reading where the wish on exceptions asks the slots -/
def tKwS (n m : Nat) (sp : Sp) (g2 : List V → List V → List V) (Ex : L2.St → XK) (t1 t2 : TA) : TE := fun σ H Q => t1 σ H fun xs Ha => t2 σ Ha fun ys Hb => xs.length = n ∧ ys.length = m ∧ sp (g2 xs ys) Hb Q (Ex σ)
theorem run_kwS {pn : List (Addr × Obj)} {σ : L2.St} {H : Hp} {s : Shared} {Q : VK} {us ws : List Value} {xs ys : List V} (G : FnOk X.prog X.w X.K X.mg X.base CX lv fa dat names sp) (room : Room lv X.A) (kb : KBn X.K dat names n kws g1 g2) (px : PassesAt CX X σ (Ex σ))
    (I : Inv X pn σ H s) (rx : Vals xs us) (ry : Vals ys ws) (e1 : xs.length = n) (e2 : ys.length = kws.length) (hh : sp (g2 xs ys) H Q (Ex σ)) : wpAny (model X.prog X.w) X.A (call (.ref fa) us (kws.zip ws)) (EP X pn σ Q) X.xe s := by
  have b := kb.to s us ws I.kIn (rx.length.symm.trans e1) (ry.length.symm.trans e2)
  have z := G.run X.A X.stack s H ⟨us, kws.zip ws⟩ (g1 us ws) (g2 xs ys) Q (Ex σ) room I.env0 b (kb.rel rx ry) hh
  refine wpAny_call (codeAny_mono z fun r s1 hr => ?_)
  cases r with
  | error e => exact px pn H s e s1 I hr
  | ok fl => cases fl <;> first | exact I.after hr | exact False.elim hr
theorem pe_kwS (G : FnOk X.prog X.w X.K X.mg X.base CX lv fa dat names sp) (room : Room lv X.A) (gl : Gl X nm) (hm : X.mg nm = some (.ref fa)) (kp : PySem.W.keepIn X.K (.ref fa) = true) (kb : KBn X.K dat names n kws g1 g2) (px : ∀ σ, PassesAt CX X σ (Ex σ))
    (ra : PA X (e1 :: rest) t1) (rk : PK X kwl t2) (c1 : (backToKw p2 (keywordEach kwl X.env)).all (·.1.isSome) = true := by rfl) (c2 : (backToKw p2 (keywordEach kwl X.env)).filterMap (·.1) = kws := by rfl)
    (c3 : (nm == ("__debug__" : PySem.Str)) = false := by decide) (c4 : starEach (e1 :: rest) X.env = (false, eval e1 X.env) :: starEach rest X.env := by rfl)
    (c5 : ((backTo p2 (starEach (e1 :: rest) X.env)).any (·.1) || (backToKw p2 (keywordEach kwl X.env)).any (·.1.isNone)) = false := by rfl) :
    PE X (.Call (.Name nm p1) (e1 :: rest) kwl p2) (tKwS n kws.length sp g2 Ex t1 t2) := by
  refine ⟨fun pn s σ H Q I hh => wpAny_Call_Name_kw (ld_glob I gl hm ?_ c3)⟩
  refine PySem.W.callWith_KW (h₀ := X.base) I.ok.mod.kin kp c1 (thn (ra.run p2 pn s σ H _ I hh) fun us sa ⟨xs, Ha, Ia, rx, qa⟩ => ?_) c5 c4
  refine thn (rk.run p2 pn sa σ Ha _ Ia qa) fun ws sb ⟨ys, Hb, Ib, ry, l1, l2, qb⟩ => ⟨Ib.kIn, ?_⟩
  rw [c2]
  exact run_kwS G room kb (px σ) Ib rx ry l1 l2 qb
end
section
variable {P : Program} {w : World} {K : PySem.W.Frag} {mg : PySem.Str → Option Value} {base : Heap}
/-! ### _law_repeated -/
def spRep (CT : Addr) : Sp := fun vs H Q _ => ∃ (t : Addr) (c : Nat) (rows : List (List Nat)) (k : Nat), vs = [.ref t, .int c] ∧ TableAt CT H t rows ∧ Tab k rows ∧ c < k ∧
  (perOf (S rows c) 24 = none → ∀ H', Same H H' → Q .non H') ∧ ∀ st p, perOf (S rows c) 24 = some (st, p) → ∀ (H' : Hp) (tp : Addr), Same H H' → H' tp = some (.tup [.int st, .int p]) → Q (.ref tp) H'
theorem scRep : FnScope ["_law_table", "_law_colour"] ["_law_table", "_law_colour"] (defScope sRepeated) := ⟨rfl, rfl, rfl, by decide +kernel, rfl, by decide +kernel, by decide +kernel⟩
theorem ok_rep {f CT CL : Addr} {fd : FuncData} (mL : mg "LimitExceeded" = some (.ref CL)) (te : PySem.W.exmOne K (.ref CL) (.ref CL) = some true) (D1 : DefKw P w K mg base (L2.CX P w) 6 "period" ["table", "colour", "most"] 2 "most" (spPeriod CT CL))
    (F : Fun K "_law_repeated" "_law_repeated" sRepeated f fd) : FnOk P w K mg base CX0 7 f fd ["_law_table", "_law_colour"] (spRep CT) := by
  obtain ⟨f1, fd1, m1, k1, b1, G1⟩ := D1.ex
  refine F.ok scRep (fun vs H Q E h => ?_) (fun cdv A outer s H vs Q E hr h => ?_)
  · obtain ⟨t, c, rows, k, rfl, _⟩ := h
    rfl
  · obtain ⟨t, c, rows, k, rfl, hT, Tb, hc, kN, kS⟩ := h
    refine ⟨_, pss_one (ps_try_only (tb := fun W => tRet (tKwS 2 1 (spPeriod CT CL) (fun vs zs => vs ++ zs) (WE W) (tCons (tVar 0) (tCons (tVar 1) tNil)) (tCons (tC (.int 24)) tNil))) (ts := fun _ _ _ => tRet (tC .non)) (Wout := fun _ _ _ _ => False) rfl rfl ⟨rfl, by decide, Or.inl mL⟩ takes0
      (fun W pn xe tk _ => pss_one (ps_ret (pe_kwS (kws := ["most"]) G1 hr (by rfl) m1 k1 b1 (fun σ => passAt tk σ) (pa_cons (pv 0) (pa_cons (pv 1) pa_nil)) (pk_cons pe_int pk_nil))))
      (fun _ _ _ _ _ _ _ => pss_one (ps_ret pe_non))), ?_⟩
    refine ⟨_, rfl, _, rfl, rfl, rfl, t, c, 24, rows, k, rfl, hT, Tb, hc, by decide, by decide, fun hn d H' s1 => ⟨true, te, fun _ a ha => kN hn H' s1, fun z => nomatch z⟩, fun st p hp H' tp s1 htp => kS st p hp H' tp s1 htp⟩
end
end BjP
/-! Beanjars: the sum of two numbers of beans. -/
namespace BjP
open PySem L2 Bj BjR
theorem ints_pool {H H' : Hp} {L C l : Addr} {r : List Nat} (bt : But L H H') (p : PoolAt H L C) (h : H l = some (.lst (vI r))) : H' l = some (.lst (vI r)) := by
  obtain ⟨a, b, d, ns, h1, h2, h3⟩ := p
  refine bt.keep _ _ (fun z => ?_) h
  have q := h
  rw [z, h1] at q
  have q := Option.some.inj q
  injection q with q
  have q1 : (vI r)[0]? = some (V.ref C) := by rw [← q]; rfl
  obtain ⟨x, _, y⟩ := vI_of q1
  cases y
theorem eqv_lists (A B : List Int) : PyData.eqv (.list (A.map PyData.int)) (.list (B.map PyData.int)) = decide (A = B) := by
  rw [PyData.eqv, eqv_nums]
theorem vI_dp {K : PySem.W.Frag} {H : Hp} {l : Addr} {r : List Nat} (h : H l = some (.lst (vI r))) : Dp K H (.ref l) (.list ((toI r).map PyData.int)) := .lst (SqL.of h) (dpAll_nums (toI r))
section
variable {P : Program} {w : World} {K : PySem.W.Frag} {mg : PySem.Str → Option Value} {base : Heap}
/-- the far number has the same beans -/
def tFar (CT : Addr) : TS := fun D σ H => ∃ (L Lr tp x lb lw : Addr) (c one two d k st p : Nat) (rows : List (List Nat)) (v9 : Option V), σ = [some (.ref L), some (.ref Lr), some (.int c), some (.ref tp), some (.ref x), some (.int one), some (.int two), some (.ref lb), some (.ref lw), v9, some (.int (one + p * d : Nat)), none, none, none] ∧
  TableAt CT H x rows ∧ Tab k rows ∧ c < k ∧ 1 ≤ one ∧ perOf (S rows c) 24 = some (st, p) ∧ H tp = some (.tup [.int st, .int p]) ∧ H lb = some (.lst (vI (S rows c one))) ∧ ∀ H', Same H H' → D.nx σ H'
def spSumR : Sp := fun vs H Q _ => ∃ (L C Lr tp : Addr) (c : Nat) (as : List Addr) (rows : List (List Nat)) (k st p : Nat), vs = [.ref L, .ref Lr, .int c, .ref tp] ∧ PoolAt H L C ∧ RowsAt H Lr as rows ∧ Tab k rows ∧ c < k ∧ perOf (S rows c) 24 = some (st, p) ∧ H tp = some (.tup [.int st, .int p]) ∧
  ∀ H', But L H H' → PoolAt H' L C → Q (.bl true) H'
theorem scSumR : FnScope ["_law_pool_here", "_law_rows", "_law_colour", "_law_told", "_law_table", "_law_one", "_law_other", "_law_beans", "_law_whole", "_law_second", "_law_far", "_law_wanted", "_law_before", "_law_first"] ["_law_pool_here", "_law_rows", "_law_colour", "_law_told"] (defScope sSumR) := ⟨rfl, rfl, rfl, by decide +kernel, rfl, by decide +kernel, by decide +kernel⟩
theorem ok_sumR {f CT fI : Addr} {fd fdI : FuncData} (B : Blt mg) (mT : mg "Table" = some (.ref CT)) (M : Mk K CT fI) (bI : Binds K fdI ["self", "rows"] []) (GI : FnOk P w K mg base CX0 4 fI fdI ["self", "rows"] (spTabInit CT))
    (D1 : DefOk P w K mg base CX0 1 "_law_draw" ["_law_pool_here", "_law_many"] spDraw) (D2 : DefOk P w K mg base CX0 2 "_law_number" ["_law_pool_here"] spNumber)
    (D3 : DefKw P w K mg base CX0 6 "beans_of_many" ["table", "colour", "count", "most"] 3 "most" (spBeans CT)) (D4 : DefKw P w K mg base CX0 7 "count_leading" ["table", "colour", "wanted", "high", "most"] 4 "most" (spCLead CT))
    (F : Fun K "_law_sum_right" "_law_sum_right" sSumR f fd) : FnOk P w K mg base CX0 8 f fd ["_law_pool_here", "_law_rows", "_law_colour", "_law_told"] spSumR := by
  obtain ⟨f1, fd1, m1, k1, b1, G1⟩ := D1.ex
  obtain ⟨f2, fd2, m2, k2, b2, G2⟩ := D2.ex
  obtain ⟨f3, fd3, m3, k3, b3, G3⟩ := D3.ex
  obtain ⟨f4, fd4, m4, k4, b4, G4⟩ := D4.ex
  refine F.ok scSumR (fun vs H Q E h => ?_) (fun cdv A outer s H vs Q E hr h => ?_)
  · obtain ⟨L, C, Lr, tp, c, as, rows, k, st, p, rfl, _⟩ := h
    rfl
  · obtain ⟨L, C, Lr, tp, c, as, rows, k, st, p, rfl, hP, R, Tb, hc, hp, htp, q⟩ := h
    have hu := hr.units
    refine ⟨_, pss_cons (ps_par3 (i := 4) (j := 5) (l := 6) rfl scSumR.nd rfl rfl rfl (by decide) (by decide) (by decide) rfl rfl rfl (pa_cons (pe_make M GI (hr.mono (by decide)) rfl mT bI .nil pass0 (pa_cons (pv 1) pa_nil))
        (pa_cons (pe_call G2 (hr.mono (by decide)) (by rfl) m2 k2 b2 .nil pass0 (pa_cons (pv 0) pa_nil)) (pa_cons (pe_call G2 (hr.mono (by decide)) (by rfl) m2 k2 b2 .nil pass0 (pa_cons (pv 0) pa_nil)) pa_nil))) rfl)
      (pss_cons (ps_set (i := 7) scSumR.nd rfl (Or.inl rfl) (pe_callN (ks := ["most"]) G3 (hr.mono (by decide)) (by rfl) m3 k3 b3 pass0 (pa_cons (pv 4) (pa_cons (pv 2) (pa_cons (pv 5) pa_nil))) (pk_cons pe_int pk_nil)))
      (pss_cons (ps_set (i := 8) scSumR.nd rfl (Or.inr rfl) (pe_callN (ks := ["most"]) G3 (hr.mono (by decide)) (by rfl) m3 k3 b3 pass0 (pa_cons (pv 4) (pa_cons (pv 2) (pa_cons (pe_op op_add (pv 5) (pv 6)) pa_nil))) (pk_cons pe_int pk_nil)))
      (pss_cons (ps_for PassesOwn.never rfl (pi_list (pe_callN (ks := ["most"]) G3 (hr.mono (by decide)) (by rfl) m3 k3 b3 pass0 (pa_cons (pv 4) (pa_cons (pv 2) (pa_cons (pv 6) pa_nil))) (pk_cons pe_int pk_nil))) (pg_name (i := 9) scSumR.nd rfl (Or.inr rfl))
        (pss_one (ps_if (pt_cmpR (op_neD hu) (pe_lc (own := [("_law_first", 13)]) (g := gName 13) rfl scSumR.nd (pi_list (pv 7))
          (blkOk_by (N := ["_law_pool_here", "_law_rows", "_law_colour", "_law_told", "_law_table", "_law_one", "_law_other", "_law_beans", "_law_whole", "_law_second", "_law_far", "_law_wanted", "_law_before", "_law_first"]) (sc := defScope sSumR) (by decide +kernel)) (fun _ _ _ _ _ => pg_name (i := 13) scSumR.nd rfl (Or.inl rfl))
          (fun _ _ _ _ _ => pts_one (pt_cmpR (notInK K) (pe_ix (ixLK K) (pe_ix (ixLK K) (pv 1) (pv 13) (fun _ _ => rfl)) (pv 9) (fun _ _ => rfl)) (pv 8) (by rfl))) (fun _ _ _ _ _ => pv 13)) (pe_lst pa_nil) (nomark _)) (pss_one ps_never) pss_nil)))
      (pss_cons (ps_set (i := 10) scSumR.nd rfl (Or.inl rfl) (pe_op op_add (pv 5) (pe_op op_mul (pe_ix ix_tup (pv 3) pe_int (fun _ _ => rfl)) (pe_call G1 (hr.mono (by decide)) (by rfl) m1 k1 b1 .nil pass0 (pa_cons (pv 0) (pa_cons (pe_op op_pow pe_int pe_int) pa_nil))))))
      (pss_cons (PSby (t' := tFar CT) (ps_if (PW.pt (pw_and (pt_cmpR op_ge (pv 5) (pe_ix ix_tup (pv 3) pe_int (fun _ _ => rfl)) (nomark _)) (pw_and1 (pt_cmpR (op_neD hu) (pe_callN (ks := ["most"]) G3 (hr.mono (by decide)) (by rfl) m3 k3 b3 pass0 (pa_cons (pv 4) (pa_cons (pv 2) (pa_cons (pv 10) pa_nil))) (pk_cons pe_int pk_nil)) (pv 7) (nomark _))))) (pss_one ps_never) pss_nil) ?wf)
      (pss_cons (ps_set (i := 11) scSumR.nd rfl (Or.inl rfl) (pe_call G1 (hr.mono (by decide)) (by rfl) m1 k1 b1 .nil pass0 (pa_cons (pv 0) (pa_cons (pe_callB call_len_seq (by rfl) B.len bLen (pa_cons (pv 1) pa_nil)) pa_nil))))
      (pss_cons (ps_set (i := 12) scSumR.nd rfl (Or.inl rfl) (pe_callN (ks := ["most"]) G4 hr (by rfl) m4 k4 b4 pass0 (pa_cons (pv 4) (pa_cons (pv 2) (pa_cons (pv 11) (pa_cons (pe_op op_sub (pv 5) pe_int) pa_nil)))) (pk_cons pe_int pk_nil)))
      (pss_one (ps_ret (pe_cmpR op_eq (pe_op op_sub (pe_callN (ks := ["most"]) G4 hr (by rfl) m4 k4 b4 pass0 (pa_cons (pv 4) (pa_cons (pv 2) (pa_cons (pv 11) (pa_cons (pv 5) pa_nil)))) (pk_cons pe_int pk_nil)) (pv 12))
        (pe_callTy call_int1 (by rfl) B.int bInt (pa_cons (pe_cmpR op_in_seq (pv 11) (pv 7) (by rfl)) pa_nil)) (nomark _))))))))))), ?_⟩
    case wf =>
      rintro D σ H' ⟨L', Lr', tp', x, lb, lw, c', one, two, d, k', st', p', rows', v9, rfl, hT, Tb', hc', h1, hp', htp', hlb, nx⟩
      refine ⟨_, rfl, _, rfl, tp', _, _, _, rfl, rfl, SqT.of htp', rfl, _, _, rfl, rfl, _, rfl, ?_⟩
      by_cases hge : (st' : Int) ≤ (one : Int)
      · refine iteD hge ⟨_, rfl, _, rfl, _, rfl, rfl, rfl, x, c', one + p' * d, 24, rows', k', st', p', rfl, hT, Tb', hc', by omega, by decide, by decide, hp', fun H9 lf s9 hlf hf => ?_⟩
        refine ⟨_, rfl, _, _, vI_dp hf, vI_dp (s9 _ _ hlb), shaped_lints _, shaped_lints _, _, rfl, ?_⟩
        rw [eqv_lists, decide_eq_true (congrArg toI (periodic_mul Tb' hc' (perOf_spec hp') one (by omega) d).symm)]
        exact iteF (nx H9 s9)
      · exact iteDF hge (iteF (nx H' (Same.refl _)))
    have Pr := perOf_spec hp
    have hk8 := Tb.le8
    -- Table(rows) and the two numbers
    refine ⟨_, rfl, fun x dx nx ndx nex => ?_⟩
    have s0 : Same H (upd (upd H dx (.own x)) x (.ins CT dx [])) := fun b o e => by
      rw [upd_ne (ne_of_none e nx), upd_ne (ne_of_none e ndx)]
      exact e
    refine ⟨x, dx, Lr, as, rows, k, rfl, upd_same, R.same s0, Tb, fun H1 hT kp => ⟨rfl, ?_⟩⟩
    have s1 : Same H H1 := fun b o e => kp b o (s0 b o e) (ne_of_none e nx)
    refine ⟨_, rfl, L, C, rfl, PoolAt.same s1 hP, fun one H2 h1 bt2 P2 => ?_⟩
    refine ⟨_, rfl, L, C, rfl, P2, fun two H3 h2 bt3 P3 => ?_⟩
    have bt13 := bt2.trans bt3
    have R3 := (R.same s1).pool bt13 (PoolAt.same s1 hP)
    have T3 := hT.pool bt13 (PoolAt.same s1 hP)
    have htp3 : H3 tp = some (.tup [.int st, .int p]) := by
      have z := s1 _ _ htp
      obtain ⟨a, b, d, ns, g1, g2, g3⟩ := PoolAt.same s1 hP
      exact bt13.keep _ _ (ne_of z g1 (by intro z; cases z)) z
    have btA : But L H H3 := (Same.but s1).trans bt13
    clear nx ndx nex
    refine ⟨_, _, _, rfl, ?_⟩
    refine ⟨_, rfl, _, rfl, _, rfl, rfl, rfl, x, c, one, 24, rows, k, st, p, rfl, T3, Tb, hc, h1, by decide, by decide, hp, fun H4 lb s4 _ hb4 => ?_⟩
    refine ⟨_, rfl, _, rfl, _, rfl, _, rfl, _, _, rfl, rfl, rfl, rfl, x, c, one + two, 24, rows, k, st, p, rfl, T3.same s4, Tb, hc, by omega, by decide, by decide, hp, fun H5 lw s5 _ hw5 => ?_⟩
    refine ⟨_, rfl, _, rfl, _, rfl, rfl, rfl, x, c, two, 24, rows, k, st, p, rfl, (T3.same s4).same s5, Tb, hc, h2, by decide, by decide, hp, fun H6 lo s6 _ ho6 => ?_⟩
    have s36 := s4.trans (s5.trans s6)
    have hb6 := s6 _ _ (s5 _ _ hb4)
    have hw6 := s6 _ _ hw5
    refine ⟨lo, rfl, ⟨_, SqL.of ho6⟩, for_list (K := K) (a := lo) (xs := vI (S rows c two)) (fun i σ H' => (∃ v9, σ = [some (.ref L), some (.ref Lr), some (.int c), some (.ref tp), some (.ref x), some (.int one), some (.int two), some (.ref lb), some (.ref lw), v9, none, none, none, none]) ∧ Same H6 H')
      ⟨⟨none, rfl⟩, Same.refl _⟩ (fun i σ H' _ ⟨_, sm⟩ => SqL.of (sm _ _ ho6)) ?_ ?_⟩
    · rintro i y σ H' hy ⟨⟨v9, rfl⟩, sm⟩
      obtain ⟨b, hb, rfl⟩ := vI_of hy
      have hbS := List.mem_of_getElem? hb
      have hbk := S_lt Tb hc hbS
      refine ⟨_, rfl, lb, rfl, ⟨_, SqL.of (sm _ _ hb6)⟩, fun D hD => ?_⟩
      refine lc_list (K := K) (a := lb) (xs := vI (S rows c one)) (fun j H'' => Same H' H'' ∧ H'' D = some (.lst [])) ⟨same_upd hD, upd_same⟩ (fun j H'' _ ⟨sm2, _⟩ => SqL.of (sm2 _ _ (sm _ _ hb6))) ?_ ?_
      · rintro j z H'' hz ⟨sm2, hDs⟩
        obtain ⟨a, ha, rfl⟩ := vI_of hz
        have haS := List.mem_of_getElem? ha
        have hak := S_lt Tb hc haS
        have sA := s36.trans (sm.trans sm2)
        obtain ⟨pr, r, g1, g2, g3⟩ := (R3.same sA).cell Tb hak hbk
        refine ⟨rfl, ?_⟩
        refine ⟨_, rfl, _, rfl, Lr, _, _, _, rfl, rfl, SqL.of (R3.same sA).top, g1, _, rfl, pr, _, _, _, rfl, rfl, SqL.of g2, g3, _, rfl, lw, vI (S rows c (one + two)), rfl, .inl (SqL.of (sm2 _ _ (sm _ _ hw6))), rfl, flat_vI _, _, rfl, ?_⟩
        have hin : (S rows c (one + two)).contains (cell rows a b) = true := by
          rw [List.contains_iff_mem, mem_S Tb hc]
          exact .mul ((mem_S Tb hc).1 haS) ((mem_S Tb hc).1 hbS)
        show if (!inV (.int (cell rows a b : Int)) (vI (S rows c (one + two)))) = true then _ else _
        rw [in_vI, hin]
        exact iteF ⟨sm2, hDs⟩
      · rintro H'' ⟨sm2, hDs⟩
        refine ⟨Nat.zero_le _, fun D2 hD2 => ?_⟩
        have s3 := same_upd (o := .lst []) hD2
        refine ⟨.list (([] : List Int).map PyData.int), .list (([] : List Int).map PyData.int), .lst (SqL.of (s3 _ _ hDs)) .nil, .lst (SqL.of upd_same) .nil, shaped_lints [], shaped_lints [], _, rfl, ?_⟩
        rw [eqv_lists, decide_eq_true rfl]
        exact iteF ⟨⟨_, rfl⟩, sm.trans (sm2.trans s3)⟩
    · rintro σ H7 ⟨⟨v9, rfl⟩, s7⟩
      have s37 := s36.trans s7
      have P7 := PoolAt.same s37 P3
      have htp7 := s37 _ _ htp3
      refine ⟨_, rfl, _, rfl, tp, _, _, _, rfl, rfl, SqT.of htp7, rfl, _, rfl, _, _, rfl, rfl, ⟨by decide, by decide, by decide⟩, L, C, 1000000000, rfl, by decide, by decide, P7, fun H8 d hd bt8 P8 => ⟨_, _, rfl, rfl, .inr ⟨by omega, by omega⟩, _, _, rfl, rfl, ?_⟩⟩
      have T8 := (T3.same s37).pool bt8 P7
      have R8 := (R3.same s37).pool bt8 P7
      have hb8 := ints_pool bt8 P7 (s7 _ _ hb6)
      have htp8 : H8 tp = some (.tup [.int st, .int p]) := by
        obtain ⟨a, b, d, ns, g1, g2, g3⟩ := id P7
        exact bt8.keep _ _ (ne_of htp7 g1 (by intro z; cases z)) htp7
      refine ⟨L, Lr, tp, x, lb, lw, c, one, two, d, k, st, p, rows, v9, rfl, T8, Tb, hc, h1, hp, htp8, hb8, fun H9 s9 => ?_⟩
      have hl : (as.map V.ref).length = k := by rw [List.length_map, R.len, Tb.len]
      refine ⟨_, rfl, _, rfl, Lr, _, rfl, .inl (SqL.of (R8.same s9).top), ?_⟩
      rw [hl]
      have P9 := PoolAt.same s9 P8
      refine ⟨L, C, k, rfl, Tb.pos, by omega, P9, fun H10 wn hwn bt10 P10 => ?_⟩
      have T10 := (T8.same s9).pool bt10 P9
      have hb10 := ints_pool bt10 P9 (s9 _ _ hb8)
      have e1 : (one : Int) - 1 = ((one - 1 : Nat) : Int) := by omega
      refine ⟨_, rfl, _, rfl, _, rfl, _, rfl, _, _, rfl, rfl, rfl, rfl, x, c, wn, one - 1, 24, rows, k, st, p, (by rw [← e1]; rfl), T10, Tb, hc, hwn, by decide, by decide, hp, fun H11 s11 => ?_⟩
      refine ⟨_, rfl, _, rfl, _, rfl, _, rfl, rfl, rfl, x, c, wn, one, 24, rows, k, st, p, rfl, T10.same s11, Tb, hc, hwn, by decide, by decide, hp, fun H12 s12 => ?_⟩
      refine ⟨_, rfl, _, _, rfl, rfl, _, rfl, _, rfl, lb, vI (S rows c one), rfl, .inl (SqL.of (s12 _ _ (s11 _ _ hb10))), rfl, flat_vI _, .inr ⟨_, rfl, rfl, ?_⟩⟩
      have fin := q H12 (((btA.trans (Same.but s37)).trans (bt8.trans (Same.but s9))).trans (bt10.trans (Same.but (s11.trans s12)))) (PoolAt.same (s11.trans s12) P10)
      refine dq (Q := Q) ?_ fin
      show V.int (((cntL st p one (lead (S rows c) st p wn) : Nat) : Int) - ((cntL st p (one - 1) (lead (S rows c) st p wn) : Nat) : Int)) = V.int (if inV (.int (wn : Int)) (vI (S rows c one)) = true then 1 else 0)
      rw [in_vI]
      obtain ⟨h, rfl⟩ : ∃ h, one = h + 1 := ⟨one - 1, by omega⟩
      have e2 := cnt_step (x := wn) (h := h) Tb hc Pr
      rw [show h + 1 - 1 = h by omega, e2]
      congr 1
      by_cases hm : wn ∈ S rows c (h + 1)
      · rw [if_pos hm, if_pos (List.contains_iff_mem.mpr hm)]
        omega
      · rw [if_neg hm, if_neg fun z => hm (List.contains_iff_mem.mp z)]
        omega
end
end BjP
/-! Beanjars: the law. -/
namespace BjP
open PySem L2 Bj BjR
section
variable {P : Program} {w : World} {K : PySem.W.Frag} {mg : PySem.Str → Option Value} {base : Heap}
def spLaw (K : PySem.W.Frag) : Sp := fun vs H Q _ => ∃ (a : Addr) (ns : List Int), vs = [.ref a] ∧ SqL K H a (ns.map V.int) ∧ ns.length ≤ 63 ∧ ∀ H', Q (.bl true) H'
theorem scLaw : FnScope ["_law_script", "_law_pool_here", "_law_size", "_law_rows", "_law_colour", "_law_told", "_law_counts", "_law_known"] ["_law_script"] (defScope sLaw) := ⟨rfl, rfl, rfl, by decide +kernel, rfl, by decide +kernel, by decide +kernel⟩
theorem RowsAt.len_pool {H : Hp} {Lr : Addr} {as : List Addr} {rows : List (List Nat)} {k : Nat} (R : RowsAt H Lr as rows) (T : Tab k rows) : (as.map V.ref).length = k := by rw [List.length_map, R.len, T.len]
theorem tup_pool {H H' : Hp} {L C t : Addr} {xs : List V} (bt : But L H H') (p : PoolAt H L C) (h : H t = some (.tup xs)) : H' t = some (.tup xs) := by
  obtain ⟨a, b, d, ns, g1, g2, g3⟩ := p
  exact bt.keep _ _ (ne_of h g1 (by intro z; cases z)) h
/-- what stood before z was laid stays where z is written -/
theorem RowsAt.off {H H' : Hp} {Lr z : Addr} {as : List Addr} {rows : List (List Nat)} {o : HO} (R : RowsAt H Lr as rows) (hz : H z = none) (R' : RowsAt H' Lr as rows) : RowsAt (L2.upd H' z o) Lr as rows :=
  ⟨by rw [upd_ne (ne_of_none R.top hz)]; exact R'.top, R'.len, fun i a r h1 h2 => by rw [upd_ne (ne_of_none (R.row i a r h1 h2) hz)]; exact R'.row i a r h1 h2⟩
theorem PoolAt.off {H H' : Hp} {L C z : Addr} {o : HO} (p : PoolAt H L C) (hz : H z = none) (p' : PoolAt H' L C) : PoolAt (L2.upd H' z o) L C := by
  obtain ⟨a, b, d, ns, g1, g2, g3⟩ := p
  obtain ⟨a', b', d', ns', h1, h2, h3⟩ := p'
  exact ⟨a', b', d', ns', by rw [upd_ne (ne_of_none g1 hz)]; exact h1, by rw [upd_ne (ne_of_none g2 hz)]; exact h2, h3⟩
theorem ok_law {f CT fI : Addr} {fd fdI : FuncData} (B : Blt mg) (mT : mg "Table" = some (.ref CT)) (M : Mk K CT fI) (bI : Binds K fdI ["self", "rows"] []) (GI : FnOk P w K mg base CX0 4 fI fdI ["self", "rows"] (spTabInit CT))
    (D0 : DefOk P w K mg base CX0 1 "_law_pool" ["_law_script"] (spPool K)) (D1 : DefOk P w K mg base CX0 1 "_law_draw" ["_law_pool_here", "_law_many"] spDraw) (D2 : DefOk P w K mg base CX0 3 "_law_drawn_rows" ["_law_pool_here", "_law_size"] spSome)
    (D3 : DefOk P w K mg base CX0 7 "_law_repeated" ["_law_table", "_law_colour"] (spRep CT)) (D4 : DefKw P w K mg base CX0 6 "beans_of_many" ["table", "colour", "count", "most"] 3 "most" (spBeans CT))
    (D5 : DefOk P w K mg base CX0 3 "_law_end" ["_law_pool_here", "_law_rows", "_law_counts"] spEnd) (D6 : DefOk P w K mg base CX0 8 "_law_sum_right" ["_law_pool_here", "_law_rows", "_law_colour", "_law_told"] spSumR)
    (F : Fun K "law" "law" sLaw f fd) : FnOk P w K mg base CX0 9 f fd ["_law_script"] (spLaw K) := by
  obtain ⟨f0, fd0, m0, k0, b0, G0⟩ := D0.ex
  obtain ⟨f1, fd1, m1, k1, b1, G1⟩ := D1.ex
  obtain ⟨f2, fd2, m2, k2, b2, G2⟩ := D2.ex
  obtain ⟨f3, fd3, m3, k3, b3, G3⟩ := D3.ex
  obtain ⟨f4, fd4, m4, k4, b4, G4⟩ := D4.ex
  obtain ⟨f5, fd5, m5, k5, b5, G5⟩ := D5.ex
  obtain ⟨f6, fd6, m6, k6, b6, G6⟩ := D6.ex
  refine F.ok scLaw (fun vs H Q E h => ?_) (fun cdv A outer s H vs Q E hr h => ?_)
  · obtain ⟨a, ns, rfl, _⟩ := h
    rfl
  · obtain ⟨a, ns, rfl, hS, hn, q⟩ := h
    refine ⟨_, pss_cons (ps_set (i := 1) scLaw.nd rfl (Or.inl rfl) (pe_call G0 (hr.mono (by decide)) (by rfl) m0 k0 b0 .nil pass0 (pa_cons (pv 0) pa_nil)))
      (pss_cons (ps_set (i := 2) scLaw.nd rfl (Or.inl rfl) (pe_op op_add pe_int (pe_call G1 (hr.mono (by decide)) (by rfl) m1 k1 b1 .nil pass0 (pa_cons (pv 1) (pa_cons pe_int pa_nil)))))
      (pss_cons (ps_par (i := 3) (j := 4) rfl scLaw.nd rfl rfl (by decide) rfl rfl (pa_cons (pe_call G2 (hr.mono (by decide)) (by rfl) m2 k2 b2 .nil pass0 (pa_cons (pv 1) (pa_cons (pv 2) pa_nil)))
          (pa_cons (pe_call G1 (hr.mono (by decide)) (by rfl) m1 k1 b1 .nil pass0 (pa_cons (pv 1) (pa_cons (pv 2) pa_nil))) pa_nil)) rfl)
      (pss_cons (ps_set (i := 5) scLaw.nd rfl (Or.inl rfl) (pe_call G3 (hr.mono (by decide)) (by rfl) m3 k3 b3 .nil pass0 (pa_cons (pe_make M GI (hr.mono (by decide)) rfl mT bI .nil pass0 (pa_cons (pv 3) pa_nil)) (pa_cons (pv 4) pa_nil))))
      (pss_cons (ps_if (pt_cmp (pc_isN (pv 5))) (pss_one (ps_ret pe_bl)) pss_nil)
      (pss_cons (ps_set (i := 6) scLaw.nd rfl (Or.inl rfl) (pe_op op_rep (pe_lst (pa_cons pe_int pa_nil)) (pv 2)))
      (pss_cons (ps_asg (pe_op op_add pe_int (pe_call G1 (hr.mono (by decide)) (by rfl) m1 k1 b1 .nil pass0 (pa_cons (pv 1) (pa_cons pe_int pa_nil)))) (pg_sub (pv 6) (pv 4) set_list))
      (pss_cons (ps_set (i := 7) scLaw.nd rfl (Or.inl rfl) (pe_callN (ks := ["most"]) G4 (hr.mono (by decide)) (by rfl) m4 k4 b4 pass0 (pa_cons (pe_make M GI (hr.mono (by decide)) rfl mT bI .nil pass0 (pa_cons (pv 3) pa_nil)) (pa_cons (pv 4) (pa_cons (pe_ix ix_list (pv 6) (pv 4) (fun _ _ => rfl)) pa_nil))) (pk_cons pe_int pk_nil)))
      (pss_cons (ps_if (pt_cmpR op_notIn_seq (pe_call G5 (hr.mono (by decide)) (by rfl) m5 k5 b5 .nil pass0 (pa_cons (pv 1) (pa_cons (pv 3) (pa_cons (pv 6) pa_nil)))) (pv 7) (by rfl)) (pss_one ps_never) pss_nil)
      (pss_one (ps_ret (pe_and (pe_call G6 hr (by rfl) m6 k6 b6 .nil pass0 (pa_cons (pv 1) (pa_cons (pv 3) (pa_cons (pv 4) (pa_cons (pv 5) pa_nil)))))
        (pe_one (pe_call G6 hr (by rfl) m6 k6 b6 .nil pass0 (pa_cons (pv 1) (pa_cons (pv 3) (pa_cons (pv 4) (pa_cons (pv 5) pa_nil))))))))))))))))), ?_⟩
    refine ⟨_, rfl, a, ns, rfl, hS, hn, fun H1 L C s1 P1 => ?_⟩
    refine ⟨_, rfl, L, C, 8, rfl, by decide, by decide, P1, fun H2 sz hsz bt2 P2 => ⟨_, _, rfl, rfl, ?_⟩⟩
    have ek : (1 : Int) + (sz : Int) = ((sz + 1 : Nat) : Int) := by omega
    have hk1 : 1 ≤ sz + 1 := by omega
    have hk8 : sz + 1 ≤ 8 := by omega
    refine ⟨_, rfl, _, rfl, L, C, sz + 1, (by rw [← ek]; rfl), hk1, hk8, P2, fun H3 Lr as rows S3 Tb => ?_⟩
    refine ⟨_, rfl, _, rfl, L, C, sz + 1, (by rw [← ek]; rfl), hk1, by omega, S3.pool, fun H4 c hc bt4 P4 => ⟨_, _, rfl, ?_⟩⟩
    have S4 := S3.move bt4 P4
    have R4 := S4.at_
    clear S3 S4
    generalize hk : sz + 1 = k at *
    -- Table(rows)
    refine ⟨_, rfl, fun x dx nx ndx nex => ?_⟩
    have s0 : Same H4 (upd (upd H4 dx (.own x)) x (.ins CT dx [])) := fun b o e => by
      rw [upd_ne (ne_of_none e nx), upd_ne (ne_of_none e ndx)]
      exact e
    refine ⟨x, dx, Lr, as, rows, k, rfl, upd_same, R4.same s0, Tb, fun H5 hT kp => ⟨rfl, ?_⟩⟩
    have s5 : Same H4 H5 := fun b o e => kp b o (s0 b o e) (ne_of_none e nx)
    clear nx ndx nex kp
    refine ⟨_, rfl, x, c, rows, k, rfl, hT, Tb, hc, fun hp H6 s6 => ?_, fun st p hp H6 tp s6 htp => ?_⟩
    · exact ⟨_, rfl, true, rfl, iteT (q _)⟩
    refine ⟨_, rfl, false, rfl, iteF ?_⟩
    have s46 := s5.trans s6
    have P6 := PoolAt.same s46 P4
    have R6 := R4.same s46
    clear R4 hT
    have ek2 : (1 : Int) + (sz : Int) = (k : Int) := by omega
    refine ⟨by show 1 ≤ sizeLine; decide, fun z0 hz0 => ⟨_, rfl, z0, (1 : Int) + (sz : Int), _, rfl, rfl, upd_same, by omega, by omega, ?_, fun z hz => ?_⟩⟩
    · show 1 * ((1 : Int) + (sz : Int)).toNat ≤ sizeLine
      rw [ek2, Int.toNat_natCast, Nat.one_mul]
      exact Nat.le_trans hk8 (by decide)
    have hz7 : (upd (upd H6 z0 (.lst [.int 0])) z (.lst (List.replicate ((1 : Int) + (sz : Int)).toNat [V.int 0]).flatten)) z = some (.lst (vI (List.replicate k 0))) := by rw [upd_same, ek2, vI_zero]
    have s67 := (same_upd (o := .lst [.int 0]) hz0).trans (same_upd (o := .lst (List.replicate ((1 : Int) + (sz : Int)).toNat [V.int 0]).flatten) hz)
    have hz6 : H6 z = none := (same_upd hz0).free hz
    have P7 := PoolAt.same s67 P6
    have R7 := R6.same s67
    have htp7 := s67 _ _ htp
    refine ⟨_, rfl, L, C, 40, rfl, by decide, by decide, P7, fun H8 v hv bt8 P8 => ?_⟩
    have hz8 := ints_pool bt8 P7 hz7
    have R8 := R7.pool bt8 P7
    have htp8 := tup_pool bt8 P7 htp7
    refine ⟨_, _, rfl, rfl, _, rfl, _, rfl, z, _, _, c, rfl, rfl, hz8, ixN_nat (by rw [vI_len, List.length_replicate]; exact hc), ?_⟩
    have hz9 : (upd H8 z (.lst ((vI (List.replicate k 0)).set c (.int ((1 : Int) + (v : Int)))))) z = some (.lst (vI ((List.replicate k 0).set c (1 + v)))) := by
      rw [upd_same, ← vI_set, show ((1 + v : Nat) : Int) = (1 : Int) + (v : Int) by omega]
    have R9 := RowsAt.off (o := .lst ((vI (List.replicate k 0)).set c (.int ((1 : Int) + (v : Int))))) R6 hz6 R8
    have P9 := PoolAt.off (o := .lst ((vI (List.replicate k 0)).set c (.int ((1 : Int) + (v : Int))))) P6 hz6 P8
    have htp9 : (upd H8 z (.lst ((vI (List.replicate k 0)).set c (.int ((1 : Int) + (v : Int)))))) tp = some (.tup [.int st, .int p]) := by rw [upd_ne (ne_of_none htp hz6)]; exact htp8
    have hlen : ((List.replicate k 0).set c (1 + v)).length = k := by rw [List.length_set, List.length_replicate]
    have hget : ((List.replicate k 0).set c (1 + v))[c]? = some (1 + v) := by rw [List.getElem?_set, if_pos rfl, if_pos (by rw [List.length_replicate]; exact hc)]
    have hsum : 1 ≤ ((List.replicate k 0).set c (1 + v)).sum := by
      have e := sum_put (l := List.replicate k 0) (i := c) (v := 1 + v) (by simpa using hc)
      have e1 : (List.replicate k 0).getD c 0 = 0 := by simp [hc]
      omega
    have hreal : Real (cell rows) c (1 + v) ((List.replicate k 0).set c (1 + v)) := Real.start hc
    -- the beans of that many
    refine ⟨_, rfl, fun x2 dx2 nx ndx nex => ?_⟩
    have s0 : Same (upd H8 z (.lst ((vI (List.replicate k 0)).set c (.int ((1 : Int) + (v : Int)))))) (upd (upd (upd H8 z (.lst ((vI (List.replicate k 0)).set c (.int ((1 : Int) + (v : Int)))))) dx2 (.own x2)) x2 (.ins CT dx2 [])) := fun b o e => by
      rw [upd_ne (ne_of_none e nx), upd_ne (ne_of_none e ndx)]
      exact e
    refine ⟨x2, dx2, Lr, as, rows, k, rfl, upd_same, R9.same s0, Tb, fun H10 hT kp => ⟨rfl, ?_⟩⟩
    have s10 : Same (upd H8 z (.lst ((vI (List.replicate k 0)).set c (.int ((1 : Int) + (v : Int)))))) H10 := fun b o e => kp b o (s0 b o e) (ne_of_none e nx)
    have hz10 := s10 _ _ hz9
    refine ⟨_, rfl, _, rfl, _, rfl, z, _, _, _, rfl, rfl, SqL.of hz10, atI_nat (vI_get hget), rfl, rfl, x2, c, 1 + v, 24, rows, k, st, p, rfl, hT, Tb, hc, by omega, by decide, by decide, hp, fun H11 lb s11 _ hb => ?_⟩
    have s911 := s10.trans s11
    have P11 := PoolAt.same s911 P9
    have R11 := R9.same s911
    have htp11 := s911 _ _ htp9
    refine ⟨_, rfl, _, rfl, _, rfl, L, C, Lr, z, as, rows, _, k, c, 1 + v, rfl, P11, R11, Tb, s11 _ _ hz10, hlen, hsum, hreal, fun xx H12 hxx hPo bt12 P12 => ?_⟩
    have hb12 := ints_pool bt12 P11 hb
    have R12 := R11.pool bt12 P11
    have htp12 := tup_pool bt12 P11 htp11
    refine ⟨_, rfl, lb, vI (S rows c (1 + v)), rfl, .inl (SqL.of hb12), rfl, flat_vI _, _, rfl, ?_⟩
    have hin : (S rows c (1 + v)).contains xx = true := by
      rw [List.contains_iff_mem, mem_S Tb hc]
      exact hPo
    show if (!inV (.int (xx : Int)) (vI (S rows c (1 + v)))) = true then _ else _
    rw [in_vI, hin]
    refine iteF ?_
    refine ⟨_, rfl, _, rfl, _, rfl, _, rfl, L, C, Lr, tp, c, as, rows, k, st, p, rfl, P12, R12, Tb, hc, hp, htp12, fun H13 bt13 P13 => ⟨true, rfl, iteT ?_⟩⟩
    exact ⟨_, rfl, _, rfl, _, rfl, _, rfl, L, C, Lr, tp, c, as, rows, k, st, p, rfl, P13, R12.pool bt13 P12, Tb, hc, hp, tup_pool bt13 P12 htp12, fun H14 _ _ => q H14⟩
end
end BjP
/-! Beanjars: the defs together. -/
namespace BjP
open PySem L2 Bj BjR
/-- a def of the top -/
structure Top (K : PySem.W.Frag) (mg : PySem.Str → Option Value) (x : PySem.Str) (st : Stmt) : Prop where
  ex : ∃ f fd, mg x = some (.ref f) ∧ Fun K x x st f fd
/-- a method of the class at C -/
structure Cm (K : PySem.W.Frag) (C : Addr) (m q : PySem.Str) (st : Stmt) : Prop where
  ex : ∃ f fd, Meth K C m f ∧ Fun K m q st f fd
section
variable {K : PySem.W.Frag} {h : Heap} {mg : PySem.Str → Option Value} {x m q : PySem.Str} {st : Stmt} {f C : Addr} {oc : Value} {od an : Option Addr} {osl : Array (Option Value)} {kV doc pm cdv ct : Value}
theorem top_mk (X : K.In h) (G : h.Ns mainGlobals mg) (ha : PySem.W.nsIn K mainGlobals x = some (some (.ref f))) (hl : K.lookup f = some ⟨oc, od, .func (PySem.W.fnOf x x (defArgs st) (defBody st) (defScope st) .none kV doc pm an cdv ct), osl⟩)
    (hc : PySem.W.codeIn K cdv x = true) (hk : PySem.W.keepIn K (.ref f) = true) : Top K mg x st := ⟨f, _, PySem.W.mg_of X G ha, fun_mk hl hc hk⟩
theorem cm_mk (ha : PySem.W.findIn K (.ref C) m = some (some (.ref f))) (hi : PySem.W.isFn K (.ref f) = true) (hl : K.lookup f = some ⟨oc, od, .func (PySem.W.fnOf m q (defArgs st) (defBody st) (defScope st) .none kV doc pm an cdv ct), osl⟩)
    (hc : PySem.W.codeIn K cdv q = true) (hk : PySem.W.keepIn K (.ref f) = true) : Cm K C m q st := ⟨f, _, ⟨ha, hi, hk⟩, fun_mk hl hc hk⟩
end
section
variable {P : Program} {w : World} {K : PySem.W.Frag} {mg : PySem.Str → Option Value} {base : Heap}
theorem kb_period {f : Addr} {fd : FuncData} (F : Fun K "period" "period" sPeriod f fd) : KBn K fd ["table", "colour", "most"] 2 ["most"] (fun us ws => us ++ ws) (fun vs zs => vs ++ zs) := by
  obtain ⟨oc, od, kV, doc, pm, an, cdv, ct, osl, rfl, lk, hcd⟩ := F.ex
  refine ⟨fun s us ws _ h1 h2 => ?_, fun a b => a.append b⟩
  match us, ws, h1, h2 with
  | [_, _], [_], _, _ => exact .of_eq rfl
theorem kb_beans {f : Addr} {fd : FuncData} (F : Fun K "beans_of_many" "beans_of_many" sBeans f fd) : KBn K fd ["table", "colour", "count", "most"] 3 ["most"] (fun us ws => us ++ ws) (fun vs zs => vs ++ zs) := by
  obtain ⟨oc, od, kV, doc, pm, an, cdv, ct, osl, rfl, lk, hcd⟩ := F.ex
  refine ⟨fun s us ws _ h1 h2 => ?_, fun a b => a.append b⟩
  match us, ws, h1, h2 with
  | [_, _, _], [_], _, _ => exact .of_eq rfl
theorem kb_cLead {f : Addr} {fd : FuncData} (F : Fun K "count_leading" "count_leading" sCLead f fd) : KBn K fd ["table", "colour", "wanted", "high", "most"] 4 ["most"] (fun us ws => us ++ ws) (fun vs zs => vs ++ zs) := by
  obtain ⟨oc, od, kV, doc, pm, an, cdv, ct, osl, rfl, lk, hcd⟩ := F.ex
  refine ⟨fun s us ws _ h1 h2 => ?_, fun a b => a.append b⟩
  match us, ws, h1, h2 with
  | [_, _, _, _], [_], _, _ => exact .of_eq rfl
end
end BjP
/-! Beanjars: all the defs. -/
namespace BjP
open PySem L2 Bj BjR
theorem init_OE (K : PySem.W.Frag) : PySem.W.findCls K (.type "OverflowError") (.type "type") "__init__" = some (.val (.builtin "OverflowError.__init__")) := by kernel_rfl
/-- what the module holds -/
structure Held (K : PySem.W.Frag) (mg : PySem.Str → Option Value) (CT CP CL g1 g2 : Addr) : Prop where
  B : Blt mg
  m8 : ∃ t, mg "MAX_COLOURS" = some (.int 8 t)
  m100 : ∃ t, mg "MAX_MOST" = some (.int 100 t)
  mT : mg "Table" = some (.ref CT)
  TT : TabTxt K CT
  mkT : PySem.W.makesIn K CT = true
  kT : PySem.W.keepIn K (.ref CT) = true
  tI : Cm K CT "__init__" "Table.__init__" sTabInit
  tR : Cm K CT "rows" "Table.rows" sTabRows
  tV : Cm K CT "validate_colour" "Table.validate_colour" sTabVal
  PS : PropOf K CT "size" g1 g2
  tS : ∃ fd, Fun K "size" "Table.size" sTabSize g2 fd
  mP : mg "SetProducts" = some (.ref CP)
  PT : ProTxt K CP
  mkP : PySem.W.makesIn K CP = true
  kP : PySem.W.keepIn K (.ref CP) = true
  pI : Cm K CP "__init__" "SetProducts.__init__" sProInit
  pP : Cm K CP "product" "SetProducts.product" sProProd
  pU : Cm K CP "union" "SetProducts.union" sProUnion
  lim : ∃ fI fd, LimTxt K mg CL fI ∧ Fun K "__init__" "LimitExceeded.__init__" sLimInit fI fd
  te : PySem.W.exmOne K (.ref CL) (.ref CL) = some true
  t_is_integer : Top K mg "is_integer" sIsInt
  t_is_colour : Top K mg "is_colour" sIsCol
  t_has_shape : Top K mg "has_shape" sShape
  t_places : Top K mg "places" sPlaces
  t_first_wrong_place : Top K mg "first_wrong_place" sWrong
  t_validate_between : Top K mg "validate_between" sBetween
  t_first_sets : Top K mg "first_sets" sFirst
  t_start_of : Top K mg "start_of" sStart
  t_find_period : Top K mg "find_period" sFindP
  t_find_sets : Top K mg "find_sets" sFindS
  t_validate_count : Top K mg "validate_count" sCount
  t_reduced : Top K mg "reduced" sReduced
  t_period : Top K mg "period" sPeriod
  t_beans_of_many : Top K mg "beans_of_many" sBeans
  t_leading_counts : Top K mg "leading_counts" sLead
  t_count_leading : Top K mg "count_leading" sCLead
  t__law_pool : Top K mg "_law_pool" sPool
  t__law_draw : Top K mg "_law_draw" sDraw
  t__law_some_rows : Top K mg "_law_some_rows" sSome
  t__law_drawn_rows : Top K mg "_law_drawn_rows" sDrawn
  t__law_after : Top K mg "_law_after" sAfter
  t__law_choices : Top K mg "_law_choices" sChoices
  t__law_end : Top K mg "_law_end" sEnd
  t__law_repeated : Top K mg "_law_repeated" sRepeated
  t__law_number : Top K mg "_law_number" sNumber
  t__law_sum_right : Top K mg "_law_sum_right" sSumR
theorem all_ok {P : Program} {w : World} {K : PySem.W.Frag} {mg : PySem.Str → Option Value} {CT CP CL g1 g2 f : Addr} {fd : FuncData} (Z : Held K mg CT CP CL g1 g2) (F9 : Fun K "law" "law" sLaw f fd) (base : Heap) : FnOk P w K mg base CX0 9 f fd ["_law_script"] (spLaw K) := by
  have B := Z.B
  have m8 := Z.m8
  have m100 := Z.m100
  have mT := Z.mT
  have TT := Z.TT
  have mP := Z.mP
  have PT := Z.PT
  have te := Z.te
  have D_is_integer : DefOk P w K mg base CX0 1 "is_integer" ["value"] spIsInt := by
    obtain ⟨f, fd, m, F⟩ := Z.t_is_integer.ex
    exact ⟨f, fd, m, F.kp, F.binds fun _ _ _ _ _ _ us hl => (match us, hl with | [_], _ => rfl), ok_isInt B F⟩
  have D_is_colour : DefOk P w K mg base CX0 2 "is_colour" ["size", "value"] spIsCol := by
    obtain ⟨f, fd, m, F⟩ := Z.t_is_colour.ex
    exact ⟨f, fd, m, F.kp, F.binds fun _ _ _ _ _ _ us hl => (match us, hl with | [_, _], _ => rfl), ok_isCol D_is_integer F⟩
  have D_has_shape : DefOk P w K mg base CX0 1 "has_shape" ["rows"] (spShape K) := by
    obtain ⟨f, fd, m, F⟩ := Z.t_has_shape.ex
    exact ⟨f, fd, m, F.kp, F.binds fun _ _ _ _ _ _ us hl => (match us, hl with | [_], _ => rfl), ok_shape B m8 F⟩
  have D_places : DefOk P w K mg base CX0 1 "places" ["size"] spPlaces := by
    obtain ⟨f, fd, m, F⟩ := Z.t_places.ex
    exact ⟨f, fd, m, F.kp, F.binds fun _ _ _ _ _ _ us hl => (match us, hl with | [_], _ => rfl), ok_places B F⟩
  have D_first_wrong_place : DefOk P w K mg base CX0 3 "first_wrong_place" ["rows"] spWrong := by
    obtain ⟨f, fd, m, F⟩ := Z.t_first_wrong_place.ex
    exact ⟨f, fd, m, F.kp, F.binds fun _ _ _ _ _ _ us hl => (match us, hl with | [_], _ => rfl), ok_wrong B D_is_colour D_places F⟩
  obtain ⟨fT, fdT, meT, FT⟩ := Z.tI.ex
  have MT : Mk K CT fT := ⟨Z.mkT, meT.at_, meT.fn, Z.kT⟩
  have bTI : Binds K fdT ["self", "rows"] [] := FT.binds fun _ _ _ _ _ _ us hl => (match us, hl with | [_, _], _ => rfl)
  have GTI : FnOk P w K mg base CX0 4 fT fdT ["self", "rows"] (spTabInit CT) := ok_tabInit B TT D_has_shape D_first_wrong_place FT
  obtain ⟨fdS, FS⟩ := Z.tS
  have bS : Binds K fdS ["self"] [] := FS.binds fun _ _ _ _ _ _ us hl => (match us, hl with | [_], _ => rfl)
  have GS : FnOk P w K mg base CX0 1 g2 fdS ["self"] (spSize CT) := ok_size B TT FS
  have M_rows : MethOk P w K mg base CX0 CT 1 "rows" ["self"] (spRows CT) := by
    obtain ⟨f, fd, m, F⟩ := Z.tR.ex
    exact ⟨f, fd, m, F.binds fun _ _ _ _ _ _ us hl => (match us, hl with | [_], _ => rfl), ok_rows B TT F⟩
  have M_val : MethOk P w K mg base CX0 CT 3 "validate_colour" ["self", "value"] (spVal CT) := by
    obtain ⟨f, fd, m, F⟩ := Z.tV.ex
    exact ⟨f, fd, m, F.binds fun _ _ _ _ _ _ us hl => (match us, hl with | [_, _], _ => rfl), ok_val TT D_is_colour Z.PS bS GS F⟩
  obtain ⟨fP, fdP, meP, FP⟩ := Z.pI.ex
  have MP : Mk K CP fP := ⟨Z.mkP, meP.at_, meP.fn, Z.kP⟩
  have bPI : Binds K fdP ["self", "table"] [] := FP.binds fun _ _ _ _ _ _ us hl => (match us, hl with | [_, _], _ => rfl)
  have GPI : FnOk P w K mg base CX0 2 fP fdP ["self", "table"] (spProInit P w CT CP) := ok_proInit TT PT M_rows FP
  have M_product : MethOk P w K mg base CX0 CP 1 "product" ["self", "first", "second"] (spProduct P w CP) := by
    obtain ⟨f, fd, m, F⟩ := Z.pP.ex
    exact ⟨f, fd, m, F.binds fun _ _ _ _ _ _ us hl => (match us, hl with | [_, _, _], _ => rfl), ok_product B PT F⟩
  have M_union : MethOk P w K mg base CX0 CP 2 "union" ["self", "pairs"] (spUnion P w CP) := by
    obtain ⟨f, fd, m, F⟩ := Z.pU.ex
    exact ⟨f, fd, m, F.binds fun _ _ _ _ _ _ us hl => (match us, hl with | [_, _], _ => rfl), ok_union B PT M_product F⟩
  obtain ⟨fL, fdL, LT, FL⟩ := Z.lim
  have bL : Binds K fdL ["self", "limit"] [] := FL.binds fun _ _ _ _ _ _ us hl => (match us, hl with | [_, _], _ => rfl)
  have GL : FnOk P w K mg base CX0 1 fL fdL ["self", "limit"] (spLim CL) := ok_lim LT FL
  have D_validate_between : DefOk P w K mg base CX0 2 "validate_between" ["value", "low", "high"] spBetween := by
    obtain ⟨f, fd, m, F⟩ := Z.t_validate_between.ex
    exact ⟨f, fd, m, F.kp, F.binds fun _ _ _ _ _ _ us hl => (match us, hl with | [_, _, _], _ => rfl), ok_between D_is_integer F⟩
  have D_first_sets : DefOk P w K mg base CX0 4 "first_sets" ["table", "colour", "many"] (spFirst CT) := by
    obtain ⟨f, fd, m, F⟩ := Z.t_first_sets.ex
    exact ⟨f, fd, m, F.kp, F.binds fun _ _ _ _ _ _ us hl => (match us, hl with | [_, _, _], _ => rfl), ok_first B PT mP MP bPI GPI M_union F⟩
  have D_start_of : DefOk P w K mg base CX0 1 "start_of" ["found", "length"] spStart := by
    obtain ⟨f, fd, m, F⟩ := Z.t_start_of.ex
    exact ⟨f, fd, m, F.kp, F.binds fun _ _ _ _ _ _ us hl => (match us, hl with | [_, _], _ => rfl), ok_start B F⟩
  have D_find_period : DefOk P w K mg base (L2.CX P w) 3 "find_period" ["found", "most"] (spFindP CL) := by
    obtain ⟨f, fd, m, F⟩ := Z.t_find_period.ex
    exact ⟨f, fd, m, F.kp, F.binds fun _ _ _ _ _ _ us hl => (match us, hl with | [_, _], _ => rfl), ok_findP B LT bL GL D_start_of F⟩
  have D_find_sets : DefOk P w K mg base (L2.CX P w) 5 "find_sets" ["table", "colour", "most"] (spFindS CT CL) := by
    obtain ⟨f, fd, m, F⟩ := Z.t_find_sets.ex
    exact ⟨f, fd, m, F.kp, F.binds fun _ _ _ _ _ _ us hl => (match us, hl with | [_, _, _], _ => rfl), ok_findS D_first_sets D_find_period F⟩
  have D_validate_count : DefOk P w K mg base CX0 2 "validate_count" ["value", "least"] spCount := by
    obtain ⟨f, fd, m, F⟩ := Z.t_validate_count.ex
    exact ⟨f, fd, m, F.kp, F.binds fun _ _ _ _ _ _ us hl => (match us, hl with | [_, _], _ => rfl), ok_count D_is_integer F⟩
  have D_reduced : DefOk P w K mg base CX0 1 "reduced" ["count", "start", "length"] spReduced := by
    obtain ⟨f, fd, m, F⟩ := Z.t_reduced.ex
    exact ⟨f, fd, m, F.kp, F.binds fun _ _ _ _ _ _ us hl => (match us, hl with | [_, _, _], _ => rfl), ok_reduced F⟩
  have D_period : DefKw P w K mg base (L2.CX P w) 6 "period" ["table", "colour", "most"] 2 "most" (spPeriod CT CL) := by
    obtain ⟨f, fd, m, F⟩ := Z.t_period.ex
    exact ⟨f, fd, m, F.kp, kb_period F, ok_period TT m100 M_val D_validate_between D_find_sets F⟩
  have D_beans_of_many : DefKw P w K mg base CX0 6 "beans_of_many" ["table", "colour", "count", "most"] 3 "most" (spBeans CT) := by
    obtain ⟨f, fd, m, F⟩ := Z.t_beans_of_many.ex
    exact ⟨f, fd, m, F.kp, kb_beans F, ok_beans B TT m100 M_val D_validate_between D_find_sets D_validate_count D_reduced F⟩
  have D_leading_counts : DefOk P w K mg base CX0 6 "leading_counts" ["table", "colour", "wanted", "most"] (spLead CT) := by
    obtain ⟨f, fd, m, F⟩ := Z.t_leading_counts.ex
    exact ⟨f, fd, m, F.kp, F.binds fun _ _ _ _ _ _ us hl => (match us, hl with | [_, _, _, _], _ => rfl), ok_lead B D_find_sets F⟩
  have D_count_leading : DefKw P w K mg base CX0 7 "count_leading" ["table", "colour", "wanted", "high", "most"] 4 "most" (spCLead CT) := by
    obtain ⟨f, fd, m, F⟩ := Z.t_count_leading.ex
    exact ⟨f, fd, m, F.kp, kb_cLead F, ok_cLead B TT m100 M_val D_validate_between D_validate_count D_leading_counts F⟩
  have D__law_pool : DefOk P w K mg base CX0 1 "_law_pool" ["_law_script"] (spPool K) := by
    obtain ⟨f, fd, m, F⟩ := Z.t__law_pool.ex
    exact ⟨f, fd, m, F.kp, F.binds fun _ _ _ _ _ _ us hl => (match us, hl with | [_], _ => rfl), ok_pool F⟩
  have D__law_draw : DefOk P w K mg base CX0 1 "_law_draw" ["_law_pool_here", "_law_many"] spDraw := by
    obtain ⟨f, fd, m, F⟩ := Z.t__law_draw.ex
    exact ⟨f, fd, m, F.kp, F.binds fun _ _ _ _ _ _ us hl => (match us, hl with | [_, _], _ => rfl), ok_draw B F⟩
  have D__law_some_rows : DefOk P w K mg base CX0 2 "_law_some_rows" ["_law_pool_here", "_law_size"] spSome := by
    obtain ⟨f, fd, m, F⟩ := Z.t__law_some_rows.ex
    exact ⟨f, fd, m, F.kp, F.binds fun _ _ _ _ _ _ us hl => (match us, hl with | [_, _], _ => rfl), ok_some B D__law_draw F⟩
  have D__law_drawn_rows : DefOk P w K mg base CX0 3 "_law_drawn_rows" ["_law_pool_here", "_law_size"] spSome := by
    obtain ⟨f, fd, m, F⟩ := Z.t__law_drawn_rows.ex
    exact ⟨f, fd, m, F.kp, F.binds fun _ _ _ _ _ _ us hl => (match us, hl with | [_, _], _ => rfl), ok_drawn B D__law_draw D__law_some_rows F⟩
  have D__law_after : DefOk P w K mg base CX0 1 "_law_after" ["_law_rows", "_law_counts", "_law_a", "_law_b"] (spAfter K) := by
    obtain ⟨f, fd, m, F⟩ := Z.t__law_after.ex
    exact ⟨f, fd, m, F.kp, F.binds fun _ _ _ _ _ _ us hl => (match us, hl with | [_, _, _, _], _ => rfl), ok_after B F⟩
  have D__law_choices : DefOk P w K mg base CX0 2 "_law_choices" ["_law_rows", "_law_counts"] (spChoices K) := by
    obtain ⟨f, fd, m, F⟩ := Z.t__law_choices.ex
    exact ⟨f, fd, m, F.kp, F.binds fun _ _ _ _ _ _ us hl => (match us, hl with | [_, _], _ => rfl), ok_choices B D__law_after F⟩
  have D__law_end : DefOk P w K mg base CX0 3 "_law_end" ["_law_pool_here", "_law_rows", "_law_counts"] spEnd := by
    obtain ⟨f, fd, m, F⟩ := Z.t__law_end.ex
    exact ⟨f, fd, m, F.kp, F.binds fun _ _ _ _ _ _ us hl => (match us, hl with | [_, _, _], _ => rfl), ok_end B D__law_draw D__law_choices F⟩
  have D__law_repeated : DefOk P w K mg base CX0 7 "_law_repeated" ["_law_table", "_law_colour"] (spRep CT) := by
    obtain ⟨f, fd, m, F⟩ := Z.t__law_repeated.ex
    exact ⟨f, fd, m, F.kp, F.binds fun _ _ _ _ _ _ us hl => (match us, hl with | [_, _], _ => rfl), ok_rep LT.mC te D_period F⟩
  have D__law_number : DefOk P w K mg base CX0 2 "_law_number" ["_law_pool_here"] spNumber := by
    obtain ⟨f, fd, m, F⟩ := Z.t__law_number.ex
    exact ⟨f, fd, m, F.kp, F.binds fun _ _ _ _ _ _ us hl => (match us, hl with | [_], _ => rfl), ok_number D__law_draw F⟩
  have D__law_sum_right : DefOk P w K mg base CX0 8 "_law_sum_right" ["_law_pool_here", "_law_rows", "_law_colour", "_law_told"] spSumR := by
    obtain ⟨f, fd, m, F⟩ := Z.t__law_sum_right.ex
    exact ⟨f, fd, m, F.kp, F.binds fun _ _ _ _ _ _ us hl => (match us, hl with | [_, _, _, _], _ => rfl), ok_sumR B mT MT bTI GTI D__law_draw D__law_number D_beans_of_many D_count_leading F⟩
  exact ok_law B mT MT bTI GTI D__law_pool D__law_draw D__law_drawn_rows D__law_repeated D_beans_of_many D__law_end D__law_sum_right F9
end BjP
/-! Beanjars: what the top has written. -/
namespace BjP
open PySem L2 Bj BjR
section
variable {K : PySem.W.Frag} {h : Heap} {mg : PySem.Str → Option Value} {R : Prop}
theorem blt_by (X : K.In h) (G : h.Ns mainGlobals mg) (z1 : PySem.W.nsIn K mainGlobals "isinstance" = some none) (z2 : PySem.W.nsIn K mainGlobals "int" = some none) (z3 : PySem.W.nsIn K mainGlobals "bool" = some none) (z4 : PySem.W.nsIn K mainGlobals "list" = some none)
    (z5 : PySem.W.nsIn K mainGlobals "tuple" = some none) (z6 : PySem.W.nsIn K mainGlobals "len" = some none) (z7 : PySem.W.nsIn K mainGlobals "all" = some none) (z8 : PySem.W.nsIn K mainGlobals "range" = some none) (z9 : PySem.W.nsIn K mainGlobals "sorted" = some none)
    (z10 : PySem.W.nsIn K mainGlobals "sum" = some none) (z11 : PySem.W.nsIn K mainGlobals "max" = some none) (z12 : PySem.W.nsIn K mainGlobals "min" = some none) (go : Blt mg → R) : R :=
  go ⟨PySem.W.mg_none_of X G z1, PySem.W.mg_none_of X G z2, PySem.W.mg_none_of X G z3, PySem.W.mg_none_of X G z4, PySem.W.mg_none_of X G z5, PySem.W.mg_none_of X G z6, PySem.W.mg_none_of X G z7, PySem.W.mg_none_of X G z8, PySem.W.mg_none_of X G z9, PySem.W.mg_none_of X G z10, PySem.W.mg_none_of X G z11, PySem.W.mg_none_of X G z12⟩
theorem con_by {t1 t2 : Tok} (X : K.In h) (G : h.Ns mainGlobals mg) (a1 : PySem.W.nsIn K mainGlobals "MAX_COLOURS" = some (some (.int 8 t1))) (a2 : PySem.W.nsIn K mainGlobals "MAX_MOST" = some (some (.int 100 t2)))
    (go : (∃ t, mg "MAX_COLOURS" = some (.int 8 t)) → (∃ t, mg "MAX_MOST" = some (.int 100 t)) → R) : R := go ⟨t1, PySem.W.mg_of X G a1⟩ ⟨t2, PySem.W.mg_of X G a2⟩
section
variable {x m q : PySem.Str} {st : Stmt} {f C g1 g2 : Addr} {oc : Value} {od an : Option Addr} {osl : Array (Option Value)} {kV doc pm cdv ct : Value} {rest : List Value}
theorem top_by (x : PySem.Str) (st : Stmt) (X : K.In h) (G : h.Ns mainGlobals mg) (a : PySem.W.nsIn K mainGlobals x = some (some (.ref f))) (l : K.lookup f = some ⟨oc, od, .func (PySem.W.fnOf x x (defArgs st) (defBody st) (defScope st) .none kV doc pm an cdv ct), osl⟩)
    (c : PySem.W.codeIn K cdv x = true) (k : PySem.W.keepIn K (.ref f) = true) (go : Top K mg x st → R) : R := go (top_mk X G a l c k)
theorem cm_by (m q : PySem.Str) (st : Stmt) (cl : Cls K C) (a : PySem.W.findIn K (.ref C) m = some (some (.ref f))) (i : PySem.W.isFn K (.ref f) = true) (l : K.lookup f = some ⟨oc, od, .func (PySem.W.fnOf m q (defArgs st) (defBody st) (defScope st) .none kV doc pm an cdv ct), osl⟩)
    (c : PySem.W.codeIn K cdv q = true) (k : PySem.W.keepIn K (.ref f) = true) (go : Cm K C m q st → R) : R := go (cm_mk a i l c k)
/-- a class with no attribute of these names -/
structure ClsOk (K : PySem.W.Frag) (mg : PySem.Str → Option Value) (x : PySem.Str) (C : Addr) : Prop where
  at_ : mg x = some (.ref C)
  cl : Cls K C
  mks : PySem.W.makesIn K C = true
  kp : PySem.W.keepIn K (.ref C) = true
theorem cls_by (x : PySem.Str) (X : K.In h) (G : h.Ns mainGlobals mg) (a : PySem.W.nsIn K mainGlobals x = some (some (.ref C))) (pg : PySem.W.plainGet K C Str.empty = true) (hd : PySem.W.hasDictIn K C = true) (po : PySem.W.plainOver K C = true)
    (sa : PySem.W.findIn K (.ref C) "__setattr__" = some (some (.builtin "object.__setattr__"))) (mk : PySem.W.makesIn K C = true) (kc : PySem.W.keepIn K (.ref C) = true) (go : ClsOk K mg x C → R) : R :=
  go ⟨PySem.W.mg_of X G a, ⟨pg, hd, po, sa⟩, mk, kc⟩
theorem no_by (n : PySem.Str) (cl : Cls K C) (a : PySem.W.findIn K (.ref C) n = some none) (go : NoAttr K C n → R) : R := go a
theorem size_by (cl : Cls K C) (a : PySem.W.findIn K (.ref C) "size" = some (some (.ref g1))) (b : PySem.W.specialIn K (.ref g1) "__get__" = some (some (.builtin "property.__get__"))) (t : PySem.W.takesIn K (.ref g1) = some true) (r : PySem.W.recIn K g1 "property" = some (.ref g2 :: rest))
    (l : K.lookup g2 = some ⟨oc, od, .func (PySem.W.fnOf "size" "Table.size" (defArgs sTabSize) (defBody sTabSize) (defScope sTabSize) .none kV doc pm an cdv ct), osl⟩) (c : PySem.W.codeIn K cdv "Table.size" = true) (k : PySem.W.keepIn K (.ref g2) = true)
    (go : PropOf K C "size" g1 g2 → (∃ fd, Fun K "size" "Table.size" sTabSize g2 fd) → R) : R := go ⟨a, b, t, rest, r⟩ ⟨_, fun_mk l c k⟩
theorem exm_lim (h1 : PySem.W.subIn K (.ref C) (.type "BaseException") = some true) (h2 : PySem.W.isClsIn K C = true) (h3 : PySem.W.typeIn K (.ref C) = some (.type "type")) (h4 : PySem.W.subIn K (.ref C) (.ref C) = some true) : PySem.W.exmOne K (.ref C) (.ref C) = some true := by
  unfold PySem.W.exmOne
  rw [if_pos (by rw [h1]; rfl)]
  have hs : (PySem.W.clsIn K C).isSome = true := h2
  show (if ((PySem.W.clsIn K C).isSome && PySem.W.typeIn K (.ref C) == some (.type "type")) = true then _ else none) = _
  rw [if_pos (by rw [hs, h3]; rfl)]
  exact h4
theorem lim_by {nm qn : PySem.Str} {N : Addr} {bs : List Value} {sn : List PySem.Str} {sub : List Value} {ab : Bool} {col : Option Bool} {dd : Option Addr} {m0 m1 m2 m3 m5 : Option Value} (X : K.In h) (G : h.Ns mainGlobals mg) (a : PySem.W.nsIn K mainGlobals "LimitExceeded" = some (some (.ref C)))
    (xL : K.lookup C = some (excClassObj nm qn C N bs oeTail true sn sub ab col dd m0 m1 m2 m3 m5 "OverflowError.__new__")) (sa : PySem.W.findIn K (.ref C) "__setattr__" = some (some (.builtin "object.__setattr__"))) (nL : PySem.W.findIn K (.ref C) "limit" = some none)
    (zO : PySem.W.nsIn K mainGlobals "OverflowError" = some none) (i : PySem.W.findIn K (.ref C) "__init__" = some (some (.ref f))) (ti : PySem.W.typeIn K (.ref f) = some (.type "function"))
    (l : K.lookup f = some ⟨oc, od, .func (PySem.W.fnOf "__init__" "LimitExceeded.__init__" (defArgs sLimInit) (defBody sLimInit) (defScope sLimInit) .none kV doc pm an cdv ct), osl⟩) (c : PySem.W.codeIn K cdv "LimitExceeded.__init__" = true) (k : PySem.W.keepIn K (.ref f) = true)
    (kC : PySem.W.keepIn K (.ref C) = true) (eC : PySem.W.subIn K (.ref C) (.type "BaseException") = some true) (tC : PySem.W.typeIn K (.ref C) = some (.type "type")) (iC : PySem.W.isClsIn K C = true) (sC : PySem.W.subIn K (.ref C) (.ref C) = some true)
    (go : (∃ fI fd, LimTxt K mg C fI ∧ Fun K "__init__" "LimitExceeded.__init__" sLimInit fI fd) → PySem.W.exmOne K (.ref C) (.ref C) = some true → R) : R :=
  go ⟨f, _, ⟨⟨⟨nm, qn, N, bs, sn, sub, ab, col, dd, m0, m1, m2, m3, m5, xL⟩, sa, eC, tC, kC⟩, nL, PySem.W.mg_of X G a, PySem.W.mg_none_of X G zO, init_OE K, i, ti⟩, fun_mk l c k⟩ (exm_lim eC iC tC sC)
end
theorem end_ok {P : Program} {w : World} {CT CP CL g1 g2 fa : Addr} (hfa : mg "law" = some (.ref fa)) (tl : Top K mg "law" sLaw) (Z : Held K mg CT CP CL g1 g2) :
    ∃ fd : FuncData, (∀ (s : Shared) (v : Value), BindsTo s fd ⟨[v], []⟩ [("_law_script", v)]) ∧ ∀ base : Heap, K.In base → base.Ns mainGlobals mg → FnOk P w K mg base CX0 9 fa fd ["_law_script"] (spLaw K) := by
  obtain ⟨f, fd, m, F⟩ := tl.ex
  have e := hfa.symm.trans m
  cases e
  refine ⟨fd, fun s v => ?_, fun base _ _ => all_ok Z F base⟩
  obtain ⟨oc, od, kV, doc, pm, an, cdv, ct, osl, rfl, lk, hcd⟩ := F.ex
  exact .of_eq rfl
end
theorem walk {l : PySem.W.OpenLaw} {q : Program} {loose : List PySem.Str} {XP : (PySem.Str → Option Value) → Heap → Prop} {YP : World → Heap → Prop} {d : DefRec} {KW : Params → PySem.W.Frag} (most : l.most = some 63) (plain : d.params.defaults = [])
    (held : ∀ (w : World) (h : Heap), YP w h → (KW w.params).In h)
    (F : ∀ (w : World) (mg : PySem.Str → Option Value) (fa : Addr) (h : Heap), (KW w.params).In h → h.Ns mainGlobals mg → mg d.name = some (.ref fa) →
      ∃ fd : FuncData, (∀ (s : Shared) (v : Value), BindsTo s fd ⟨[v], []⟩ [("_law_script", v)]) ∧ ∀ base : Heap, (KW w.params).In base → base.Ns mainGlobals mg → FnOk l.prog w (KW w.params) mg base CX0 9 fa fd ["_law_script"] (spLaw (KW w.params))) :
    PySem.W.WalkO q loose XP YP l.row.toRowW d [] (fun f vs => PySem.call f vs) :=
  L2.walk_of (n := 63) (k := 9) (x := "_law_script") (CX := fun _ => CX0) (sp := fun w => spLaw (KW w.params)) most (by decide) plain ⟨rfl, by decide, by decide⟩ held F (fun _ _ a ns small _ at_ => ⟨a, ns, rfl, at_, small, fun _ => rfl⟩) fun _ _ _ _ _ z => z
end BjP
open PySem PySem.W PyProof.Rows
set_option maxRecDepth 100000 in
set_option maxHeartbeats 0 in
theorem PySem.Challenge.cw_beanjars_k92_whole_added_numbers_of_bean_holds : PySem.Challenge.rw_beanjars_k92_whole_added_numbers_of_bean.Holds := by
  w_on; o_law; k_head; (case hw => w_witness2)
  k_fill
  refine BjP.walk (l := PySem.Challenge.rw_beanjars_k92_whole_added_numbers_of_bean) rfl rfl (fun w h Y => PySem.W.kIn_of Y) ?F
  case F =>
    intro w mg fa h KX G hmg
    refine' BjP.blt_by KX G ?z1_1 ?z2_1 ?z3_1 ?z4_1 ?z5_1 ?z6_1 ?z7_1 ?z8_1 ?z9_1 ?z10_1 ?z11_1 ?z12_1 ?go_1
    (case z1_1 => k_is); (case z2_1 => k_is); (case z3_1 => k_is); (case z4_1 => k_is); (case z5_1 => k_is); (case z6_1 => k_is); (case z7_1 => k_is); (case z8_1 => k_is); (case z9_1 => k_is); (case z10_1 => k_is); (case z11_1 => k_is); (case z12_1 => k_is)
    intro B
    refine' BjP.con_by KX G ?a1_2 ?a2_2 ?go_2
    (case a1_2 => k_is); (case a2_2 => k_is)
    intro m8 m100
    refine' BjP.cls_by "Table" KX G ?a_3 ?pg_3 ?hd_3 ?po_3 ?sa_3 ?mk_3 ?kc_3 ?go_3
    (case a_3 => k_is); (case pg_3 => k_is); (case hd_3 => k_is); (case po_3 => k_is); (case sa_3 => k_is); (case mk_3 => k_is); (case kc_3 => k_is)
    intro cT
    refine' BjP.no_by "own_rows" cT.cl ?a_4 ?go_4
    (case a_4 => k_is)
    intro nT
    refine' BjP.cm_by "__init__" "Table.__init__" BjP.sTabInit cT.cl ?a_5 ?i_5 ?l_5 ?c_5 ?k_5 ?go_5
    (case a_5 => k_is); (case i_5 => k_is); (case l_5 => k_is); (case c_5 => k_is); (case k_5 => k_is)
    intro tI
    refine' BjP.cm_by "rows" "Table.rows" BjP.sTabRows cT.cl ?a_6 ?i_6 ?l_6 ?c_6 ?k_6 ?go_6
    (case a_6 => k_is); (case i_6 => k_is); (case l_6 => k_is); (case c_6 => k_is); (case k_6 => k_is)
    intro tR
    refine' BjP.cm_by "validate_colour" "Table.validate_colour" BjP.sTabVal cT.cl ?a_7 ?i_7 ?l_7 ?c_7 ?k_7 ?go_7
    (case a_7 => k_is); (case i_7 => k_is); (case l_7 => k_is); (case c_7 => k_is); (case k_7 => k_is)
    intro tV
    refine' BjP.size_by cT.cl ?a_8 ?b_8 ?t_8 ?r_8 ?l_8 ?c_8 ?k_8 ?go_8
    (case a_8 => k_is); (case b_8 => k_is); (case t_8 => k_is); (case r_8 => k_is); (case l_8 => k_is); (case c_8 => k_is); (case k_8 => k_is)
    intro PS tS
    refine' BjP.cls_by "SetProducts" KX G ?a_9 ?pg_9 ?hd_9 ?po_9 ?sa_9 ?mk_9 ?kc_9 ?go_9
    (case a_9 => k_is); (case pg_9 => k_is); (case hd_9 => k_is); (case po_9 => k_is); (case sa_9 => k_is); (case mk_9 => k_is); (case kc_9 => k_is)
    intro cP
    refine' BjP.no_by "own_rows" cP.cl ?a_10 ?go_10
    (case a_10 => k_is)
    intro nP
    refine' BjP.no_by "own_known" cP.cl ?a_11 ?go_11
    (case a_11 => k_is)
    intro nQ
    refine' BjP.cm_by "__init__" "SetProducts.__init__" BjP.sProInit cP.cl ?a_12 ?i_12 ?l_12 ?c_12 ?k_12 ?go_12
    (case a_12 => k_is); (case i_12 => k_is); (case l_12 => k_is); (case c_12 => k_is); (case k_12 => k_is)
    intro pI
    refine' BjP.cm_by "product" "SetProducts.product" BjP.sProProd cP.cl ?a_13 ?i_13 ?l_13 ?c_13 ?k_13 ?go_13
    (case a_13 => k_is); (case i_13 => k_is); (case l_13 => k_is); (case c_13 => k_is); (case k_13 => k_is)
    intro pP
    refine' BjP.cm_by "union" "SetProducts.union" BjP.sProUnion cP.cl ?a_14 ?i_14 ?l_14 ?c_14 ?k_14 ?go_14
    (case a_14 => k_is); (case i_14 => k_is); (case l_14 => k_is); (case c_14 => k_is); (case k_14 => k_is)
    intro pU
    refine' BjP.lim_by KX G ?a_15 ?xL_15 ?sa_15 ?nL_15 ?zO_15 ?i_15 ?ti_15 ?l_15 ?c_15 ?k_15 ?kC_15 ?eC_15 ?tC_15 ?iC_15 ?sC_15 ?go_15
    (case a_15 => k_is); (case xL_15 => k_is); (case sa_15 => k_is); (case nL_15 => k_is); (case zO_15 => k_is); (case i_15 => k_is); (case ti_15 => k_is); (case l_15 => k_is); (case c_15 => k_is); (case k_15 => k_is); (case kC_15 => k_is); (case eC_15 => k_is); (case tC_15 => k_is); (case iC_15 => k_is); (case sC_15 => first | rfl | k_is)
    intro lim te
    refine' BjP.top_by "is_integer" BjP.sIsInt KX G ?a_16 ?l_16 ?c_16 ?k_16 ?go_16
    (case a_16 => k_is); (case l_16 => k_is); (case c_16 => k_is); (case k_16 => k_is)
    intro t_is_integer
    refine' BjP.top_by "is_colour" BjP.sIsCol KX G ?a_17 ?l_17 ?c_17 ?k_17 ?go_17
    (case a_17 => k_is); (case l_17 => k_is); (case c_17 => k_is); (case k_17 => k_is)
    intro t_is_colour
    refine' BjP.top_by "has_shape" BjP.sShape KX G ?a_18 ?l_18 ?c_18 ?k_18 ?go_18
    (case a_18 => k_is); (case l_18 => k_is); (case c_18 => k_is); (case k_18 => k_is)
    intro t_has_shape
    refine' BjP.top_by "places" BjP.sPlaces KX G ?a_19 ?l_19 ?c_19 ?k_19 ?go_19
    (case a_19 => k_is); (case l_19 => k_is); (case c_19 => k_is); (case k_19 => k_is)
    intro t_places
    refine' BjP.top_by "first_wrong_place" BjP.sWrong KX G ?a_20 ?l_20 ?c_20 ?k_20 ?go_20
    (case a_20 => k_is); (case l_20 => k_is); (case c_20 => k_is); (case k_20 => k_is)
    intro t_first_wrong_place
    refine' BjP.top_by "validate_between" BjP.sBetween KX G ?a_21 ?l_21 ?c_21 ?k_21 ?go_21
    (case a_21 => k_is); (case l_21 => k_is); (case c_21 => k_is); (case k_21 => k_is)
    intro t_validate_between
    refine' BjP.top_by "first_sets" BjP.sFirst KX G ?a_22 ?l_22 ?c_22 ?k_22 ?go_22
    (case a_22 => k_is); (case l_22 => k_is); (case c_22 => k_is); (case k_22 => k_is)
    intro t_first_sets
    refine' BjP.top_by "start_of" BjP.sStart KX G ?a_23 ?l_23 ?c_23 ?k_23 ?go_23
    (case a_23 => k_is); (case l_23 => k_is); (case c_23 => k_is); (case k_23 => k_is)
    intro t_start_of
    refine' BjP.top_by "find_period" BjP.sFindP KX G ?a_24 ?l_24 ?c_24 ?k_24 ?go_24
    (case a_24 => k_is); (case l_24 => k_is); (case c_24 => k_is); (case k_24 => k_is)
    intro t_find_period
    refine' BjP.top_by "find_sets" BjP.sFindS KX G ?a_25 ?l_25 ?c_25 ?k_25 ?go_25
    (case a_25 => k_is); (case l_25 => k_is); (case c_25 => k_is); (case k_25 => k_is)
    intro t_find_sets
    refine' BjP.top_by "validate_count" BjP.sCount KX G ?a_26 ?l_26 ?c_26 ?k_26 ?go_26
    (case a_26 => k_is); (case l_26 => k_is); (case c_26 => k_is); (case k_26 => k_is)
    intro t_validate_count
    refine' BjP.top_by "reduced" BjP.sReduced KX G ?a_27 ?l_27 ?c_27 ?k_27 ?go_27
    (case a_27 => k_is); (case l_27 => k_is); (case c_27 => k_is); (case k_27 => k_is)
    intro t_reduced
    refine' BjP.top_by "period" BjP.sPeriod KX G ?a_28 ?l_28 ?c_28 ?k_28 ?go_28
    (case a_28 => k_is); (case l_28 => k_is); (case c_28 => k_is); (case k_28 => k_is)
    intro t_period
    refine' BjP.top_by "beans_of_many" BjP.sBeans KX G ?a_29 ?l_29 ?c_29 ?k_29 ?go_29
    (case a_29 => k_is); (case l_29 => k_is); (case c_29 => k_is); (case k_29 => k_is)
    intro t_beans_of_many
    refine' BjP.top_by "leading_counts" BjP.sLead KX G ?a_30 ?l_30 ?c_30 ?k_30 ?go_30
    (case a_30 => k_is); (case l_30 => k_is); (case c_30 => k_is); (case k_30 => k_is)
    intro t_leading_counts
    refine' BjP.top_by "count_leading" BjP.sCLead KX G ?a_31 ?l_31 ?c_31 ?k_31 ?go_31
    (case a_31 => k_is); (case l_31 => k_is); (case c_31 => k_is); (case k_31 => k_is)
    intro t_count_leading
    refine' BjP.top_by "_law_pool" BjP.sPool KX G ?a_32 ?l_32 ?c_32 ?k_32 ?go_32
    (case a_32 => k_is); (case l_32 => k_is); (case c_32 => k_is); (case k_32 => k_is)
    intro t__law_pool
    refine' BjP.top_by "_law_draw" BjP.sDraw KX G ?a_33 ?l_33 ?c_33 ?k_33 ?go_33
    (case a_33 => k_is); (case l_33 => k_is); (case c_33 => k_is); (case k_33 => k_is)
    intro t__law_draw
    refine' BjP.top_by "_law_some_rows" BjP.sSome KX G ?a_34 ?l_34 ?c_34 ?k_34 ?go_34
    (case a_34 => k_is); (case l_34 => k_is); (case c_34 => k_is); (case k_34 => k_is)
    intro t__law_some_rows
    refine' BjP.top_by "_law_drawn_rows" BjP.sDrawn KX G ?a_35 ?l_35 ?c_35 ?k_35 ?go_35
    (case a_35 => k_is); (case l_35 => k_is); (case c_35 => k_is); (case k_35 => k_is)
    intro t__law_drawn_rows
    refine' BjP.top_by "_law_after" BjP.sAfter KX G ?a_36 ?l_36 ?c_36 ?k_36 ?go_36
    (case a_36 => k_is); (case l_36 => k_is); (case c_36 => k_is); (case k_36 => k_is)
    intro t__law_after
    refine' BjP.top_by "_law_choices" BjP.sChoices KX G ?a_37 ?l_37 ?c_37 ?k_37 ?go_37
    (case a_37 => k_is); (case l_37 => k_is); (case c_37 => k_is); (case k_37 => k_is)
    intro t__law_choices
    refine' BjP.top_by "_law_end" BjP.sEnd KX G ?a_38 ?l_38 ?c_38 ?k_38 ?go_38
    (case a_38 => k_is); (case l_38 => k_is); (case c_38 => k_is); (case k_38 => k_is)
    intro t__law_end
    refine' BjP.top_by "_law_repeated" BjP.sRepeated KX G ?a_39 ?l_39 ?c_39 ?k_39 ?go_39
    (case a_39 => k_is); (case l_39 => k_is); (case c_39 => k_is); (case k_39 => k_is)
    intro t__law_repeated
    refine' BjP.top_by "_law_number" BjP.sNumber KX G ?a_40 ?l_40 ?c_40 ?k_40 ?go_40
    (case a_40 => k_is); (case l_40 => k_is); (case c_40 => k_is); (case k_40 => k_is)
    intro t__law_number
    refine' BjP.top_by "_law_sum_right" BjP.sSumR KX G ?a_41 ?l_41 ?c_41 ?k_41 ?go_41
    (case a_41 => k_is); (case l_41 => k_is); (case c_41 => k_is); (case k_41 => k_is)
    intro t__law_sum_right
    refine' BjP.top_by "law" BjP.sLaw KX G ?a_42 ?l_42 ?c_42 ?k_42 ?go_42
    (case a_42 => k_is); (case l_42 => k_is); (case c_42 => k_is); (case k_42 => k_is)
    intro t_law
    exact BjP.end_ok hmg t_law ⟨B, m8, m100, cT.at_, ⟨cT.cl, nT⟩, cT.mks, cT.kp, tI, tR, tV, PS, tS, cP.at_, ⟨cP.cl, nP, nQ⟩, cP.mks, cP.kp, pI, pP, pU, lim, te, t_is_integer, t_is_colour, t_has_shape, t_places, t_first_wrong_place, t_validate_between, t_first_sets, t_start_of, t_find_period, t_find_sets, t_validate_count, t_reduced, t_period, t_beans_of_many, t_leading_counts, t_count_leading, t__law_pool, t__law_draw, t__law_some_rows, t__law_drawn_rows, t__law_after, t__law_choices, t__law_end, t__law_repeated, t__law_number, t__law_sum_right⟩
#print axioms PySem.Challenge.cw_beanjars_k92_whole_added_numbers_of_bean_holds
