import PyProof.Rows.All
import Wide.All
import OpenK.AllK
import Wide.FinOn
import HandS.ForMost
import HandS.ForExc
import HandS.Style
import HandS.TupAny
import HandS.TupMul
import HandS.TupLe
import HandS.Conv
import HandS.Wide
import HandS.IsInst
import HandS.SortInts
import HandS.NamedTupSort
import HandS.Flow
import HandS.Walk
import KE.KTupSum
import KE.KDictKeyed
import KE.KDictDisplayH
import KE.SortData
import KE.DataMinMax
import KE.GoesEnum
import PySem.Challenge.RW_gridshares_k67_whole_three_roads
set_option Elab.async false
set_option linter.all false
set_option maxRecDepth 100000
set_option maxHeartbeats 4000000
namespace GS

/-! ### shares: their rows -/
def row (l : List Nat) (i : Nat) : Nat := l.getD i 0

structure IsSh (l : List Nat) : Prop where
  dec : ∀ i, row l (i + 1) ≤ row l i
  pos : ∀ i, i < l.length → 0 < row l i

theorem row_nil (i : Nat) : row [] i = 0 := by simp [row]
theorem row_zero (a : Nat) (l : List Nat) : row (a :: l) 0 = a := by simp [row]
theorem row_succ (a : Nat) (l : List Nat) (i : Nat) : row (a :: l) (i + 1) = row l i := by simp [row]
theorem row_ge {l : List Nat} {i : Nat} (h : l.length ≤ i) : row l i = 0 := by
  unfold row
  rw [List.getD_eq_getElem?_getD, List.getElem?_eq_none h]
  rfl
theorem row_get {l : List Nat} {i : Nat} (h : i < l.length) : row l i = l[i] := by
  unfold row
  rw [List.getD_eq_getElem?_getD, List.getElem?_eq_getElem h]
  rfl
theorem row_append (a b : List Nat) (i : Nat) : row (a ++ b) i = if i < a.length then row a i else row b (i - a.length) := by
  unfold row
  simp only [List.getD_eq_getElem?_getD, List.getElem?_append]
  split <;> rfl
theorem row_take (l : List Nat) (n i : Nat) : row (l.take n) i = if i < n then row l i else 0 := by
  unfold row
  simp only [List.getD_eq_getElem?_getD, List.getElem?_take]
  split <;> rfl
theorem row_drop (l : List Nat) (n i : Nat) : row (l.drop n) i = row l (n + i) := by
  unfold row
  simp only [List.getD_eq_getElem?_getD, List.getElem?_drop]

theorem IsSh.pos_iff {l : List Nat} (h : IsSh l) (i : Nat) : 0 < row l i ↔ i < l.length := by
  constructor
  · intro hp
    rcases Nat.lt_or_ge i l.length with c | c
    · exact c
    · rw [row_ge c] at hp; omega
  · exact h.pos i
theorem IsSh.mono {l : List Nat} (h : IsSh l) {i j : Nat} (hij : i ≤ j) : row l j ≤ row l i := by
  induction hij with
  | refl => exact Nat.le_refl _
  | step _ ih => exact Nat.le_trans (h.dec _) ih
theorem IsSh.nil : IsSh [] := ⟨fun i => by simp [row_nil], fun i h => by simp at h⟩
theorem IsSh.cons_iff {a : Nat} {l : List Nat} : IsSh (a :: l) ↔ 0 < a ∧ row l 0 ≤ a ∧ IsSh l := by
  constructor
  · intro h
    refine ⟨by simpa [row_zero] using h.pos 0 (by simp), by simpa [row_zero, row_succ] using h.dec 0, fun i => by simpa [row_succ] using h.dec (i + 1), fun i hi => ?_⟩
    have := h.pos (i + 1) (by simp; omega)
    simpa [row_succ] using this
  · rintro ⟨h0, h1, h2⟩
    refine ⟨fun i => ?_, fun i hi => ?_⟩
    · cases i with
      | zero => rw [row_succ, row_zero]; exact h1
      | succ i => rw [row_succ, row_succ]; exact h2.dec i
    · cases i with
      | zero => rw [row_zero]; exact h0
      | succ i => rw [row_succ]; exact h2.pos i (by simp at hi; omega)
theorem IsSh.ext {l m : List Nat} (hl : IsSh l) (hm : IsSh m) (h : ∀ i, row l i = row m i) : l = m := by
  induction l generalizing m with
  | nil =>
    cases m with
    | nil => rfl
    | cons b m =>
      have := (IsSh.cons_iff.mp hm).1
      have := h 0
      rw [row_nil, row_zero] at this
      omega
  | cons a l ih =>
    cases m with
    | nil =>
      have := (IsSh.cons_iff.mp hl).1
      have := h 0
      rw [row_nil, row_zero] at this
      omega
    | cons b m =>
      have h0 := h 0
      rw [row_zero, row_zero] at h0
      rw [h0, ih (IsSh.cons_iff.mp hl).2.2 (IsSh.cons_iff.mp hm).2.2 fun i => by simpa [row_succ] using h (i + 1)]

/-! ### one within another -/
def wi (l m : List Nat) : Prop := ∀ i, row l i ≤ row m i
def wiB (l m : List Nat) : Bool := decide (l.length ≤ m.length) && (List.range l.length).all fun r => decide (row l r ≤ row m r)
theorem wiB_iff {l m : List Nat} (hl : IsSh l) : wiB l m = true ↔ wi l m := by
  unfold wiB wi
  rw [Bool.and_eq_true, decide_eq_true_iff, List.all_eq_true]
  constructor
  · rintro ⟨h1, h2⟩ i
    rcases Nat.lt_or_ge i l.length with c | c
    · exact of_decide_eq_true (h2 i (List.mem_range.mpr c))
    · rw [row_ge c]; exact Nat.zero_le _
  · intro h
    refine ⟨?_, fun i _ => decide_eq_true (h i)⟩
    rcases Nat.lt_or_ge m.length l.length with c | c
    · have h1 := hl.pos _ c
      have h2 := h m.length
      rw [row_ge (Nat.le_refl _)] at h2
      omega
    · exact c
theorem wi.refl (l : List Nat) : wi l l := fun _ => Nat.le_refl _
theorem wi.trans {l m n : List Nat} (a : wi l m) (b : wi m n) : wi l n := fun i => Nat.le_trans (a i) (b i)
theorem wi.len {l m : List Nat} (hl : IsSh l) (h : wi l m) : l.length ≤ m.length := by
  have := (wiB_iff hl).mpr h
  unfold wiB at this
  rw [Bool.and_eq_true, decide_eq_true_iff] at this
  exact this.1
theorem wi.anti {l m : List Nat} (hl : IsSh l) (hm : IsSh m) (a : wi l m) (b : wi m l) : l = m :=
  hl.ext hm fun i => Nat.le_antisymm (a i) (b i)
theorem wi_nil (l : List Nat) : wi [] l := fun i => by rw [row_nil]; exact Nat.zero_le _

/-! ### all shares of a box -/
def boxS : Nat → Nat → List (List Nat)
  | 0, _ => [[]]
  | h + 1, w => [] :: (List.range w).flatMap fun r => (boxS h (r + 1)).map ((r + 1) :: ·)
theorem mem_boxS : ∀ {h w : Nat} {l : List Nat}, l ∈ boxS h w ↔ IsSh l ∧ l.length ≤ h ∧ row l 0 ≤ w
  | 0, w, l => by
    unfold boxS
    constructor
    · intro h
      rw [List.mem_singleton] at h
      subst h
      exact ⟨IsSh.nil, Nat.le_refl _, by rw [row_nil]; exact Nat.zero_le _⟩
    · rintro ⟨_, h, _⟩
      rw [List.mem_singleton]
      exact List.length_eq_zero_iff.mp (by omega)
  | h + 1, w, l => by
    unfold boxS
    rw [List.mem_cons, List.mem_flatMap]
    constructor
    · rintro (rfl | ⟨r, hr, hm⟩)
      · exact ⟨IsSh.nil, Nat.zero_le _, by rw [row_nil]; exact Nat.zero_le _⟩
      · rw [List.mem_map] at hm
        obtain ⟨m, hm, rfl⟩ := hm
        obtain ⟨h1, h2, h3⟩ := mem_boxS.mp hm
        rw [List.mem_range] at hr
        refine ⟨IsSh.cons_iff.mpr ⟨by omega, h3, h1⟩, by simp; omega, by rw [row_zero]; omega⟩
    · rintro ⟨h1, h2, h3⟩
      cases l with
      | nil => exact .inl rfl
      | cons a l =>
        obtain ⟨g1, g2, g3⟩ := IsSh.cons_iff.mp h1
        rw [row_zero] at h3
        refine .inr ⟨a - 1, List.mem_range.mpr (by omega), List.mem_map.mpr ⟨l, mem_boxS.mpr ⟨g3, by simp at h2; omega, by omega⟩, ?_⟩⟩
        rw [Nat.sub_add_cancel (by omega)]
theorem nodup_map_of_inj {α β : Type} {f : α → β} : ∀ {l : List α}, l.Nodup → (∀ x ∈ l, ∀ y ∈ l, f x = f y → x = y) → (l.map f).Nodup
  | [], _, _ => by simp
  | a :: l, h, hi => by
    rw [List.nodup_cons] at h
    rw [List.map_cons, List.nodup_cons]
    refine ⟨fun hm => ?_, nodup_map_of_inj h.2 fun x hx y hy => hi x (List.mem_cons_of_mem _ hx) y (List.mem_cons_of_mem _ hy)⟩
    rw [List.mem_map] at hm
    obtain ⟨x, hx, e⟩ := hm
    have := hi x (List.mem_cons_of_mem _ hx) a List.mem_cons_self e
    subst this
    exact h.1 hx
theorem nodup_append_of {α : Type} {l m : List α} (hl : l.Nodup) (hm : m.Nodup) (h : ∀ x ∈ l, x ∉ m) : (l ++ m).Nodup := by
  rw [List.nodup_append]
  exact ⟨hl, hm, fun a ha b hb e => h a ha (e ▸ hb)⟩
theorem nodup_flatMap_range {β : Type} {f : Nat → List β} : ∀ (n : Nat), (∀ r, r < n → (f r).Nodup) → (∀ r s x, r < n → s < n → x ∈ f r → x ∈ f s → r = s) → ((List.range n).flatMap f).Nodup
  | 0, _, _ => by simp
  | n + 1, h1, h2 => by
    rw [List.range_succ, List.flatMap_append]
    refine nodup_append_of (nodup_flatMap_range n (fun r hr => h1 r (by omega)) fun r s x hr hs => h2 r s x (by omega) (by omega)) (by simpa using h1 n (by omega)) fun x hx hy => ?_
    rw [List.mem_flatMap] at hx
    obtain ⟨r, hr, hx⟩ := hx
    rw [List.mem_range] at hr
    have hy' : x ∈ f n := by simpa using hy
    have := h2 r n x (by omega) (by omega) hx hy'
    omega
theorem nodup_boxS : ∀ (h w : Nat), (boxS h w).Nodup
  | 0, w => by simp [boxS]
  | h + 1, w => by
    unfold boxS
    rw [List.nodup_cons]
    refine ⟨fun hm => ?_, nodup_flatMap_range w (fun r _ => nodup_map_of_inj (nodup_boxS h (r + 1)) fun x _ y _ e => (List.cons.inj e).2) fun r s x _ _ hr hs => ?_⟩
    · rw [List.mem_flatMap] at hm
      obtain ⟨r, _, hm⟩ := hm
      rw [List.mem_map] at hm
      obtain ⟨m, _, e⟩ := hm
      cases e
    · rw [List.mem_map] at hr hs
      obtain ⟨a, _, e1⟩ := hr
      obtain ⟨b, _, e2⟩ := hs
      have := (List.cons.inj (e1.trans e2.symm)).1
      omega

/-! ### a cell less, a cell more -/
def less (l : List Nat) (r : Nat) : List Nat := if row l r = 1 then l.take r else l.take r ++ (row l r - 1) :: l.drop (r + 1)
def more (l : List Nat) (r : Nat) : List Nat := if r = l.length then l ++ [1] else l.take r ++ (row l r + 1) :: l.drop (r + 1)
def outRows (l : List Nat) : List Nat := (List.range l.length).filter fun r => decide (row l (r + 1) < row l r)
def inRows (l : List Nat) : List Nat := (List.range (min (l.length + 1) 20)).filter fun r => decide (row l r < 20) && (decide (r = 0) || decide (row l r < row l (r - 1)))
theorem mem_outRows {l : List Nat} {r : Nat} : r ∈ outRows l ↔ r < l.length ∧ row l (r + 1) < row l r := by
  unfold outRows
  rw [List.mem_filter, List.mem_range, decide_eq_true_iff]
theorem mem_outRows' {l : List Nat} {r : Nat} : r ∈ outRows l ↔ row l (r + 1) < row l r := by
  rw [mem_outRows]
  refine ⟨fun h => h.2, fun h => ⟨?_, h⟩⟩
  rcases Nat.lt_or_ge r l.length with c | c
  · exact c
  · rw [row_ge c] at h; omega
theorem row_less {l : List Nat} {r : Nat} (h : IsSh l) (hr : r ∈ outRows l) (i : Nat) : row (less l r) i = if i = r then row l r - 1 else row l i := by
  obtain ⟨h1, h2⟩ := mem_outRows.mp hr
  unfold less
  split
  · next e =>
    rw [row_take]
    split
    · next c => rw [if_neg (by omega)]
    · next c =>
      split
      · next d => omega
      · next d =>
        have := h.mono (show r + 1 ≤ i by omega)
        omega
  · next e =>
    rw [row_append, List.length_take, Nat.min_eq_left (by omega)]
    split
    · next c => rw [row_take, if_pos c, if_neg (by omega)]
    · next c =>
      split
      · next d => subst d; rw [Nat.sub_self, row_zero]
      · next d =>
        obtain ⟨k, hk⟩ : ∃ k, i - r = k + 1 := ⟨i - r - 1, by omega⟩
        rw [hk, row_succ, row_drop]
        congr 1
        omega
theorem sum_split {l : List Nat} {r : Nat} (h : r < l.length) : l.sum = (l.take r).sum + row l r + (l.drop (r + 1)).sum := by
  have e : l = l.take r ++ row l r :: l.drop (r + 1) := by
    rw [row_get h, List.getElem_cons_drop, List.take_append_drop]
  have e2 := congrArg List.sum e
  rw [List.sum_append, List.sum_cons] at e2
  omega
theorem less_sum {l : List Nat} {r : Nat} (h : IsSh l) (hr : r ∈ outRows l) : (less l r).sum + 1 = l.sum := by
  obtain ⟨h1, h2⟩ := mem_outRows.mp hr
  have e := sum_split h1
  unfold less
  split
  · next e1 =>
    have h3 : l.length ≤ r + 1 := by
      rcases Nat.lt_or_ge (r + 1) l.length with c | c
      · have := h.pos _ c
        omega
      · exact c
    rw [List.drop_eq_nil_of_le h3] at e
    simp at e
    omega
  · next e1 =>
    rw [List.sum_append, List.sum_cons]
    omega
theorem less_len {l : List Nat} {r : Nat} (hr : r ∈ outRows l) : (less l r).length ≤ l.length := by
  obtain ⟨h1, h2⟩ := mem_outRows.mp hr
  unfold less
  split
  · rw [List.length_take]; omega
  · simp; omega
theorem IsSh.of_rows {l : List Nat} (hd : ∀ i, row l (i + 1) ≤ row l i) (hp : ∀ i, i < l.length → 0 < row l i) : IsSh l := ⟨hd, hp⟩
theorem less_sh {l : List Nat} {r : Nat} (h : IsSh l) (hr : r ∈ outRows l) : IsSh (less l r) := by
  have hrow := row_less h hr
  obtain ⟨h1, h2⟩ := mem_outRows.mp hr
  refine ⟨fun i => ?_, fun i hi => ?_⟩
  · rw [hrow, hrow]
    have := h.dec i
    have := h.dec r
    split <;> split
    · omega
    · next a b =>
      have := h.dec i
      subst a
      omega
    · next a b => subst b; omega
    · omega
  · rw [hrow]
    unfold less at hi
    split at hi
    · next e =>
      rw [List.length_take] at hi
      rw [if_neg (by omega)]
      exact h.pos i (by omega)
    · next e =>
      have hl : i < l.length := by
        simp at hi
        omega
      split
      · omega
      · exact h.pos i hl
theorem more_row {l : List Nat} {r : Nat} (hr : r ≤ l.length) (i : Nat) : row (more l r) i = if i = r then row l r + 1 else row l i := by
  unfold more
  split
  · next e =>
    subst e
    rw [row_append]
    split
    · rw [if_neg (by omega)]
    · split
      · next d => subst d; rw [Nat.sub_self, row_zero, row_ge (Nat.le_refl _)]
      · next c d =>
        rw [row_ge (by simp; omega), row_ge (by omega)]
  · next e =>
    rw [row_append, List.length_take, Nat.min_eq_left (by omega)]
    split
    · next c => rw [row_take, if_pos c, if_neg (by omega)]
    · next c =>
      split
      · next d => subst d; rw [Nat.sub_self, row_zero]
      · next d =>
        obtain ⟨k, hk⟩ : ∃ k, i - r = k + 1 := ⟨i - r - 1, by omega⟩
        rw [hk, row_succ, row_drop]
        congr 1
        omega
theorem more_sum {l : List Nat} {r : Nat} (hr : r ≤ l.length) : (more l r).sum = l.sum + 1 := by
  unfold more
  split
  · simp
  · next e =>
    have := sum_split (l := l) (r := r) (by omega)
    rw [List.sum_append, List.sum_cons]
    omega
theorem mem_inRows {l : List Nat} {r : Nat} : r ∈ inRows l ↔ r ≤ l.length ∧ r < 20 ∧ row l r < 20 ∧ (r = 0 ∨ row l r < row l (r - 1)) := by
  unfold inRows
  rw [List.mem_filter, List.mem_range]
  simp only [Bool.and_eq_true, Bool.or_eq_true, decide_eq_true_iff]
  omega
theorem more_sh {l : List Nat} {r : Nat} (h : IsSh l) (hr : r ∈ inRows l) : IsSh (more l r) := by
  obtain ⟨h1, _, _, h3⟩ := mem_inRows.mp hr
  have hrow := more_row h1
  refine ⟨fun i => ?_, fun i hi => ?_⟩
  · rw [hrow, hrow]
    have := h.dec i
    split <;> split
    · omega
    · next a b =>
      subst a
      rcases h3 with h3 | h3
      · omega
      · simp only [Nat.add_sub_cancel] at h3; omega
    · next a b => subst b; omega
    · omega
  · rw [hrow]
    split
    · omega
    · next e =>
      unfold more at hi
      split at hi
      · simp at hi
        exact h.pos i (by omega)
      · simp at hi
        exact h.pos i (by omega)
theorem nodup_outRows (l : List Nat) : (outRows l).Nodup := (List.nodup_range).filter _
theorem nodup_inRows (l : List Nat) : (inRows l).Nodup := (List.nodup_range).filter _
end GS
namespace GS

/-! ### sums over lists -/
section sums
variable {α β : Type}
theorem sum_map_add (l : List α) (f g : α → Nat) : (l.map fun x => f x + g x).sum = (l.map f).sum + (l.map g).sum := by
  induction l with
  | nil => rfl
  | cons a l ih => simp only [List.map_cons, List.sum_cons, ih]; omega
theorem sum_map_mul_left (l : List α) (c : Nat) (f : α → Nat) : (l.map fun x => c * f x).sum = c * (l.map f).sum := by
  induction l with
  | nil => simp
  | cons a l ih => simp only [List.map_cons, List.sum_cons, ih, Nat.mul_add]
theorem sum_map_mul_right (l : List α) (c : Nat) (f : α → Nat) : (l.map fun x => f x * c).sum = (l.map f).sum * c := by
  induction l with
  | nil => simp
  | cons a l ih => simp only [List.map_cons, List.sum_cons, ih, Nat.add_mul]
theorem sum_map_zero (l : List α) : (l.map fun _ => (0 : Nat)).sum = 0 := by
  induction l with
  | nil => rfl
  | cons a l ih => simp only [List.map_cons, List.sum_cons, ih]
theorem sum_swap (A : List α) (B : List β) (f : α → β → Nat) : (A.map fun a => (B.map fun b => f a b).sum).sum = (B.map fun b => (A.map fun a => f a b).sum).sum := by
  induction A with
  | nil => simp only [List.map_nil, List.sum_nil, sum_map_zero]
  | cons a A ih => simp only [List.map_cons, List.sum_cons, ih, sum_map_add]
theorem sum_map_congr {l : List α} {f g : α → Nat} (h : ∀ x ∈ l, f x = g x) : (l.map f).sum = (l.map g).sum := by
  rw [List.map_congr_left h]
theorem sum_filter_if (l : List α) (p : α → Bool) (f : α → Nat) : (l.map fun x => if p x = true then f x else 0).sum = ((l.filter p).map f).sum := by
  induction l with
  | nil => rfl
  | cons a l ih =>
    rw [List.map_cons, List.sum_cons, ih, List.filter_cons]
    split
    · rw [List.map_cons, List.sum_cons]
    · omega
theorem sum_perm {l m : List α} (f : α → Nat) (h : l.Perm m) : (l.map f).sum = (m.map f).sum := (h.map f).sum_nat
theorem sum_support {l m : List α} (f : α → Nat) (dl : l.Nodup) (dm : m.Nodup) (h : ∀ x, f x ≠ 0 → (x ∈ l ↔ x ∈ m)) : (l.map f).sum = (m.map f).sum := by
  have key : ∀ k : List α, (k.map f).sum = ((k.filter fun x => decide (f x ≠ 0)).map f).sum := fun k => by
    rw [← sum_filter_if]
    refine sum_map_congr fun x _ => ?_
    by_cases c : f x = 0
    · simp [c]
    · simp [c]
  rw [key l, key m]
  refine sum_perm f ((List.perm_ext_iff_of_nodup (dl.filter _) (dm.filter _)).mpr fun x => ?_)
  rw [List.mem_filter, List.mem_filter, decide_eq_true_iff]
  constructor
  · rintro ⟨a, b⟩; exact ⟨(h x b).mp a, b⟩
  · rintro ⟨a, b⟩; exact ⟨(h x b).mpr a, b⟩
theorem sum_ne_zero {l : List α} {f : α → Nat} (h : (l.map f).sum ≠ 0) : ∃ x ∈ l, f x ≠ 0 := by
  induction l with
  | nil => exact absurd rfl h
  | cons a l ih =>
    by_cases c : f a = 0
    · rw [List.map_cons, List.sum_cons, c, Nat.zero_add] at h
      obtain ⟨x, hx, hf⟩ := ih h
      exact ⟨x, List.mem_cons_of_mem _ hx, hf⟩
    · exact ⟨a, List.mem_cons_self, c⟩
theorem sum_pos_of {l : List α} {f : α → Nat} {x : α} (hx : x ∈ l) (h : 0 < f x) : 0 < (l.map f).sum := by
  induction l with
  | nil => cases hx
  | cons a l ih =>
    rw [List.map_cons, List.sum_cons]
    rcases List.mem_cons.mp hx with rfl | hx
    · omega
    · have := ih hx; omega
theorem sum_single [DecidableEq α] {l : List α} (d : l.Nodup) {a : α} (ha : a ∈ l) (f : α → Nat) : (l.map fun x => if a = x then f x else 0).sum = f a := by
  induction l with
  | nil => cases ha
  | cons b l ih =>
    rw [List.map_cons, List.sum_cons]
    rw [List.nodup_cons] at d
    rcases List.mem_cons.mp ha with rfl | ha
    · rw [if_pos rfl]
      have : (l.map fun x => if a = x then f x else 0).sum = (l.map fun _ => 0).sum := sum_map_congr fun x hx => if_neg (fun (e : a = x) => d.1 (e ▸ hx))
      rw [this, sum_map_zero]
      omega
    · have : a ≠ b := fun e => d.1 (e ▸ ha)
      rw [if_neg this, ih d.2 ha]
      omega
end sums

/-! ### the sum of a share by its rows -/
def ps (f : Nat → Nat) : Nat → Nat
  | 0 => 0
  | n + 1 => ps f n + f n
theorem ps_shift (f : Nat → Nat) : ∀ n, ps f (n + 1) = f 0 + ps (fun i => f (i + 1)) n
  | 0 => by simp [ps]
  | n + 1 => by
    rw [ps, ps_shift f n, ps]
    omega
theorem ps_zero : ∀ n, ps (fun _ => 0) n = 0
  | 0 => rfl
  | n + 1 => by rw [ps, ps_zero n]
theorem ps_congr {f g : Nat → Nat} : ∀ {n}, (∀ i, i < n → f i = g i) → ps f n = ps g n
  | 0, _ => rfl
  | n + 1, h => by rw [ps, ps, ps_congr fun i hi => h i (by omega), h n (by omega)]
theorem sum_ps : ∀ {l : List Nat} {n : Nat}, l.length ≤ n → l.sum = ps (row l) n
  | [], n, _ => by
    have : ps (row []) n = ps (fun _ => 0) n := ps_congr fun i _ => row_nil i
    rw [this, ps_zero]
    rfl
  | a :: l, n, h => by
    obtain ⟨k, rfl⟩ : ∃ k, n = k + 1 := ⟨n - 1, by simp at h; omega⟩
    rw [ps_shift, row_zero, List.sum_cons, sum_ps (l := l) (n := k) (by simpa using h)]
    rfl
theorem ps_le {f g : Nat → Nat} : ∀ {n}, (∀ i, i < n → f i ≤ g i) → ps f n ≤ ps g n
  | 0, _ => Nat.le_refl _
  | n + 1, h => Nat.add_le_add (ps_le fun i hi => h i (by omega)) (h n (by omega))
theorem ps_eq {f g : Nat → Nat} : ∀ {n}, (∀ i, i < n → f i ≤ g i) → ps f n = ps g n → ∀ i, i < n → f i = g i
  | 0, _, _ => fun i hi => by omega
  | n + 1, h, e => fun i hi => by
    rw [ps, ps] at e
    have h1 := ps_le (f := f) (g := g) (n := n) fun i hi => h i (by omega)
    have h2 := h n (by omega)
    by_cases c : i = n
    · subst c; omega
    · exact ps_eq (n := n) (fun i hi => h i (by omega)) (by omega) i (by omega)
theorem ps_one {f g : Nat → Nat} : ∀ {n}, (∀ i, i < n → f i ≤ g i) → ps g n = ps f n + 1 → ∃ r, r < n ∧ g r = f r + 1 ∧ ∀ i, i < n → i ≠ r → g i = f i
  | 0, _, e => by rw [ps, ps] at e; omega
  | n + 1, h, e => by
    rw [ps, ps] at e
    have h1 := ps_le (f := f) (g := g) (n := n) fun i hi => h i (by omega)
    have h2 := h n (by omega)
    by_cases c : f n = g n
    · obtain ⟨r, hr, hg, ho⟩ := ps_one (f := f) (g := g) (n := n) (fun i hi => h i (by omega)) (by omega)
      refine ⟨r, by omega, hg, fun i hi hn => ?_⟩
      by_cases d : i = n
      · subst d; exact c.symm
      · exact ho i (by omega) hn
    · have e2 := ps_eq (f := f) (g := g) (n := n) (fun i hi => h i (by omega)) (by omega)
      refine ⟨n, by omega, by omega, fun i hi hn => (e2 i (by omega)).symm⟩
theorem wi.sum_le {m l : List Nat} (h : wi m l) : m.sum ≤ l.sum := by
  rw [sum_ps (l := m) (n := max m.length l.length) (by omega), sum_ps (l := l) (n := max m.length l.length) (by omega)]
  exact ps_le fun i _ => h i
theorem wi.eq_of_sum {m l : List Nat} (hm : IsSh m) (hl : IsSh l) (h : wi m l) (e : m.sum = l.sum) : m = l := by
  rw [sum_ps (l := m) (n := max m.length l.length) (by omega), sum_ps (l := l) (n := max m.length l.length) (by omega)] at e
  refine hm.ext hl fun i => ?_
  rcases Nat.lt_or_ge i (max m.length l.length) with c | c
  · exact ps_eq (fun i _ => h i) e i c
  · rw [row_ge (by omega), row_ge (by omega)]
theorem wi.one_more {m l : List Nat} (h : wi m l) (e : l.sum = m.sum + 1) : ∃ r, row l r = row m r + 1 ∧ ∀ i, i ≠ r → row l i = row m i := by
  rw [sum_ps (l := m) (n := max m.length l.length) (by omega), sum_ps (l := l) (n := max m.length l.length) (by omega)] at e
  obtain ⟨r, hr, h1, h2⟩ := ps_one (fun i _ => h i) e
  refine ⟨r, h1, fun i hi => ?_⟩
  rcases Nat.lt_or_ge i (max m.length l.length) with c | c
  · exact h2 i c hi
  · rw [row_ge (by omega), row_ge (by omega)]

/-! ### a cell between -/
def cov (m l : List Nat) : Bool := wiB m l && decide (l.sum = m.sum + 1)
theorem cov_iff {m l : List Nat} (hm : IsSh m) : cov m l = true ↔ wi m l ∧ l.sum = m.sum + 1 := by
  unfold cov
  rw [Bool.and_eq_true, decide_eq_true_iff, wiB_iff hm]
abbrev Bx (h w : Nat) (l : List Nat) : Prop := l ∈ boxS h w
theorem Bx.sh {h w : Nat} {l : List Nat} (b : Bx h w l) : IsSh l := (mem_boxS.mp b).1
theorem Bx.len {h w : Nat} {l : List Nat} (b : Bx h w l) : l.length ≤ h := (mem_boxS.mp b).2.1
theorem Bx.wide {h w : Nat} {l : List Nat} (b : Bx h w l) (i : Nat) : row l i ≤ w := Nat.le_trans (b.sh.mono (Nat.zero_le i)) (mem_boxS.mp b).2.2
theorem Bx.sub {h w : Nat} {m l : List Nat} (b : Bx h w l) (hm : IsSh m) (k : wi m l) : Bx h w m :=
  mem_boxS.mpr ⟨hm, Nat.le_trans (k.len hm) b.len, Nat.le_trans (k 0) (b.wide 0)⟩
theorem Bx.mono {h w h' w' : Nat} {l : List Nat} (b : Bx h w l) (h1 : h ≤ h') (h2 : w ≤ w') : Bx h' w' l :=
  mem_boxS.mpr ⟨b.sh, Nat.le_trans b.len h1, Nat.le_trans (b.wide 0) h2⟩
theorem less_wi {l : List Nat} {r : Nat} (h : IsSh l) (hr : r ∈ outRows l) : wi (less l r) l := fun i => by
  rw [row_less h hr]
  split
  · next e => subst e; omega
  · omega
theorem more_wi {l : List Nat} {r : Nat} (hr : r ∈ inRows l) : wi l (more l r) := fun i => by
  rw [more_row (mem_inRows.mp hr).1]
  split
  · next e => subst e; omega
  · omega
theorem cov_less {l : List Nat} {r : Nat} (h : IsSh l) (hr : r ∈ outRows l) : cov (less l r) l = true :=
  (cov_iff (less_sh h hr)).mpr ⟨less_wi h hr, (less_sum h hr).symm⟩
theorem cov_more {l : List Nat} {r : Nat} (h : IsSh l) (hr : r ∈ inRows l) : cov l (more l r) = true :=
  (cov_iff h).mpr ⟨more_wi hr, more_sum (mem_inRows.mp hr).1⟩
theorem less_of_cov {m l : List Nat} (hm : IsSh m) (hl : IsSh l) (h : cov m l = true) : ∃ r ∈ outRows l, less l r = m := by
  obtain ⟨h1, h2⟩ := (cov_iff hm).mp h
  obtain ⟨r, e1, e2⟩ := h1.one_more h2
  have hr : r ∈ outRows l := mem_outRows'.mpr (by rw [e2 (r + 1) (by omega), e1]; have := hm.dec r; omega)
  refine ⟨r, hr, (less_sh hl hr).ext hm fun i => ?_⟩
  rw [row_less hl hr]
  split
  · next e => subst e; omega
  · next e => exact e2 i e
theorem more_of_cov {m l : List Nat} (hm : IsSh m) (hl : IsSh l) (h : cov m l = true) (b1 : l.length ≤ 20) (b2 : row l 0 ≤ 20) : ∃ r ∈ inRows m, more m r = l := by
  obtain ⟨h1, h2⟩ := (cov_iff hm).mp h
  obtain ⟨r, e1, e2⟩ := h1.one_more h2
  have hrl : r < l.length := (hl.pos_iff r).mp (by omega)
  have hr : r ∈ inRows m := by
    refine mem_inRows.mpr ⟨?_, by omega, ?_, ?_⟩
    · rcases Nat.lt_or_ge m.length r with c | c
      · have := hl.pos m.length (by omega)
        rw [e2 m.length (by omega), row_ge (Nat.le_refl _)] at this
        omega
      · exact c
    · have := hl.mono (Nat.zero_le r)
      omega
    · by_cases c : r = 0
      · exact .inl c
      · refine .inr ?_
        have := hl.dec (r - 1)
        rw [Nat.sub_add_cancel (by omega), e1, e2 (r - 1) (by omega)] at this
        omega
  refine ⟨r, hr, (more_sh hm hr).ext hl fun i => ?_⟩
  rw [more_row (mem_inRows.mp hr).1]
  split
  · next e => subst e; omega
  · next e => exact (e2 i e).symm
theorem out_perm {h w : Nat} {l : List Nat} (b : Bx h w l) : ((boxS h w).filter fun v => cov v l).Perm ((outRows l).map (less l)) := by
  refine (List.perm_ext_iff_of_nodup ((nodup_boxS h w).filter _) (nodup_map_of_inj (nodup_outRows l) fun x hx y hy e => ?_)).mpr fun v => ?_
  · have e1 := row_less b.sh hx x
    rw [e, row_less b.sh hy x, if_pos rfl] at e1
    have := (mem_outRows.mp hx).2
    split at e1
    · assumption
    · omega
  · rw [List.mem_filter, List.mem_map]
    constructor
    · rintro ⟨h1, h2⟩; exact less_of_cov (Bx.sh h1) b.sh h2
    · rintro ⟨r, hr, rfl⟩
      exact ⟨b.sub (less_sh b.sh hr) (less_wi b.sh hr), cov_less b.sh hr⟩
theorem in_perm {h w : Nat} {m l : List Nat} (hh : h ≤ 20) (hw : w ≤ 20) (b : Bx h w l) (bm : Bx h w m) :
    ((boxS h w).filter fun v => cov m v && wiB v l).Perm (((inRows m).filter fun r => wiB (more m r) l).map (more m)) := by
  refine (List.perm_ext_iff_of_nodup ((nodup_boxS h w).filter _) (nodup_map_of_inj ((nodup_inRows m).filter _) fun x hx y hy e => ?_)).mpr fun v => ?_
  · have hx' := (mem_inRows.mp (List.mem_filter.mp hx).1).1
    have hy' := (mem_inRows.mp (List.mem_filter.mp hy).1).1
    have e1 := more_row hx' x
    rw [e, more_row hy' x, if_pos rfl] at e1
    split at e1
    · assumption
    · omega
  · rw [List.mem_filter, List.mem_map, Bool.and_eq_true]
    constructor
    · rintro ⟨h1, h2, h3⟩
      have hv := Bx.len h1
      have hv2 := Bx.wide h1 0
      obtain ⟨r, hr, e⟩ := more_of_cov bm.sh (Bx.sh h1) h2 (by omega) (by omega)
      exact ⟨r, List.mem_filter.mpr ⟨hr, by rw [e]; exact h3⟩, e⟩
    · rintro ⟨r, hr, rfl⟩
      obtain ⟨h1, h2⟩ := List.mem_filter.mp hr
      have hs := more_sh bm.sh h1
      exact ⟨b.sub hs ((wiB_iff hs).mp h2), cov_more bm.sh h1, h2⟩

/-! ### how many chains -/
abbrev SS : List (List Nat) := boxS 7 7
def P : Nat → List Nat → List Nat → Nat
  | 0, m, l => if m = l then 1 else 0
  | n + 1, m, l => (SS.map fun v => if cov m v = true then P n v l else 0).sum
theorem P_zero (m l : List Nat) : P 0 m l = if m = l then 1 else 0 := by rw [P]
theorem P_succ (n : Nat) (m l : List Nat) : P (n + 1) m l = (SS.map fun v => if cov m v = true then P n v l else 0).sum := by rw [P]
theorem P_ne {n : Nat} {m l : List Nat} (hm : Bx 7 7 m) (h : P n m l ≠ 0) : wi m l ∧ l.sum = m.sum + n := by
  induction n generalizing m with
  | zero =>
    rw [P_zero] at h
    by_cases c : m = l
    · subst c; exact ⟨wi.refl _, rfl⟩
    · rw [if_neg c] at h; exact absurd rfl h
  | succ n ih =>
    rw [P_succ] at h
    obtain ⟨v, hv, h1⟩ := sum_ne_zero h
    by_cases c : cov m v = true
    · rw [if_pos c] at h1
      obtain ⟨h2, h3⟩ := ih hv h1
      obtain ⟨h4, h5⟩ := (cov_iff hm.sh).mp c
      exact ⟨h4.trans h2, by omega⟩
    · rw [if_neg c] at h1; exact absurd rfl h1
theorem P_add (a b : Nat) {m : List Nat} (l : List Nat) (hm : Bx 7 7 m) : P (a + b) m l = (SS.map fun v => P a m v * P b v l).sum := by
  induction a generalizing m with
  | zero =>
    have e : (SS.map fun v => P 0 m v * P b v l).sum = (SS.map fun v => if m = v then P b v l else 0).sum := sum_map_congr fun v _ => by
      rw [P_zero]
      split <;> simp
    rw [e, sum_single (nodup_boxS 7 7) hm, Nat.zero_add]
  | succ a ih =>
    rw [show a + 1 + b = (a + b) + 1 by omega, P_succ]
    have e1 : ∀ u ∈ SS, (if cov m u = true then P (a + b) u l else 0) = (SS.map fun v => (if cov m u = true then P a u v else 0) * P b v l).sum := fun u hu => by
      split
      · exact ih hu
      · simp only [Nat.zero_mul, sum_map_zero]
    rw [sum_map_congr e1, sum_swap]
    refine sum_map_congr fun v _ => ?_
    rw [sum_map_mul_right, P_succ]
theorem P_last (n : Nat) {m l : List Nat} (hm : Bx 7 7 m) (hl : Bx 7 7 l) : P (n + 1) m l = (SS.map fun v => if cov v l = true then P n m v else 0).sum := by
  rw [P_add n 1 l hm]
  refine sum_map_congr fun v hv => ?_
  have e : P 1 v l = if cov v l = true then 1 else 0 := by
    rw [P_succ]
    have e2 : (SS.map fun u => if cov v u = true then P 0 u l else 0).sum = (SS.map fun u => if l = u then (if cov v u = true then 1 else 0) else 0).sum := sum_map_congr fun u _ => by
      rw [P_zero]
      by_cases c : u = l
      · subst c; simp
      · have c' : ¬ l = u := fun e => c e.symm
        simp [c, c']
    rw [e2, sum_single (nodup_boxS 7 7) hl]
  rw [e]
  split <;> simp
theorem P_out (n : Nat) {m l : List Nat} (hm : Bx 7 7 m) (hl : Bx 7 7 l) : P (n + 1) m l = ((outRows l).map fun r => P n m (less l r)).sum := by
  rw [P_last n hm hl, sum_filter_if, sum_perm _ (out_perm hl), List.map_map]
  rfl
theorem P_in (n : Nat) {m l : List Nat} (hm : Bx 7 7 m) (hl : Bx 7 7 l) : P (n + 1) m l = (((inRows m).filter fun r => wiB (more m r) l).map fun r => P n (more m r) l).sum := by
  rw [P_succ]
  have e : (SS.map fun v => if cov m v = true then P n v l else 0).sum = (SS.map fun v => if (cov m v && wiB v l) = true then P n v l else 0).sum := sum_map_congr fun v hv => by
    by_cases c : P n v l = 0
    · simp [c]
    · have := (wiB_iff (Bx.sh hv)).mpr (P_ne hv c).1
      rw [this, Bool.and_true]
  rw [e, sum_filter_if, sum_perm _ (in_perm (by decide) (by decide) hl hm), List.map_map]
  rfl

def F (m l : List Nat) : Nat := P (l.sum - m.sum) m l
theorem F_not {m l : List Nat} (hm : Bx 7 7 m) (h : ¬ wi m l) : F m l = 0 := by
  unfold F
  by_cases c : P (l.sum - m.sum) m l = 0
  · exact c
  · exact absurd (P_ne hm c).1 h
theorem F_self (m : List Nat) : F m m = 1 := by
  unfold F
  rw [Nat.sub_self, P_zero, if_pos rfl]
theorem F_of {m l : List Nat} {n : Nat} (h : l.sum = m.sum + n) : F m l = P n m l := by
  unfold F
  rw [show l.sum - m.sum = n by omega]
theorem sum_lt_of_ne {m l : List Nat} (hm : IsSh m) (hl : IsSh l) (h : wi m l) (ne : m ≠ l) : m.sum < l.sum := by
  have h1 := h.sum_le
  rcases Nat.lt_or_ge m.sum l.sum with c | c
  · exact c
  · exact absurd (h.eq_of_sum hm hl (by omega)) ne
theorem F_out {m l : List Nat} (hm : Bx 7 7 m) (hl : Bx 7 7 l) (h : wi m l) (ne : m ≠ l) : F m l = ((outRows l).map fun r => F m (less l r)).sum := by
  have hs := sum_lt_of_ne hm.sh hl.sh h ne
  obtain ⟨n, hn⟩ : ∃ n, l.sum = m.sum + (n + 1) := ⟨l.sum - m.sum - 1, by omega⟩
  rw [F_of hn, P_out n hm hl]
  refine sum_map_congr fun r hr => ?_
  have := less_sum hl.sh hr
  rw [F_of (n := n) (by omega)]
theorem F_in {m l : List Nat} (hm : Bx 7 7 m) (hl : Bx 7 7 l) (h : wi m l) (ne : m ≠ l) : F m l = (((inRows m).filter fun r => wiB (more m r) l).map fun r => F (more m r) l).sum := by
  have hs := sum_lt_of_ne hm.sh hl.sh h ne
  obtain ⟨n, hn⟩ : ∃ n, l.sum = m.sum + (n + 1) := ⟨l.sum - m.sum - 1, by omega⟩
  rw [F_of hn, P_in n hm hl]
  refine sum_map_congr fun r hr => ?_
  have := more_sum (mem_inRows.mp (List.mem_filter.mp hr).1).1
  rw [F_of (n := n) (by omega)]
theorem exists_in {m l : List Nat} (hm : IsSh m) (hl : IsSh l) (h : wi m l) (ne : m ≠ l) (b1 : l.length ≤ 20) (b2 : row l 0 ≤ 20) : ∃ r ∈ inRows m, wi (more m r) l := by
  -- the first row that differs
  have hex : ∃ r, row m r < row l r := by
    rcases Classical.em (∃ r, row m r < row l r) with c | c
    · exact c
    · refine absurd (hm.ext hl fun i => ?_) ne
      have := h i
      rcases Nat.lt_or_ge (row m i) (row l i) with d | d
      · exact absurd ⟨i, d⟩ c
      · omega
  have hmin : ∀ n, (∃ r, r ≤ n ∧ row m r < row l r) → ∃ r, row m r < row l r ∧ ∀ i, i < r → row m i = row l i := by
    intro n
    induction n with
    | zero =>
      rintro ⟨r, hr, hlt⟩
      exact ⟨r, hlt, fun i hi => by omega⟩
    | succ n ih =>
      rintro ⟨r, hr, hlt⟩
      rcases Classical.em (∃ r, r ≤ n ∧ row m r < row l r) with c | c
      · exact ih c
      · refine ⟨r, hlt, fun i hi => ?_⟩
        have := h i
        rcases Nat.lt_or_ge (row m i) (row l i) with d | d
        · exact absurd ⟨i, by omega, d⟩ c
        · omega
  obtain ⟨r0, hr0⟩ := hex
  obtain ⟨r, hr, ho⟩ := hmin r0 ⟨r0, Nat.le_refl _, hr0⟩
  have hrl : r < l.length := (hl.pos_iff r).mp (by omega)
  have hin : r ∈ inRows m := by
    refine mem_inRows.mpr ⟨?_, by omega, ?_, ?_⟩
    · rcases Nat.lt_or_ge m.length r with c | c
      · have h1 := ho m.length (by omega)
        rw [row_ge (Nat.le_refl _)] at h1
        have := hl.pos m.length (by omega)
        omega
      · exact c
    · have := hl.mono (Nat.zero_le r); omega
    · by_cases c : r = 0
      · exact .inl c
      · refine .inr ?_
        rw [ho (r - 1) (by omega)]
        have := hl.dec (r - 1)
        rw [Nat.sub_add_cancel (by omega)] at this
        omega
  refine ⟨r, hin, fun i => ?_⟩
  rw [more_row (mem_inRows.mp hin).1]
  split
  · next e => subst e; omega
  · exact h i
theorem F_pos : ∀ (n : Nat) {m l : List Nat}, Bx 7 7 m → Bx 7 7 l → wi m l → l.sum = m.sum + n → 0 < F m l
  | 0, m, l, hm, hl, h, e => by
    have : m = l := h.eq_of_sum hm.sh hl.sh (by omega)
    subst this
    rw [F_self]
    decide
  | n + 1, m, l, hm, hl, h, e => by
    have ne : m ≠ l := fun z => by subst z; omega
    obtain ⟨r, hr, hw⟩ := exists_in hm.sh hl.sh h ne (by have := hl.len; omega) (by have := hl.wide 0; omega)
    rw [F_in hm hl h ne]
    have hs := more_sh hm.sh hr
    have := more_sum (mem_inRows.mp hr).1
    exact sum_pos_of (List.mem_filter.mpr ⟨hr, (wiB_iff hs).mpr hw⟩) (F_pos n (hl.sub hs hw) hl hw (by omega))
theorem F_pos' {m l : List Nat} (hm : Bx 7 7 m) (hl : Bx 7 7 l) (h : wi m l) : 0 < F m l :=
  F_pos (l.sum - m.sum) hm hl h (by have := h.sum_le; omega)
theorem F_through {h w : Nat} (hh : h ≤ 7) (hw : w ≤ 7) {m l : List Nat} {k : Nat} (hm : Bx 7 7 m) (hl : Bx h w l) (h1 : m.sum ≤ k) (h2 : k ≤ l.sum) :
    (((boxS h w).filter fun v => decide (v.sum = k)).map fun v => F m v * F v l).sum = F m l := by
  have hl7 := hl.mono hh hw
  have e0 : l.sum - m.sum = (k - m.sum) + (l.sum - k) := by omega
  have e1 : F m l = (SS.map fun v => P (k - m.sum) m v * P (l.sum - k) v l).sum := by
    unfold F
    rw [e0, P_add _ _ l hm]
  rw [e1, ← sum_filter_if]
  have e2 : ((boxS h w).map fun v => if decide (v.sum = k) = true then F m v * F v l else 0).sum = ((boxS h w).map fun v => P (k - m.sum) m v * P (l.sum - k) v l).sum := sum_map_congr fun v hv => by
    have hv7 := Bx.mono hv hh hw
    by_cases c : v.sum = k
    · rw [decide_eq_true c, if_pos rfl, F_of (n := k - m.sum) (by omega), F_of (n := l.sum - k) (by omega)]
    · rw [decide_eq_false c, if_neg (by decide)]
      by_cases d : P (l.sum - k) v l = 0
      · rw [d, Nat.mul_zero]
      · have := (P_ne hv7 d).2
        omega
  rw [e2]
  refine sum_support _ (nodup_boxS h w) (nodup_boxS 7 7) fun v hne => ⟨fun hv => Bx.mono hv hh hw, fun hv => ?_⟩
  have d : P (l.sum - k) v l ≠ 0 := fun z => hne (by rw [z, Nat.mul_zero])
  exact hl.sub (Bx.sh hv) (P_ne hv d).1
end GS
namespace GS
theorem ilg (a b : Int) : a < b ∨ b ≤ a := by omega

/-! ### choices -/
def ch : Nat → Nat → Nat
  | _, 0 => 1
  | 0, _ + 1 => 0
  | n + 1, k + 1 => ch n k + ch n (k + 1)
theorem ch_zero (n : Nat) : ch n 0 = 1 := by cases n <;> rfl
theorem ch_gt : ∀ {n k : Nat}, n < k → ch n k = 0
  | 0, k + 1, _ => rfl
  | n + 1, k + 1, h => by rw [ch, ch_gt (by omega), ch_gt (by omega)]
theorem ch_self : ∀ n : Nat, ch n n = 1
  | 0 => rfl
  | n + 1 => by rw [ch, ch_self n, ch_gt (by omega)]
theorem ch_le : ∀ (n k : Nat), ch n k ≤ 2 ^ n
  | n, 0 => by rw [ch_zero]; exact Nat.one_le_two_pow
  | 0, k + 1 => by rw [ch]; exact Nat.zero_le _
  | n + 1, k + 1 => by
    rw [ch, Nat.pow_succ]
    have := ch_le n k
    have := ch_le n (k + 1)
    omega
def fact : Nat → Nat
  | 0 => 1
  | n + 1 => (n + 1) * fact n
theorem fact_pos : ∀ n, 0 < fact n
  | 0 => by decide
  | n + 1 => by rw [fact]; exact Nat.mul_pos (by omega) (fact_pos n)
theorem ch_fact : ∀ {n k : Nat}, k ≤ n → ch n k * (fact k * fact (n - k)) = fact n
  | n, 0, _ => by rw [ch_zero, fact, Nat.sub_zero]; omega
  | n + 1, k + 1, h => by
    have i1 := ch_fact (n := n) (k := k) (by omega)
    rw [show n + 1 - (k + 1) = n - k by omega, ch, fact, fact]
    rcases Nat.lt_or_ge n (k + 1) with c | c
    · have e : n = k := by omega
      subst e
      rw [ch_gt (show n < n + 1 by omega)]
      rw [Nat.sub_self] at i1 ⊢
      grind
    · have i2 := ch_fact (n := n) (k := k + 1) c
      obtain ⟨d, rfl⟩ : ∃ d, n = k + 1 + d := ⟨n - (k + 1), by omega⟩
      rw [show k + 1 + d - k = d + 1 by omega] at i1 ⊢
      rw [show k + 1 + d - (k + 1) = d by omega, fact] at i2
      rw [fact] at i1 ⊢
      grind
theorem ch_step {n k : Nat} (h : k < n) : ch n (k + 1) * (k + 1) = ch n k * (n - k) := by
  have i1 := ch_fact (n := n) (k := k) (by omega)
  have i2 := ch_fact (n := n) (k := k + 1) (by omega)
  obtain ⟨d, rfl⟩ : ∃ d, n = k + 1 + d := ⟨n - (k + 1), by omega⟩
  rw [show k + 1 + d - k = d + 1 by omega] at i1 ⊢
  rw [show k + 1 + d - (k + 1) = d by omega, fact] at i2
  rw [fact] at i1
  have p1 := fact_pos k
  have p2 := fact_pos d
  have : ch (k + 1 + d) (k + 1) * (k + 1) * (fact k * fact d) = ch (k + 1 + d) k * (d + 1) * (fact k * fact d) := by grind
  exact Nat.eq_of_mul_eq_mul_right (Nat.mul_pos p1 p2) this
theorem ch_swap {n u v : Nat} (h : u + v ≤ n) : ch n u * ch (n - u) v = ch n v * ch (n - v) u := by
  have a1 := ch_fact (n := n) (k := u) (by omega)
  have a2 := ch_fact (n := n - u) (k := v) (by omega)
  have b1 := ch_fact (n := n) (k := v) (by omega)
  have b2 := ch_fact (n := n - v) (k := u) (by omega)
  rw [show n - v - u = n - u - v by omega] at b2
  have p := Nat.mul_pos (fact_pos u) (Nat.mul_pos (fact_pos v) (fact_pos (n - u - v)))
  refine Nat.eq_of_mul_eq_mul_right p ?_
  grind
/-- the program's choices, of whole numbers -/
def chI (a b : Int) : Int := if b < 0 ∨ a < b then 0 else (ch a.toNat b.toNat : Int)
theorem chI_neg {a b : Int} (h : b < 0) : chI a b = 0 := by unfold chI; rw [if_pos (.inl h)]
theorem chI_gt {a b : Int} (h : a < b) : chI a b = 0 := by unfold chI; rw [if_pos (.inr h)]
theorem chI_nat (a b : Nat) : chI a b = ch a b := by
  unfold chI
  split
  · next h =>
    rw [ch_gt (by omega)]
    rfl
  · simp
theorem chI_nonneg (a b : Int) : 0 ≤ chI a b := by
  unfold chI
  split
  · exact Int.le_refl _
  · exact Int.natCast_nonneg _
theorem chI_zero {a : Int} (h : 0 ≤ a) : chI a 0 = 1 := by
  unfold chI
  rw [if_neg (by omega)]
  show ((ch a.toNat 0 : Nat) : Int) = 1
  rw [ch_zero]
  rfl
theorem chI_pascal {a b : Int} (h : 1 ≤ a) : chI a b = chI (a - 1) (b - 1) + chI (a - 1) b := by
  rcases ilg b 0 with c | c
  · rw [chI_neg c, chI_neg (show b - 1 < 0 by omega), chI_neg c]; rfl
  · obtain ⟨m, rfl⟩ := Int.eq_ofNat_of_zero_le c
    obtain ⟨n, hn⟩ := Int.eq_ofNat_of_zero_le (show 0 ≤ a - 1 by omega)
    have ha : a = ((n + 1 : Nat) : Int) := by omega
    subst ha
    have e : ((n + 1 : Nat) : Int) - 1 = (n : Nat) := by omega
    rw [e]
    cases m with
    | zero =>
      rw [chI_neg (show ((0 : Nat) : Int) - 1 < 0 by decide), chI_nat, chI_nat, ch_zero, ch_zero]
      rfl
    | succ m =>
      have e2 : ((m + 1 : Nat) : Int) - 1 = (m : Nat) := by omega
      rw [e2, chI_nat, chI_nat, chI_nat, ch]
      omega
theorem chI_swap (a u v : Int) : chI a u * chI (a - u) v = chI a v * chI (a - v) u := by
  rcases ilg u 0 with c | c
  · rw [chI_neg c, chI_neg (a := a - v) c]; simp
  rcases ilg v 0 with d | d
  · rw [chI_neg d, chI_neg (a := a) d]; simp
  rcases ilg a (u + v) with e | e
  · rw [chI_gt (show a - u < v by omega), chI_gt (show a - v < u by omega)]; simp
  obtain ⟨x, rfl⟩ := Int.eq_ofNat_of_zero_le c
  obtain ⟨y, rfl⟩ := Int.eq_ofNat_of_zero_le d
  obtain ⟨n, rfl⟩ := Int.eq_ofNat_of_zero_le (show 0 ≤ a by omega)
  have e1 : ((n : Nat) : Int) - (x : Nat) = ((n - x : Nat) : Int) := by omega
  have e2 : ((n : Nat) : Int) - (y : Nat) = ((n - y : Nat) : Int) := by omega
  rw [e1, e2, chI_nat, chI_nat, chI_nat, chI_nat]
  have := ch_swap (n := n) (u := x) (v := y) (by omega)
  exact_mod_cast this
theorem chI_le {a b : Int} {n : Nat} (h : a ≤ n) : chI a b ≤ 2 ^ n := by
  unfold chI
  split
  · exact Int.le_of_lt (Int.pow_pos (by decide))
  · have h1 := ch_le a.toNat b.toNat
    have h2 : 2 ^ a.toNat ≤ 2 ^ n := Nat.pow_le_pow_right (by decide) (by omega)
    have h3 := Nat.le_trans h1 h2
    exact_mod_cast h3

/-! ### the expansion of a square by its first row -/
def E : List Nat → (Nat → List Nat → Int) → Int
  | [], _ => 0
  | b :: bs, g => g b bs - E bs fun x r => g x (b :: r)
theorem E_congr {bs : List Nat} {g g' : Nat → List Nat → Int} (h : ∀ x r, (x :: r).Perm bs → g x r = g' x r) : E bs g = E bs g' := by
  induction bs generalizing g g' with
  | nil => rfl
  | cons b bs ih =>
    rw [E, E, h b bs (List.Perm.refl _), ih fun x r hp => h x (b :: r) ((List.Perm.swap b x r).trans (hp.cons b))]
theorem E_const0 {bs : List Nat} : E bs (fun _ _ => 0) = 0 := by
  induction bs with
  | nil => rfl
  | cons b bs ih => rw [E, ih]; rfl
theorem E_zero {bs : List Nat} {g : Nat → List Nat → Int} (h : ∀ x r, (x :: r).Perm bs → g x r = 0) : E bs g = 0 := by
  rw [E_congr (g' := fun _ _ => 0) h, E_const0]
theorem E_add {bs : List Nat} {g g' : Nat → List Nat → Int} : E bs (fun x r => g x r + g' x r) = E bs g + E bs g' := by
  induction bs generalizing g g' with
  | nil => rfl
  | cons b bs ih => rw [E, E, E, ih]; omega
theorem E_sub {bs : List Nat} {g g' : Nat → List Nat → Int} : E bs (fun x r => g x r - g' x r) = E bs g - E bs g' := by
  induction bs generalizing g g' with
  | nil => rfl
  | cons b bs ih => rw [E, E, E, ih]; omega
theorem E_mul {bs : List Nat} (k : Int) {g : Nat → List Nat → Int} : k * E bs g = E bs fun x r => k * g x r := by
  induction bs generalizing g with
  | nil => simp [E]
  | cons b bs ih => rw [E, E, Int.mul_sub, ih]
theorem E_swap {bs : List Nat} {h : Nat → Nat → List Nat → Int} (hs : ∀ x y r, h x y r = h y x r) : E bs (fun x r => E r fun y q => h x y q) = 0 := by
  induction bs generalizing h with
  | nil => rfl
  | cons b bs ih =>
    rw [E]
    have e : E bs (fun x r => E (b :: r) fun y q => h x y q) = E bs (fun x r => h x b r) - E bs fun x r => E r fun y q => h x y (b :: q) := by
      rw [← E_sub]
      rfl
    rw [e, ih (h := fun x y q => h x y (b :: q)) fun x y r => hs x y (b :: r)]
    rw [E_congr (g := fun x r => h x b r) (g' := fun x r => h b x r) fun x r _ => hs x b r]
    omega

/-! ### the square of factorials -/
/-- the program's recursion, the numbers of the rows as functions of the columns -/
def WB : List (Nat → Int) → List Nat → Int → Int
  | [], _, _ => 1
  | f :: fs, cols, L => E cols fun c rest => chI L (f c) * WB fs rest (L - f c)
section det
variable (b : Nat → Int)
def D (as : List Int) (cols : List Nat) (L : Int) : Int := WB (as.map fun a c => a - b c) cols L
theorem D_nil (cols : List Nat) (L : Int) : D b [] cols L = 1 := rfl
theorem D_cons (a : Int) (as : List Int) (cols : List Nat) (L : Int) : D b (a :: as) cols L = E cols fun c rest => chI L (a - b c) * D b as rest (L - (a - b c)) := rfl
def DS : List Int → List Nat → Int → Int
  | [], _, _ => 0
  | a :: as, cols, L => D b ((a - 1) :: as) cols L + E cols fun c rest => chI L (a - b c) * DS as rest (L - (a - b c))
def bsum (cols : List Nat) : Int := (cols.map b).sum
theorem bsum_perm {l m : List Nat} (h : l.Perm m) : bsum b l = bsum b m := by
  unfold bsum
  induction h with
  | nil => rfl
  | cons x _ ih => simp only [List.map_cons, List.sum_cons, ih]
  | swap x y l => simp only [List.map_cons, List.sum_cons]; omega
  | trans _ _ ih1 ih2 => exact ih1.trans ih2
theorem bsum_cons (c : Nat) (l : List Nat) : bsum b (c :: l) = b c + bsum b l := by simp [bsum]
/-- a cell less in one of the rows, in all ways -/
theorem D_derive (as : List Int) (cols : List Nat) (L : Int) (hl : as.length = cols.length) (hs : as.sum - bsum b cols = L) (h1 : 1 ≤ L) : D b as cols L = DS b as cols (L - 1) := by
  induction as generalizing cols L with
  | nil =>
    have : cols = [] := List.length_eq_zero_iff.mp hl.symm
    subst this
    simp [bsum] at hs
    omega
  | cons a as ih =>
    rw [D_cons, DS, D_cons, ← E_add]
    refine E_congr fun c rest hp => ?_
    have e1 := bsum_perm b hp
    rw [bsum_cons] at e1
    have e2 : rest.length + 1 = cols.length := by simpa using hp.length_eq
    rw [List.sum_cons] at hs
    simp only [List.length_cons] at hl
    have ex : L - 1 - (a - 1 - b c) = L - (a - b c) := by omega
    have ey : a - 1 - b c = a - b c - 1 := by omega
    rw [ex, ey, chI_pascal h1 (b := a - b c)]
    rcases ilg (L - (a - b c)) 1 with d | d
    · rw [chI_gt (show L - 1 < a - b c by omega)]
      simp
    · rw [ih rest (L - (a - b c)) (by omega) (by omega) d]
      have ez : L - 1 - (a - b c) = L - (a - b c) - 1 := by omega
      rw [ez, Int.add_mul]
theorem D_alt (pre : List Int) (a : Int) (post : List Int) (cols : List Nat) (L : Int) : D b (pre ++ a :: a :: post) cols L = 0 := by
  induction pre generalizing cols L with
  | nil =>
    rw [List.nil_append, D_cons]
    have e : ∀ x r, chI L (a - b x) * D b (a :: post) r (L - (a - b x)) = E r fun y q => chI L (a - b x) * (chI (L - (a - b x)) (a - b y) * D b post q (L - (a - b x) - (a - b y))) := fun x r => by
      rw [D_cons, E_mul]
    rw [E_congr fun x r _ => e x r]
    refine E_swap fun x y r => ?_
    have e2 : L - (a - b x) - (a - b y) = L - (a - b y) - (a - b x) := by omega
    rw [e2, ← Int.mul_assoc, ← Int.mul_assoc, chI_swap]
  | cons p pre ih =>
    rw [List.cons_append, D_cons]
    refine E_zero fun x r _ => ?_
    rw [ih, Int.mul_zero]
theorem D_block0 (suf : List Int) (bad : Nat → Bool) (hb : ∀ a ∈ suf, ∀ c, bad c = true → a - b c < 0) (cols : List Nat) (L : Int) (hl : cols.length = suf.length) (hc : 0 < cols.countP bad) : D b suf cols L = 0 := by
  induction suf generalizing cols L with
  | nil =>
    have : cols = [] := List.length_eq_zero_iff.mp hl
    subst this
    simp at hc
  | cons a suf ih =>
    rw [D_cons]
    refine E_zero fun x r hp => ?_
    have e1 := hp.countP_eq bad
    have e2 := hp.length_eq
    rw [List.countP_cons] at e1
    simp only [List.length_cons] at e2 hl
    by_cases c : bad x = true
    · rw [chI_neg (hb a List.mem_cons_self x c), Int.zero_mul]
    · rw [if_neg c] at e1
      rw [ih (fun a ha => hb a (List.mem_cons_of_mem _ ha)) r _ (by omega) (by omega), Int.mul_zero]
theorem D_block (pre suf : List Int) (bad : Nat → Bool) (hb : ∀ a ∈ suf, ∀ c, bad c = true → a - b c < 0) (cols : List Nat) (L : Int) (hl : cols.length = pre.length + suf.length) (hc : pre.length < cols.countP bad) : D b (pre ++ suf) cols L = 0 := by
  induction pre generalizing cols L with
  | nil => exact D_block0 b suf bad hb cols L (by simpa using hl) (by simpa using hc)
  | cons p pre ih =>
    rw [List.cons_append, D_cons]
    refine E_zero fun x r hp => ?_
    have e1 := hp.countP_eq bad
    have e2 := hp.length_eq
    rw [List.countP_cons] at e1
    simp only [List.length_cons] at e2 hl hc
    have e3 : (if bad x = true then 1 else 0) ≤ 1 := by split <;> omega
    rw [ih r _ (by omega) (by omega), Int.mul_zero]
theorem D_diag (cols : List Nat) (h : cols.Pairwise fun x y => b y < b x) : D b (cols.map b) cols 0 = 1 := by
  induction cols with
  | nil => rfl
  | cons c cols ih =>
    rw [List.pairwise_cons] at h
    rw [List.map_cons, D_cons, E, Int.sub_self, chI_zero (by decide)]
    have e : E cols (fun x r => chI 0 (b c - b x) * D b (cols.map b) (c :: r) (0 - (b c - b x))) = 0 := E_zero fun x r hp => by
      have := h.1 x (hp.mem_iff.mp List.mem_cons_self)
      rw [chI_gt (show 0 < b c - b x by omega), Int.zero_mul]
    rw [e, Int.sub_zero 0, ih h.2]
    rfl
/-- DS by places -/
theorem DS_sum (as : List Int) (cols : List Nat) (L : Int) : DS b as cols L = ((List.range as.length).map fun i => D b (as.set i (as.getD i 0 - 1)) cols L).sum := by
  induction as generalizing cols L with
  | nil => rfl
  | cons a as ih =>
    rw [DS, List.length_cons, List.range_succ_eq_map, List.map_cons, List.sum_cons, List.map_map]
    refine congr (congrArg _ ?_) ?_
    · simp
    · have e : ∀ n, E cols (fun c rest => chI L (a - b c) * ((List.range n).map fun i => D b (as.set i (as.getD i 0 - 1)) rest (L - (a - b c))).sum) = ((List.range n).map ((fun i => D b ((a :: as).set i ((a :: as).getD i 0 - 1)) cols L) ∘ Nat.succ)).sum := fun n => by
        induction n with
        | zero => simp [E_const0]
        | succ n ihn =>
          rw [List.range_succ, List.map_append, List.sum_append, ← ihn]
          simp only [List.map_append, List.sum_append, Int.mul_add, List.map_cons, List.map_nil, List.sum_cons, List.sum_nil, Int.add_zero]
          rw [E_add]
          rfl
      rw [← e as.length]
      exact E_congr fun c rest _ => by rw [ih]
end det

/-! ### chains by the square -/
def aOf (l : List Nat) (i : Nat) : Int := (row l i : Int) - i
def Adet (N : Nat) (m l : List Nat) (L : Int) : Int := D (aOf m) ((List.range N).map (aOf l)) (List.range N) L
theorem aOf_lt {l : List Nat} (h : IsSh l) {i j : Nat} (hij : i < j) : aOf l j < aOf l i := by
  have := h.mono (Nat.le_of_lt hij)
  unfold aOf
  omega
theorem aOf_sum : ∀ {l : List Nat} (N : Nat), ((List.range N).map (aOf l)).sum = (ps (row l) N : Int) - (ps (fun i => i) N : Int)
  | _, 0 => rfl
  | l, N + 1 => by
    rw [List.range_succ, List.map_append, List.sum_append, aOf_sum N, ps, ps]
    simp [aOf]
    omega
theorem countP_range_le (N k : Nat) (h : k < N) : (List.range N).countP (fun c => decide (c ≤ k)) = k + 1 := by
  induction N with
  | zero => omega
  | succ N ih =>
    rw [List.range_succ, List.countP_append]
    by_cases c : k < N
    · rw [ih c]
      simp
      omega
    · have e : k = N := by omega
      subst e
      have : (List.range k).countP (fun c => decide (c ≤ k)) = (List.range k).length := List.countP_eq_length.mpr fun x hx => by
        have := List.mem_range.mp hx
        simp
        omega
      rw [this, List.length_range]
      simp
/-- where a row of the greater one is shorter, the square is worth nothing -/
theorem D_short {N : Nat} {m : List Nat} (hm : IsSh m) (f : Nat → Int) {i : Nat} (hi : i < N) (hf : ∀ j, i ≤ j → j < N → f j ≤ f i - (j - i : Nat)) (h : f i < aOf m i) (L : Int) : D (aOf m) ((List.range N).map f) (List.range N) L = 0 := by
  have e : List.range N = List.range i ++ (List.range (N - i)).map (i + ·) := by
    rw [← List.range_add]
    congr 1
    omega
  have e2 : (List.range N).map f = (List.range i).map f ++ ((List.range (N - i)).map (i + ·)).map f := by
    rw [← List.map_append, ← e]
  rw [e2]
  refine D_block (aOf m) _ _ (fun c => decide (c ≤ i)) (fun a ha c hc => ?_) _ _ (by simp; omega) ?_
  · have hc' : c ≤ i := of_decide_eq_true hc
    rw [List.map_map, List.mem_map] at ha
    obtain ⟨k, hk, rfl⟩ := ha
    have hk' := List.mem_range.mp hk
    have h1 := hf (i + k) (by omega) (by omega)
    have h2 : aOf m i ≤ aOf m c := by
      rcases Nat.lt_or_ge c i with d | d
      · exact Int.le_of_lt (aOf_lt hm d)
      · have : c = i := by omega
        subst this
        exact Int.le_refl _
    show f (i + k) - aOf m c < 0
    omega
  · rw [countP_range_le N i hi, List.length_map, List.length_range]
    omega
theorem aOf_drop {l : List Nat} (h : IsSh l) (i j : Nat) (hij : i ≤ j) : aOf l j ≤ aOf l i - (j - i : Nat) := by
  have := h.mono hij
  unfold aOf
  omega
theorem range_set {α : Type} (N i : Nat) (f g : Nat → α) (v : α) (h : ∀ j, j < N → g j = if j = i then v else f j) : ((List.range N).map f).set i v = (List.range N).map g := by
  refine List.ext_getElem (by simp) fun k h1 h2 => ?_
  rw [List.getElem_set]
  simp only [List.getElem_map, List.getElem_range]
  have hk : k < N := by simpa using h2
  rw [h k hk]
  by_cases c : i = k
  · subst c; simp
  · have : ¬ k = i := fun z => c z.symm
    simp [c, this]
theorem sum_cast {α : Type} (l : List α) (f : α → Nat) : (((l.map f).sum : Nat) : Int) = (l.map fun x => (f x : Int)).sum := by
  induction l with
  | nil => rfl
  | cons a l ih => simp only [List.map_cons, List.sum_cons, ← ih]; omega
theorem aitken (N : Nat) (n : Nat) {m l : List Nat} (hm : Bx 7 7 m) (hl : Bx 7 7 l) (hN : l.length ≤ N) (h : wi m l) (hn : l.sum = m.sum + n) : (F m l : Int) = Adet N m l n := by
  induction n generalizing l with
  | zero =>
    have e : m = l := h.eq_of_sum hm.sh hl.sh (by omega)
    subst e
    rw [F_self]
    unfold Adet
    rw [show ((0 : Nat) : Int) = 0 from rfl, D_diag]
    · rfl
    · have : (List.range N).Pairwise (fun x y => x < y) := List.pairwise_lt_range
      exact this.imp fun h => aOf_lt hm.sh h
  | succ n ih =>
    have ne : m ≠ l := fun z => by subst z; omega
    have hmN : m.length ≤ N := Nat.le_trans (h.len hm.sh) hN
    have hsum : ((List.range N).map (aOf l)).sum - bsum (aOf m) (List.range N) = ((n + 1 : Nat) : Int) := by
      unfold bsum
      rw [aOf_sum, aOf_sum, ← sum_ps hN, ← sum_ps hmN]
      omega
    unfold Adet
    rw [D_derive (aOf m) _ _ _ (by simp) hsum (by omega), DS_sum, List.length_map, List.length_range, F_out hm hl h ne]
    have e1 : ((outRows l).map fun r => F m (less l r)).sum = ((List.range N).map fun r => if r ∈ outRows l then F m (less l r) else 0).sum := by
      have e0 : ((List.range N).map fun r => if r ∈ outRows l then F m (less l r) else 0).sum = (((List.range N).filter fun r => decide (r ∈ outRows l)).map fun r => F m (less l r)).sum := by
        rw [← sum_filter_if]
        exact sum_map_congr fun x _ => by simp
      rw [e0]
      refine sum_perm _ ((List.perm_ext_iff_of_nodup (nodup_outRows l) (List.nodup_range.filter _)).mpr fun r => ?_)
      rw [List.mem_filter, List.mem_range, decide_eq_true_iff]
      refine ⟨fun hr => ⟨?_, hr⟩, fun hr => hr.2⟩
      have := (mem_outRows.mp hr).1
      omega
    rw [e1, sum_cast]
    refine congrArg List.sum (List.map_congr_left fun r hr => ?_)
    rw [List.mem_range] at hr
    have eg : ((List.range N).map (aOf l)).getD r 0 = aOf l r := by
      simp [List.getD_eq_getElem?_getD, hr]
    rw [eg, show ((n + 1 : Nat) : Int) - 1 = (n : Nat) by omega]
    split
    · next ho =>
      have hs := less_sh hl.sh ho
      have hb := hl.sub hs (less_wi hl.sh ho)
      have hsm := less_sum hl.sh ho
      have er := row_less hl.sh ho
      have epos := (mem_outRows.mp ho).2
      have ea : ((List.range N).map (aOf l)).set r (aOf l r - 1) = (List.range N).map (aOf (less l r)) := range_set N r _ _ _ fun j _ => by
        unfold aOf
        rw [er]
        split
        · next e => subst e; omega
        · rfl
      rw [ea]
      by_cases hw : wi m (less l r)
      · exact ih hb (Nat.le_trans (less_len ho) hN) hw (by omega)
      · rw [F_not hm hw]
        have hlt : aOf (less l r) r < aOf m r := by
          have : ∃ i, ¬ row m i ≤ row (less l r) i := Classical.not_forall.mp hw
          obtain ⟨i, hi⟩ := this
          have hi2 := h i
          rw [er] at hi
          by_cases c : i = r
          · subst c
            rw [if_pos rfl] at hi
            unfold aOf
            rw [er, if_pos rfl]
            omega
          · rw [if_neg c] at hi; omega
        rw [D_short hm.sh (aOf (less l r)) hr (fun j hj _ => aOf_drop hs r j hj) hlt]
        rfl
    · next ho =>
      have heq : row l (r + 1) = row l r := by
        have := hl.sh.dec r
        have h2 : ¬ row l (r + 1) < row l r := fun z => ho (mem_outRows'.mpr z)
        omega
      by_cases c : r + 1 < N
      · have e : ((List.range N).map (aOf l)).set r (aOf l r - 1) = (List.range r).map (aOf l) ++ (aOf l (r + 1)) :: (aOf l (r + 1)) :: ((List.range (N - (r + 2))).map fun k => aOf l (r + 2 + k)) := by
          have ev : aOf l r - 1 = aOf l (r + 1) := by unfold aOf; omega
          have eN : N = r + ((N - (r + 2)) + 2) := by omega
          have er : List.range N = List.range r ++ r :: (r + 1) :: (List.range (N - (r + 2))).map (r + 2 + ·) := by
            rw [eN, List.range_add]
            congr 1
            rw [show r + (N - (r + 2) + 2) - (r + 2) = N - (r + 2) by omega, Nat.add_comm (N - (r + 2)) 2, List.range_add, List.map_append, List.map_map]
            have e2 : List.range 2 = [0, 1] := rfl
            rw [e2]
            simp only [List.map_cons, List.map_nil, List.cons_append, List.nil_append, Nat.add_zero, Function.comp_def, Nat.add_assoc]
          rw [er, List.map_append, List.set_append_right _ _ (by simp), List.length_map, List.length_range, Nat.sub_self, List.map_cons, List.set_cons_zero, ev, List.map_cons, List.map_map]
          rfl
        rw [e, D_alt]
        rfl
      · have e0 : row l r = 0 := by rw [← heq]; exact row_ge (by omega)
        have e : ((List.range N).map (aOf l)).set r (aOf l r - 1) = (List.range N).map fun j => if j = r then aOf l r - 1 else aOf l j := range_set N r _ _ _ fun j _ => rfl
        rw [e, D_short hm.sh _ hr]
        · rfl
        · intro j hj hjN
          have d : j = r := by omega
          subst d
          simp
        · show (if r = r then aOf l r - 1 else aOf l r) < aOf m r
          rw [if_pos rfl]
          unfold aOf
          rw [e0]
          omega
theorem F_square {m l : List Nat} (hm : Bx 7 7 m) (hl : Bx 7 7 l) (h : wi m l) : (F m l : Int) = Adet l.length m l ((l.sum : Int) - m.sum) := by
  have hs := h.sum_le
  rw [aitken l.length (l.sum - m.sum) hm hl (Nat.le_refl _) h (by omega)]
  congr 1
  omega
end GS
namespace GS

/-! ### noughts left out -/
theorem row_noughts : ∀ {l : List Nat}, (∀ i, row l (i + 1) ≤ row l i) → ∀ i, row (l.filter fun x => decide (0 < x)) i = row l i
  | [], _, i => rfl
  | a :: l, h, i => by
    have h' : ∀ i, row l (i + 1) ≤ row l i := fun i => by simpa [row_succ] using h (i + 1)
    have ih := row_noughts h'
    rw [List.filter_cons]
    by_cases c : 0 < a
    · rw [if_pos (decide_eq_true c)]
      cases i with
      | zero => rw [row_zero, row_zero]
      | succ i => rw [row_succ, row_succ]; exact ih i
    · rw [if_neg (by simpa using c), ih]
      have z : ∀ i, row (a :: l) i = 0 := fun i => by
        induction i with
        | zero => rw [row_zero]; omega
        | succ i ih2 => have := h i; omega
      have z1 := z i
      have z2 := z (i + 1)
      rw [row_succ] at z2
      omega
theorem noughts_sh {l : List Nat} (h : ∀ i, row l (i + 1) ≤ row l i) : IsSh (l.filter fun x => decide (0 < x)) := by
  refine ⟨fun i => by rw [row_noughts h, row_noughts h]; exact h i, fun i hi => ?_⟩
  rw [row_get hi]
  exact of_decide_eq_true (List.mem_filter.mp (List.getElem_mem hi)).2
theorem row_mapRange (f : Nat → Nat) (n i : Nat) : row ((List.range n).map f) i = if i < n then f i else 0 := by
  by_cases h : i < n
  · rw [if_pos h, row_get (by simpa using h)]
    simp
  · rw [if_neg h, row_ge (by simpa using h)]

/-! ### turned about -/
def cnt (l : List Nat) (c : Nat) : Nat := (l.filter fun x => decide (c < x)).length
def T (l : List Nat) : List Nat := (List.range (row l 0)).map (cnt l)
theorem cnt_iff : ∀ {l : List Nat}, IsSh l → ∀ i c, i < cnt l c ↔ c < row l i
  | [], _, i, c => by simp [cnt, row_nil]
  | a :: l, h, i, c => by
    obtain ⟨h0, h1, h2⟩ := IsSh.cons_iff.mp h
    have ih := cnt_iff h2
    have e : cnt (a :: l) c = (if c < a then 1 else 0) + cnt l c := by
      unfold cnt
      rw [List.filter_cons]
      by_cases d : c < a
      · rw [if_pos (decide_eq_true d), if_pos d, List.length_cons]; omega
      · rw [if_neg (by simpa using d), if_neg d]; omega
    rw [e]
    by_cases d : c < a
    · rw [if_pos d]
      cases i with
      | zero => rw [row_zero]; omega
      | succ i =>
        rw [row_succ, ← ih i c]
        omega
    · rw [if_neg d]
      have z : ¬ 0 < cnt l c := fun q => by
        have := (ih 0 c).mp q
        omega
      have m := h.mono (Nat.zero_le i)
      rw [row_zero] at m
      omega
theorem T_iff {l : List Nat} (h : IsSh l) (i c : Nat) : i < row (T l) c ↔ c < row l i := by
  unfold T
  rw [row_mapRange]
  split
  · exact cnt_iff h i c
  · next d =>
    have := h.mono (Nat.zero_le i)
    omega
theorem T_sh {l : List Nat} (h : IsSh l) : IsSh (T l) := by
  refine ⟨fun c => ?_, fun c hc => ?_⟩
  · rcases Nat.lt_or_ge (row (T l) c) (row (T l) (c + 1)) with d | d
    · have h1 := (T_iff h _ _).mp d
      have h2 := (T_iff h (row (T l) c) c).mpr (by omega)
      omega
    · exact d
  · refine (T_iff h 0 c).mpr ?_
    unfold T at hc
    simpa using hc
theorem eq_of_lt_iff {a b : Nat} (h : ∀ c, c < a ↔ c < b) : a = b := by
  have h1 := h a
  have h2 := h b
  omega
theorem T_T {l : List Nat} (h : IsSh l) : T (T l) = l :=
  (T_sh (T_sh h)).ext h fun i => eq_of_lt_iff fun c => (T_iff (T_sh h) c i).trans (T_iff h i c)
theorem T_len (l : List Nat) : (T l).length = row l 0 := by unfold T; simp
theorem T_box {h w : Nat} {l : List Nat} (b : Bx h w l) : Bx w h (T l) := by
  refine mem_boxS.mpr ⟨T_sh b.sh, by rw [T_len]; exact b.wide 0, ?_⟩
  rcases Nat.lt_or_ge h (row (T l) 0) with c | c
  · have := (T_iff b.sh h 0).mp c
    have h2 := b.len
    rw [row_ge h2] at this
    omega
  · exact c
theorem T_wi {m l : List Nat} (hm : IsSh m) (hl : IsSh l) (h : wi m l) : wi (T m) (T l) := fun c => by
  rcases Nat.lt_or_ge (row (T l) c) (row (T m) c) with d | d
  · have h1 := (T_iff hm _ _).mp d
    have h2 := h (row (T l) c)
    have h3 := (T_iff hl (row (T l) c) c).mpr (by omega)
    omega
  · exact d
theorem T_wi_iff {m l : List Nat} (hm : IsSh m) (hl : IsSh l) : wi (T m) (T l) ↔ wi m l :=
  ⟨fun h => by have := T_wi (T_sh hm) (T_sh hl) h; rwa [T_T hm, T_T hl] at this, T_wi hm hl⟩
theorem ps_ind (r : Nat) : ∀ n, ps (fun c => if c < r then 1 else 0) n = min r n
  | 0 => by simp [ps]
  | n + 1 => by
    rw [ps, ps_ind r n]
    split <;> omega
theorem ps_add (f g : Nat → Nat) : ∀ n, ps (fun i => f i + g i) n = ps f n + ps g n
  | 0 => rfl
  | n + 1 => by rw [ps, ps, ps, ps_add f g n]; omega
theorem ps_swap (f : Nat → Nat → Nat) (m : Nat) : ∀ n, ps (fun i => ps (fun c => f i c) m) n = ps (fun c => ps (fun i => f i c) n) m
  | 0 => by simp only [ps, ps_zero]
  | n + 1 => by
    rw [ps, ps_swap f m n, ← ps_add]
    rfl
theorem sum_cells {h w : Nat} {l : List Nat} (b : Bx h w l) : l.sum = ps (fun i => ps (fun c => if c < row l i then 1 else 0) w) h := by
  rw [sum_ps b.len]
  refine ps_congr fun i _ => ?_
  rw [ps_ind]
  have := b.wide i
  omega
theorem T_sum {h w : Nat} {l : List Nat} (b : Bx h w l) : (T l).sum = l.sum := by
  rw [sum_cells b, sum_cells (T_box b), ps_swap]
  refine ps_congr fun i _ => ps_congr fun c _ => ?_
  have := T_iff b.sh i c
  by_cases d : c < row l i
  · rw [if_pos d, if_pos (this.mpr d)]
  · rw [if_neg d, if_neg fun q => d (this.mp q)]
theorem T_cov {m l : List Nat} (hm : Bx 7 7 m) (hl : Bx 7 7 l) : cov (T m) (T l) = cov m l := by
  rw [Bool.eq_iff_iff, cov_iff (T_sh hm.sh), cov_iff hm.sh, T_wi_iff hm.sh hl.sh, T_sum hm, T_sum hl]
theorem perm_map_invol {α : Type} {S : List α} {φ : α → α} (d : S.Nodup) (h1 : ∀ x ∈ S, φ x ∈ S) (h2 : ∀ x ∈ S, φ (φ x) = x) : (S.map φ).Perm S := by
  refine (List.perm_ext_iff_of_nodup (nodup_map_of_inj d fun x hx y hy e => ?_) d).mpr fun x => ?_
  · rw [← h2 x hx, e, h2 y hy]
  · rw [List.mem_map]
    constructor
    · rintro ⟨y, hy, rfl⟩; exact h1 y hy
    · intro hx; exact ⟨φ x, h1 x hx, h2 x hx⟩
theorem sum_reindex {α : Type} {S : List α} {φ : α → α} (d : S.Nodup) (h1 : ∀ x ∈ S, φ x ∈ S) (h2 : ∀ x ∈ S, φ (φ x) = x) (f : α → Nat) : (S.map f).sum = (S.map fun x => f (φ x)).sum := by
  rw [← sum_perm f (perm_map_invol d h1 h2), List.map_map]
  rfl
theorem P_T (n : Nat) {m l : List Nat} (hm : Bx 7 7 m) (hl : Bx 7 7 l) : P n (T m) (T l) = P n m l := by
  induction n generalizing m with
  | zero =>
    rw [P_zero, P_zero]
    by_cases c : m = l
    · subst c; rw [if_pos rfl, if_pos rfl]
    · rw [if_neg c, if_neg fun e => c ?_]
      rw [← T_T hm.sh, e, T_T hl.sh]
  | succ n ih =>
    rw [P_succ, P_succ, sum_reindex (φ := T) (nodup_boxS 7 7) (fun x hx => T_box hx) (fun x hx => T_T (Bx.sh hx))]
    refine sum_map_congr fun v hv => ?_
    rw [T_cov hm hv, ih hv]
theorem F_T {m l : List Nat} (hm : Bx 7 7 m) (hl : Bx 7 7 l) : F (T m) (T l) = F m l := by
  unfold F
  rw [T_sum hm, T_sum hl, P_T _ hm hl]

/-! ### the others of a box -/
def Cm (h w : Nat) (l : List Nat) : List Nat := (((List.range h).map fun r => w - row l r).reverse).filter fun x => decide (0 < x)
theorem Cm_pre (h w : Nat) (l : List Nat) : ((List.range h).map fun r => w - row l r).reverse = (List.range h).map fun i => w - row l (h - 1 - i) := by
  refine List.ext_getElem (by simp) fun k h1 h2 => ?_
  rw [List.getElem_reverse]
  simp
theorem Cm_dec {h w : Nat} {l : List Nat} (hs : IsSh l) (i : Nat) : row ((List.range h).map fun i => w - row l (h - 1 - i)) (i + 1) ≤ row ((List.range h).map fun i => w - row l (h - 1 - i)) i := by
  rw [row_mapRange, row_mapRange]
  split
  · next c =>
    rw [if_pos (by omega)]
    have := hs.mono (show h - 1 - (i + 1) ≤ h - 1 - i by omega)
    omega
  · exact Nat.zero_le _
theorem Cm_row {h w : Nat} {l : List Nat} (hs : IsSh l) (i : Nat) : row (Cm h w l) i = if i < h then w - row l (h - 1 - i) else 0 := by
  unfold Cm
  rw [Cm_pre, row_noughts (Cm_dec hs), row_mapRange]
theorem Cm_sh {h w : Nat} {l : List Nat} (hs : IsSh l) : IsSh (Cm h w l) := by
  unfold Cm
  rw [Cm_pre]
  exact noughts_sh (Cm_dec hs)
theorem Cm_box {h w : Nat} {l : List Nat} (hs : IsSh l) : Bx h w (Cm h w l) := by
  refine mem_boxS.mpr ⟨Cm_sh hs, ?_, ?_⟩
  · unfold Cm
    refine Nat.le_trans (List.length_filter_le _ _) ?_
    simp
  · rw [Cm_row hs]
    split <;> omega
theorem Cm_Cm {h w : Nat} {l : List Nat} (b : Bx h w l) : Cm h w (Cm h w l) = l := by
  refine (Cm_sh (Cm_sh b.sh)).ext b.sh fun i => ?_
  rw [Cm_row (Cm_sh b.sh)]
  have := b.wide i
  split
  · next c =>
    rw [Cm_row b.sh, if_pos (by omega), show h - 1 - (h - 1 - i) = i by omega]
    omega
  · next c =>
    rw [row_ge (by have := b.len; omega)]
theorem Cm_wi {h w : Nat} {m l : List Nat} (hm : IsSh m) (hl : IsSh l) (k : wi m l) : wi (Cm h w l) (Cm h w m) := fun i => by
  rw [Cm_row hm, Cm_row hl]
  split
  · have := k (h - 1 - i); omega
  · exact Nat.le_refl _
theorem ps_rev (f : Nat → Nat) : ∀ n, ps (fun i => f (n - 1 - i)) n = ps f n
  | 0 => rfl
  | n + 1 => by
    rw [ps_shift, ps]
    have e : ps (fun i => f (n + 1 - 1 - (i + 1))) n = ps (fun i => f (n - 1 - i)) n := ps_congr fun i hi => by
      congr 1
      omega
    rw [e, ps_rev f n, show n + 1 - 1 - 0 = n by omega]
    omega
theorem ps_const (c : Nat) : ∀ n, ps (fun _ => c) n = n * c
  | 0 => by simp [ps]
  | n + 1 => by rw [ps, ps_const c n, Nat.succ_mul]
theorem Cm_sum {h w : Nat} {l : List Nat} (b : Bx h w l) : (Cm h w l).sum + l.sum = h * w := by
  rw [sum_ps (Cm_box (h := h) (w := w) b.sh).len, sum_ps b.len, ← ps_rev (row l), ← ps_add, ← ps_const w h]
  refine ps_congr fun i hi => ?_
  rw [Cm_row b.sh, if_pos hi]
  have := b.wide (h - 1 - i)
  omega
theorem Cm_cov {h w : Nat} {m l : List Nat} (hm : Bx h w m) (hl : Bx h w l) : cov (Cm h w l) (Cm h w m) = cov m l := by
  rw [Bool.eq_iff_iff, cov_iff (Cm_sh hl.sh), cov_iff hm.sh]
  have e1 := Cm_sum hm
  have e2 := Cm_sum hl
  constructor
  · rintro ⟨h1, h2⟩
    refine ⟨?_, by omega⟩
    have := Cm_wi (h := h) (w := w) (Cm_sh hl.sh) (Cm_sh hm.sh) h1
    rwa [Cm_Cm hm, Cm_Cm hl] at this
  · rintro ⟨h1, h2⟩
    exact ⟨Cm_wi hm.sh hl.sh h1, by omega⟩
theorem P_Cm {h w : Nat} (hh : h ≤ 7) (hw : w ≤ 7) (n : Nat) {m l : List Nat} (hm : Bx h w m) (hl : Bx h w l) : P n (Cm h w l) (Cm h w m) = P n m l := by
  induction n generalizing m with
  | zero =>
    rw [P_zero, P_zero]
    by_cases c : m = l
    · subst c; rw [if_pos rfl, if_pos rfl]
    · rw [if_neg c, if_neg fun e => c ?_]
      rw [← Cm_Cm hm, ← e, Cm_Cm hl]
  | succ n ih =>
    have bm := (Cm_box (h := h) (w := w) hm.sh)
    have bl := (Cm_box (h := h) (w := w) hl.sh)
    rw [P_last n (bl.mono hh hw) (bm.mono hh hw), P_succ]
    have e1 : (SS.map fun v => if cov v (Cm h w m) = true then P n (Cm h w l) v else 0).sum = ((boxS h w).map fun v => if cov v (Cm h w m) = true then P n (Cm h w l) v else 0).sum := by
      refine sum_support _ (nodup_boxS 7 7) (nodup_boxS h w) fun v hne => ⟨fun hv => ?_, fun hv => Bx.mono hv hh hw⟩
      by_cases c : cov v (Cm h w m) = true
      · exact bm.sub (Bx.sh hv) ((cov_iff (Bx.sh hv)).mp c).1
      · rw [if_neg c] at hne; exact absurd rfl hne
    have e2 : (SS.map fun v => if cov m v = true then P n v l else 0).sum = ((boxS h w).map fun v => if cov m v = true then P n v l else 0).sum := by
      refine sum_support _ (nodup_boxS 7 7) (nodup_boxS h w) fun v hne => ⟨fun hv => ?_, fun hv => Bx.mono hv hh hw⟩
      by_cases c : P n v l = 0
      · rw [c] at hne; simp at hne
      · exact hl.sub (Bx.sh hv) (P_ne hv c).1
    rw [e1, e2, sum_reindex (φ := Cm h w) (nodup_boxS h w) (fun x hx => Cm_box (Bx.sh hx)) (fun x hx => Cm_Cm hx)]
    refine sum_map_congr fun v hv => ?_
    rw [Cm_cov hm hv, ih hv]
theorem F_Cm {h w : Nat} (hh : h ≤ 7) (hw : w ≤ 7) {m l : List Nat} (hm : Bx h w m) (hl : Bx h w l) : F (Cm h w l) (Cm h w m) = F m l := by
  unfold F
  have e1 := Cm_sum hm
  have e2 := Cm_sum hl
  rw [← P_Cm hh hw _ hm hl]
  congr 1
  omega
end GS
namespace GS

/-! ### hooks -/
def prodTo (f : Nat → Nat) : Nat → Nat
  | 0 => 1
  | n + 1 => prodTo f n * f n
def Hk : List Nat → Nat
  | [] => 1
  | a :: l => prodTo (fun c => a - c + cnt l c) a * Hk l
def hk (l : List Nat) : Nat := fact l.sum / Hk l
def hkOk (l : List Nat) : Bool := l.isEmpty || Nat.beq (hk l) ((outRows l).map fun r => hk (less l r)).sum
theorem hk_all : (boxS 6 6).all hkOk = true := by decide +kernel
def sqOk (n : Nat) : Bool := Nat.beq (((boxS n n).filter fun l => decide (l.sum = n)).map fun l => hk l * hk l).sum (fact n)
theorem sq_all : (List.range 6).all sqOk = true := by decide +kernel
theorem hook_nil : hk [] = 1 := by decide
theorem F_hook (n : Nat) {l : List Nat} (b : Bx 6 6 l) (h : l.sum = n) : F [] l = hk l := by
  induction n generalizing l with
  | zero =>
    have : ([] : List Nat) = l := (wi_nil l).eq_of_sum IsSh.nil b.sh (by rw [h]; rfl)
    subst this
    rw [F_self, hook_nil]
  | succ n ih =>
    have ne : ([] : List Nat) ≠ l := fun e => by subst e; simp at h
    have b7 := b.mono (show 6 ≤ 7 by decide) (show 6 ≤ 7 by decide)
    have nb : Bx 7 7 [] := mem_boxS.mpr ⟨IsSh.nil, Nat.zero_le _, by rw [row_nil]; exact Nat.zero_le _⟩
    have q := List.all_eq_true.mp hk_all l b
    unfold hkOk at q
    rw [Bool.or_eq_true] at q
    rcases q with q | q
    · exact absurd (List.isEmpty_iff.mp q).symm ne
    · rw [Nat.eq_of_beq_eq_true q, F_out nb b7 (wi_nil l) ne]
      refine sum_map_congr fun r hr => ?_
      have := less_sum b.sh hr
      exact ih (b.sub (less_sh b.sh hr) (less_wi b.sh hr)) (by omega)
theorem hook_law {l : List Nat} (b : Bx 6 6 l) : F [] l = hk l := F_hook l.sum b rfl
theorem squares {n : Nat} (h : n < 6) : (((boxS n n).filter fun l => decide (l.sum = n)).map fun l => hk l * F [] l).sum = fact n := by
  have q := List.all_eq_true.mp sq_all n (List.mem_range.mpr h)
  rw [← Nat.eq_of_beq_eq_true q]
  refine sum_map_congr fun l hl => ?_
  have b : Bx n n l := (List.mem_filter.mp hl).1
  rw [hook_law (b.mono (by omega) (by omega))]
theorem prodTo_pos {f : Nat → Nat} : ∀ {n}, (∀ c, c < n → 0 < f c) → 0 < prodTo f n
  | 0, _ => Nat.one_pos
  | n + 1, h => Nat.mul_pos (prodTo_pos fun c hc => h c (by omega)) (h n (by omega))
theorem Hk_pos : ∀ l : List Nat, 0 < Hk l
  | [] => by decide
  | a :: l => Nat.mul_pos (prodTo_pos fun c hc => by omega) (Hk_pos l)
/-- the product of a list, as the program makes it -/
def prL (l : List Nat) : Nat := l.foldl (· * ·) 1
theorem foldl_mul : ∀ (l : List Nat) (a : Nat), l.foldl (· * ·) a = a * prL l
  | [], a => by simp [prL]
  | x :: l, a => by
    unfold prL
    rw [List.foldl_cons, List.foldl_cons, foldl_mul l (a * x), foldl_mul l (1 * x), Nat.one_mul, Nat.mul_assoc]
theorem prL_cons (a : Nat) (l : List Nat) : prL (a :: l) = a * prL l := by
  show List.foldl (· * ·) (1 * a) l = a * prL l
  rw [foldl_mul, Nat.one_mul]
theorem prL_append (l : List Nat) (a : Nat) : prL (l ++ [a]) = prL l * a := by
  unfold prL
  rw [List.foldl_append]
  rfl
theorem prodTo_eq (f : Nat → Nat) : ∀ n, prodTo f n = prL ((List.range n).map f)
  | 0 => rfl
  | n + 1 => by rw [prodTo, List.range_succ, List.map_append, List.map_cons, List.map_nil, prL_append, prodTo_eq f n]
def hook (l : List Nat) (r c : Nat) : Nat := row l r - c + cnt (l.drop (r + 1)) c
def hooksL (l : List Nat) : List (List Nat) := (List.range l.length).map fun r => (List.range (row l r)).map (hook l r)
theorem Hk_eq : ∀ l : List Nat, Hk l = prL ((hooksL l).map prL)
  | [] => rfl
  | a :: l => by
    rw [Hk, Hk_eq l, prodTo_eq]
    unfold hooksL
    rw [List.length_cons, List.range_succ_eq_map, List.map_cons, List.map_cons, List.map_map, prL_cons]
    congr 1
    rw [List.map_map, List.map_map]
    rfl
theorem IsSh.drop {l : List Nat} (h : IsSh l) (n : Nat) : IsSh (l.drop n) := by
  refine ⟨fun i => ?_, fun i hi => ?_⟩
  · rw [row_drop, row_drop]; exact h.dec (n + i)
  · rw [row_drop]
    rw [List.length_drop] at hi
    exact h.pos _ (by omega)
theorem cnt_split {l : List Nat} (h : IsSh l) {r c : Nat} (hc : c < row l r) : cnt l c = r + 1 + cnt (l.drop (r + 1)) c := by
  refine eq_of_lt_iff fun x => ?_
  rw [cnt_iff h]
  rcases Nat.lt_or_ge r x with d | d
  · obtain ⟨i, rfl⟩ : ∃ i, x = r + 1 + i := ⟨x - (r + 1), by omega⟩
    have := cnt_iff (h.drop (r + 1)) i c
    rw [row_drop] at this
    omega
  · have := h.mono d
    omega
/-- the program's hook -/
theorem hook_prog {l : List Nat} (h : IsSh l) {r c : Nat} (hc : c < row l r) : ((row l r : Int) - c - 1) + ((cnt l c : Int) - r - 1) + 1 = (hook l r c : Nat) := by
  rw [cnt_split h hc]
  unfold hook
  omega
theorem hook_pos {l : List Nat} {r c : Nat} (hc : c < row l r) : 0 < hook l r c := by unfold hook; omega
end GS
namespace GS

/-! ### the worth of a square, its rows functions of the columns -/
def WR : List (Nat → Int) → List Nat → Int
  | [], _ => 1
  | f :: fs, cols => E cols fun c rest => f c * WR fs rest
theorem WR_cons (f : Nat → Int) (fs : List (Nat → Int)) (cols : List Nat) : WR (f :: fs) cols = E cols fun c rest => f c * WR fs rest := rfl
theorem WR_sub (pre : List (Nat → Int)) (f g : Nat → Int) (post : List (Nat → Int)) (cols : List Nat) :
    WR (pre ++ (fun c => f c - g c) :: post) cols = WR (pre ++ f :: post) cols - WR (pre ++ g :: post) cols := by
  induction pre generalizing cols with
  | nil =>
    simp only [List.nil_append]
    rw [WR_cons, WR_cons, WR_cons, ← E_sub]
    exact E_congr fun c r _ => by rw [Int.sub_mul]
  | cons p pre ih =>
    simp only [List.cons_append]
    rw [WR_cons, WR_cons, WR_cons, ← E_sub]
    exact E_congr fun c r _ => by rw [ih, Int.mul_sub]
theorem WR_alt (pre : List (Nat → Int)) (f : Nat → Int) (post : List (Nat → Int)) (cols : List Nat) : WR (pre ++ f :: f :: post) cols = 0 := by
  induction pre generalizing cols with
  | nil =>
    rw [List.nil_append, WR_cons, E_congr (g' := fun x r => E r fun y q => f x * (f y * WR post q)) fun x r _ => by rw [WR_cons, E_mul]]
    exact E_swap fun x y r => by rw [← Int.mul_assoc, ← Int.mul_assoc, Int.mul_comm (f x)]
  | cons p pre ih =>
    rw [List.cons_append, WR_cons]
    exact E_zero fun x r _ => by rw [ih, Int.mul_zero]
theorem WR_block0 (suf : List (Nat → Int)) (bad : Nat → Bool) (hb : ∀ f ∈ suf, ∀ c, bad c = true → f c = 0) (cols : List Nat) (hl : cols.length = suf.length) (hc : 0 < cols.countP bad) : WR suf cols = 0 := by
  induction suf generalizing cols with
  | nil =>
    have : cols = [] := List.length_eq_zero_iff.mp hl
    subst this
    simp at hc
  | cons a suf ih =>
    rw [WR_cons]
    refine E_zero fun x r hp => ?_
    have e1 := hp.countP_eq bad
    have e2 := hp.length_eq
    rw [List.countP_cons] at e1
    simp only [List.length_cons] at e2 hl
    by_cases c : bad x = true
    · rw [hb a List.mem_cons_self x c, Int.zero_mul]
    · rw [if_neg c] at e1
      rw [ih (fun a ha => hb a (List.mem_cons_of_mem _ ha)) r (by omega) (by omega), Int.mul_zero]
theorem WR_block (pre suf : List (Nat → Int)) (bad : Nat → Bool) (hb : ∀ f ∈ suf, ∀ c, bad c = true → f c = 0) (cols : List Nat) (hl : cols.length = pre.length + suf.length) (hc : pre.length < cols.countP bad) : WR (pre ++ suf) cols = 0 := by
  induction pre generalizing cols with
  | nil => exact WR_block0 suf bad hb cols (by simpa using hl) (by simpa using hc)
  | cons p pre ih =>
    rw [List.cons_append, WR_cons]
    refine E_zero fun x r hp => ?_
    have e1 := hp.countP_eq bad
    have e2 := hp.length_eq
    rw [List.countP_cons] at e1
    simp only [List.length_cons] at e2 hl hc
    have e3 : (if bad x = true then 1 else 0) ≤ 1 := by split <;> omega
    rw [ih r (by omega) (by omega), Int.mul_zero]

/-! ### the rows of the square of choices -/
def rS (m : List Nat) (k i : Nat) (x : Nat) : Nat → Int := fun j => chI ((x : Int) - (row m j : Int) + (k : Int)) ((i : Int) - (j : Int) + (k : Int))
theorem chI_pascal' {a b : Int} (h : 0 ≤ a ∨ 0 ≤ b) : chI (a + 1) (b + 1) = chI a b + chI a (b + 1) := by
  rcases ilg a 0 with c | c
  · have hb : 0 ≤ b := by omega
    rw [chI_gt (show a + 1 < b + 1 by omega), chI_gt (show a < b by omega), chI_gt (show a < b + 1 by omega)]
    rfl
  · rw [chI_pascal (show 1 ≤ a + 1 by omega)]
    congr 2 <;> omega
theorem rS_step {m : List Nat} (hm : IsSh m) {k i x : Nat} (hx : row m i ≤ x) : rS m k i x = fun j => rS m (k + 1) i x j - rS m k (i + 1) x j := by
  funext j
  unfold rS
  have h : 0 ≤ (x : Int) - (row m j : Int) + (k : Int) ∨ 0 ≤ (i : Int) - (j : Int) + (k : Int) := by
    rcases Nat.lt_or_ge i j with c | c
    · have := hm.mono (Nat.le_of_lt c)
      exact .inl (by omega)
    · exact .inr (by omega)
  have e := chI_pascal' h
  have e1 : (x : Int) - (row m j : Int) + ((k + 1 : Nat) : Int) = (x : Int) - (row m j : Int) + (k : Int) + 1 := by omega
  have e2 : (i : Int) - (j : Int) + ((k + 1 : Nat) : Int) = (i : Int) - (j : Int) + (k : Int) + 1 := by omega
  have e3 : ((i + 1 : Nat) : Int) - (j : Int) + (k : Int) = (i : Int) - (j : Int) + (k : Int) + 1 := by omega
  rw [e1, e2, e3, e]
  omega
theorem rS_down (m : List Nat) (k i x : Nat) : rS m (k + 1) i x = rS m k (i + 1) (x + 1) := by
  funext j
  unfold rS
  congr 1 <;> omega
/-- a sum over whole numbers -/
def sI (f : Nat → Int) : Nat → Int
  | 0 => 0
  | n + 1 => sI f n + f n
theorem sI_range (f : Nat → Int) : ∀ n, ((List.range n).map f).sum = sI f n
  | 0 => rfl
  | n + 1 => by rw [List.range_succ, List.map_append, List.sum_append, sI_range f n, sI]; simp
theorem WR_rows {m : List Nat} (hm : IsSh m) (pre post : List (Nat → Int)) (cols : List Nat) {k i lo : Nat} (hlo : row m i ≤ lo) (n : Nat) :
    sI (fun d => WR (pre ++ rS m k i (lo + d) :: post) cols) (n + 1) = WR (pre ++ rS m (k + 1) i (lo + n) :: post) cols - WR (pre ++ rS m k (i + 1) lo :: post) cols := by
  induction n with
  | zero =>
    rw [sI, sI, Int.zero_add, Nat.add_zero, rS_step hm hlo, WR_sub]
  | succ n ih =>
    rw [sI, ih, rS_step hm (show row m i ≤ lo + (n + 1) by omega), WR_sub, rS_down m k i (lo + n)]
    rw [show lo + n + 1 = lo + (n + 1) by omega]
    omega
def rowsFrom (m : List Nat) (k : Nat) : Nat → List Nat → List (Nat → Int)
  | _, [] => []
  | i, x :: v => rS m k i x :: rowsFrom m k (i + 1) v
theorem rowsFrom_eq (m : List Nat) (k : Nat) : ∀ (i : Nat) (v : List Nat), rowsFrom m k i v = (List.range v.length).map fun j => rS m k (i + j) (row v j)
  | _, [] => rfl
  | i, x :: v => by
    rw [rowsFrom, rowsFrom_eq m k (i + 1) v, List.length_cons, List.range_succ_eq_map, List.map_cons, List.map_map, row_zero, Nat.add_zero]
    congr 1
    refine List.map_congr_left fun j _ => ?_
    show rS m k (i + 1 + j) (row v j) = rS m k (i + (j + 1)) (row (x :: v) (j + 1))
    rw [row_succ, show i + 1 + j = i + (j + 1) by omega]
/-- the shares between, from the last row up -/
def en : List (Nat × Nat) → List (List Nat)
  | [] => [[]]
  | (m, a) :: t => (en t).flatMap fun v => (List.range (a + 1 - max m (row v 0))).map fun d => (max m (row v 0) + d) :: v
theorem mem_en : ∀ {t : List (Nat × Nat)} {v : List Nat}, v ∈ en t ↔ v.length = t.length ∧ (∀ i, i < t.length → (t.getD i (0, 0)).1 ≤ row v i ∧ row v i ≤ (t.getD i (0, 0)).2) ∧ ∀ i, row v (i + 1) ≤ row v i
  | [], v => by
    unfold en
    rw [List.mem_singleton]
    constructor
    · rintro rfl
      exact ⟨rfl, fun i hi => absurd hi (Nat.not_lt_zero _), fun i => by rw [row_nil, row_nil]; exact Nat.le_refl _⟩
    · rintro ⟨h, _⟩
      exact List.length_eq_zero_iff.mp h
  | (m, a) :: t, v => by
    unfold en
    rw [List.mem_flatMap]
    constructor
    · rintro ⟨u, hu, hv⟩
      rw [List.mem_map] at hv
      obtain ⟨d, hd, rfl⟩ := hv
      rw [List.mem_range] at hd
      obtain ⟨h1, h2, h3⟩ := mem_en.mp hu
      refine ⟨by simp [h1], fun i hi => ?_, fun i => ?_⟩
      · cases i with
        | zero => simp only [List.getD_cons_zero, row_zero]; omega
        | succ i =>
          simp only [List.getD_cons_succ, row_succ]
          exact h2 i (by simpa using hi)
      · cases i with
        | zero => rw [row_succ, row_zero]; omega
        | succ i => rw [row_succ, row_succ]; exact h3 i
    · rintro ⟨h1, h2, h3⟩
      cases v with
      | nil => simp at h1
      | cons x u =>
        have g := h2 0 (by simp)
        simp only [List.getD_cons_zero, row_zero] at g
        have g0 := h3 0
        rw [row_succ, row_zero] at g0
        refine ⟨u, mem_en.mpr ⟨by simpa using h1, fun i hi => ?_, fun i => ?_⟩, List.mem_map.mpr ⟨x - max m (row u 0), List.mem_range.mpr (by omega), ?_⟩⟩
        · have := h2 (i + 1) (by simpa using hi)
          simpa only [List.getD_cons_succ, row_succ] using this
        · have := h3 (i + 1)
          simpa only [row_succ] using this
        · rw [show max m (row u 0) + (x - max m (row u 0)) = x by omega]
theorem nodup_flatMap_of {α β : Type} {f : α → List β} : ∀ {l : List α}, l.Nodup → (∀ x ∈ l, (f x).Nodup) → (∀ x ∈ l, ∀ y ∈ l, ∀ z, z ∈ f x → z ∈ f y → x = y) → (l.flatMap f).Nodup
  | [], _, _, _ => by simp
  | a :: l, d, h1, h2 => by
    rw [List.nodup_cons] at d
    rw [List.flatMap_cons]
    refine nodup_append_of (h1 a List.mem_cons_self) (nodup_flatMap_of d.2 (fun x hx => h1 x (List.mem_cons_of_mem _ hx)) fun x hx y hy => h2 x (List.mem_cons_of_mem _ hx) y (List.mem_cons_of_mem _ hy)) fun z hz hz2 => ?_
    rw [List.mem_flatMap] at hz2
    obtain ⟨y, hy, hz2⟩ := hz2
    have := h2 a List.mem_cons_self y (List.mem_cons_of_mem _ hy) z hz hz2
    subst this
    exact d.1 hy
theorem nodup_en : ∀ t : List (Nat × Nat), (en t).Nodup
  | [] => by simp [en]
  | (m, a) :: t => by
    unfold en
    refine nodup_flatMap_of (nodup_en t) (fun v _ => nodup_map_of_inj List.nodup_range fun x _ y _ e => by have := (List.cons.inj e).1; omega) fun x _ y _ z hx hy => ?_
    rw [List.mem_map] at hx hy
    obtain ⟨d, _, rfl⟩ := hx
    obtain ⟨d', _, e⟩ := hy
    exact (List.cons.inj e).2.symm
theorem isum_flatMap {α β : Type} (l : List α) (f : α → List β) (g : β → Int) : ((l.flatMap f).map g).sum = (l.map fun x => ((f x).map g).sum).sum := by
  induction l with
  | nil => rfl
  | cons a l ih => rw [List.flatMap_cons, List.map_append, List.sum_append, ih, List.map_cons, List.sum_cons]
theorem isum_congr {α : Type} {l : List α} {f g : α → Int} (h : ∀ x ∈ l, f x = g x) : (l.map f).sum = (l.map g).sum := by rw [List.map_congr_left h]
def bnd (m l : List Nat) (i n : Nat) : List (Nat × Nat) := (List.range n).map fun j => (row m (i + j), row l (i + j))
theorem bnd_succ (m l : List Nat) (i n : Nat) : bnd m l i (n + 1) = (row m i, row l i) :: bnd m l (i + 1) n := by
  unfold bnd
  rw [List.range_succ_eq_map, List.map_cons, List.map_map]
  congr 1
  refine List.map_congr_left fun j _ => ?_
  show (row m (i + (j + 1)), row l (i + (j + 1))) = (row m (i + 1 + j), row l (i + 1 + j))
  rw [show i + 1 + j = i + (j + 1) by omega]
theorem bnd_get (m l : List Nat) (i n j : Nat) (h : j < n) : (bnd m l i n).getD j (0, 0) = (row m (i + j), row l (i + j)) := by
  unfold bnd
  rw [List.getD_eq_getElem?_getD, List.getElem?_eq_getElem (by simpa using h)]
  simp
theorem row_dec_le {v : List Nat} (h : ∀ i, row v (i + 1) ≤ row v i) : ∀ i, row v i ≤ row v 0
  | 0 => Nat.le_refl _
  | i + 1 => Nat.le_trans (h i) (row_dec_le h i)
theorem WR_en {m l : List Nat} (hm : IsSh m) (hl : IsSh l) (hw : wi m l) {k : Nat} (n : Nat) : ∀ (i : Nat) (pre : List (Nat → Int)), pre.length = i →
    ((en (bnd m l i n)).map fun v => WR (pre ++ rowsFrom m k i v) (List.range (i + n))).sum = WR (pre ++ rowsFrom m (k + 1) i ((bnd m l i n).map (·.2))) (List.range (i + n)) := by
  induction n with
  | zero =>
    intro i pre hp
    simp [bnd, en, rowsFrom]
  | succ n ih =>
    intro i pre hp
    rw [bnd_succ, en, isum_flatMap]
    have key : ∀ v ∈ en (bnd m l (i + 1) n), (((List.range (row l i + 1 - max (row m i) (row v 0))).map fun d => (max (row m i) (row v 0) + d) :: v).map fun v => WR (pre ++ rowsFrom m k i v) (List.range (i + (n + 1)))).sum
        = WR ((pre ++ [rS m (k + 1) i (row l i)]) ++ rowsFrom m k (i + 1) v) (List.range (i + 1 + n)) := fun v hv => by
      obtain ⟨v1, v2, v3⟩ := mem_en.mp hv
      have hlen : (bnd m l (i + 1) n).length = n := by simp [bnd]
      rw [hlen] at v1 v2
      have hle : max (row m i) (row v 0) ≤ row l i := by
        have h1 := hw i
        have h2 : row v 0 ≤ row l i := by
          rcases Nat.eq_zero_or_pos n with c | c
          · rw [row_ge (by omega)]; exact Nat.zero_le _
          · have := (v2 0 c).2
            rw [bnd_get _ _ _ _ _ c] at this
            exact Nat.le_trans this (hl.mono (by omega))
        omega
      rw [List.map_map]
      show ((List.range _).map fun d => WR (pre ++ rS m k i (max (row m i) (row v 0) + d) :: rowsFrom m k (i + 1) v) (List.range (i + (n + 1)))).sum = _
      rw [sI_range, show row l i + 1 - max (row m i) (row v 0) = (row l i - max (row m i) (row v 0)) + 1 by omega, WR_rows hm pre _ _ (by omega), show max (row m i) (row v 0) + (row l i - max (row m i) (row v 0)) = row l i by omega]
      have z : WR (pre ++ rS m k (i + 1) (max (row m i) (row v 0)) :: rowsFrom m k (i + 1) v) (List.range (i + (n + 1))) = 0 := by
        by_cases c : v ≠ [] ∧ row m i ≤ row v 0
        · obtain ⟨c1, c2⟩ := c
          cases v with
          | nil => exact absurd rfl c1
          | cons y u =>
            rw [rowsFrom, show max (row m i) (row (y :: u) 0) = y by rw [row_zero] at *; omega]
            exact WR_alt _ _ _ _
        · have c0 : v = [] ∨ row v 0 < row m i := by
            rcases Classical.em (v = []) with d | d
            · exact .inl d
            · refine .inr ?_
              rcases Nat.lt_or_ge (row v 0) (row m i) with e | e
              · exact e
              · exact absurd ⟨d, e⟩ c
          have hmax : max (row m i) (row v 0) = row m i := by
            rcases c0 with d | d
            · subst d; rw [row_nil]; omega
            · omega
          rw [hmax]
          refine WR_block _ _ (fun c => decide (c ≤ i)) (fun f hf c hc => ?_) _ ?_ ?_
          · have hc' : c ≤ i := of_decide_eq_true hc
            have hmc := hm.mono hc'
            rcases List.mem_cons.mp hf with rfl | hf
            · unfold rS
              exact chI_gt (by omega)
            · rw [rowsFrom_eq, List.mem_map] at hf
              obtain ⟨j, hj, rfl⟩ := hf
              have hj' := List.mem_range.mp hj
              unfold rS
              refine chI_gt ?_
              have h1 := row_dec_le v3 j
              have h2 : row v 0 < row m i := by
                rcases c0 with d | d
                · subst d; exact absurd hj' (Nat.not_lt_zero _)
                · exact d
              omega
          · rw [List.length_range, List.length_cons, rowsFrom_eq, List.length_map, List.length_range]
            omega
          · rw [countP_range_le _ _ (by omega)]
            omega
      rw [z, Int.sub_zero, List.append_assoc, List.singleton_append, show i + (n + 1) = i + 1 + n by omega]
    rw [isum_congr key, ih (i + 1) _ (by simp [hp])]
    simp only [List.map_cons, rowsFrom, List.append_assoc, List.singleton_append]
    rw [show i + (n + 1) = i + 1 + n by omega]

/-! ### stacks -/
def dtN (N k : Nat) (m l : List Nat) : Int := WR ((List.range N).map fun i => rS m k i (row l i)) (List.range N)
def btw (h w : Nat) (m l : List Nat) : List (List Nat) := (boxS h w).filter fun v => wiB m v && wiB v l
theorem mem_btw {h w : Nat} {m l v : List Nat} (hm : IsSh m) (b : Bx h w l) : v ∈ btw h w m l ↔ IsSh v ∧ wi m v ∧ wi v l := by
  unfold btw
  rw [List.mem_filter, Bool.and_eq_true]
  constructor
  · rintro ⟨h1, h2, h3⟩
    exact ⟨Bx.sh h1, (wiB_iff hm).mp h2, (wiB_iff (Bx.sh h1)).mp h3⟩
  · rintro ⟨h1, h2, h3⟩
    exact ⟨b.sub h1 h3, (wiB_iff hm).mpr h2, (wiB_iff h1).mpr h3⟩
theorem nodup_btw (h w : Nat) (m l : List Nat) : (btw h w m l).Nodup := (nodup_boxS h w).filter _
def TK (h w : Nat) (m : List Nat) : Nat → List Nat → Nat
  | 0, _ => 1
  | k + 1, l => ((btw h w m l).map (TK h w m k)).sum
theorem en_perm {h w N : Nat} {m l : List Nat} (hm : IsSh m) (b : Bx h w l) (hw : wi m l) (hN : l.length ≤ N) : ((en (bnd m l 0 N)).map fun v => v.filter fun x => decide (0 < x)).Perm (btw h w m l) := by
  have hlen : (bnd m l 0 N).length = N := by simp [bnd]
  refine (List.perm_ext_iff_of_nodup (nodup_map_of_inj (nodup_en _) fun x hx y hy e => ?_) (nodup_btw h w m l)).mpr fun u => ?_
  · obtain ⟨x1, _, x3⟩ := mem_en.mp hx
    obtain ⟨y1, _, y3⟩ := mem_en.mp hy
    refine List.ext_getElem (by omega) fun i h1 h2 => ?_
    rw [← row_get h1, ← row_get h2, ← row_noughts x3, ← row_noughts y3, e]
  · rw [mem_btw hm b, List.mem_map]
    constructor
    · rintro ⟨v, hv, rfl⟩
      obtain ⟨v1, v2, v3⟩ := mem_en.mp hv
      rw [hlen] at v1 v2
      refine ⟨noughts_sh v3, fun i => ?_, fun i => ?_⟩
      · rw [row_noughts v3]
        rcases Nat.lt_or_ge i N with c | c
        · have := (v2 i c).1
          rwa [bnd_get _ _ _ _ _ c, Nat.zero_add] at this
        · have hml := hw i
          rw [row_ge (show l.length ≤ i by omega)] at hml
          omega
      · rw [row_noughts v3]
        rcases Nat.lt_or_ge i N with c | c
        · have := (v2 i c).2
          rwa [bnd_get _ _ _ _ _ c, Nat.zero_add] at this
        · rw [row_ge (by omega)]; exact Nat.zero_le _
    · rintro ⟨hu, h1, h2⟩
      have hul : u.length ≤ N := Nat.le_trans (h2.len hu) hN
      have er : ∀ i, row ((List.range N).map (row u)) i = row u i := fun i => by
        rw [row_mapRange]
        split
        · rfl
        · rw [row_ge (by omega)]
      have hd : ∀ i, row ((List.range N).map (row u)) (i + 1) ≤ row ((List.range N).map (row u)) i := fun i => by rw [er, er]; exact hu.dec i
      refine ⟨(List.range N).map (row u), mem_en.mpr ⟨by simp [bnd], fun i hi => ?_, hd⟩, (noughts_sh hd).ext hu fun i => by rw [row_noughts hd, er]⟩
      rw [hlen] at hi
      rw [bnd_get _ _ _ _ _ hi, er, Nat.zero_add]
      exact ⟨h1 i, h2 i⟩
theorem dtN_succ {h w N : Nat} {m l : List Nat} (hm : IsSh m) (b : Bx h w l) (hw : wi m l) (hN : l.length ≤ N) (k : Nat) : dtN N (k + 1) m l = ((btw h w m l).map fun v => dtN N k m v).sum := by
  have e := WR_en hm b.sh hw (k := k) N 0 [] rfl
  simp only [List.nil_append, Nat.zero_add] at e
  have e2 : rowsFrom m (k + 1) 0 ((bnd m l 0 N).map (·.2)) = (List.range N).map fun i => rS m (k + 1) i (row l i) := by
    rw [rowsFrom_eq]
    have hl2 : ((bnd m l 0 N).map (·.2)).length = N := by simp [bnd]
    rw [hl2]
    refine List.map_congr_left fun j hj => ?_
    have hj' := List.mem_range.mp hj
    have : (bnd m l 0 N).map (·.2) = (List.range N).map fun j => row l (0 + j) := by simp [bnd]
    rw [this, row_mapRange, if_pos hj', Nat.zero_add]
  unfold dtN
  rw [← e2, ← e]
  have e3 : ((btw h w m l).map fun v => WR ((List.range N).map fun i => rS m k i (row v i)) (List.range N)).sum = (((en (bnd m l 0 N)).map fun v => v.filter fun x => decide (0 < x)).map fun v => WR ((List.range N).map fun i => rS m k i (row v i)) (List.range N)).sum := by
    have p := (en_perm hm b hw hN).map fun v => WR ((List.range N).map fun i => rS m k i (row v i)) (List.range N)
    have ps : ∀ {x y : List Int}, x.Perm y → x.sum = y.sum := fun h => by
      induction h with
      | nil => rfl
      | cons x _ ih => simp only [List.sum_cons, ih]
      | swap x y l => simp only [List.sum_cons]; omega
      | trans _ _ a b => exact a.trans b
    exact (ps p).symm
  rw [e3, List.map_map]
  refine isum_congr fun v hv => ?_
  obtain ⟨v1, _, v3⟩ := mem_en.mp hv
  have hlen : (bnd m l 0 N).length = N := by simp [bnd]
  rw [hlen] at v1
  show _ = WR ((List.range N).map fun i => rS m k i (row (v.filter fun x => decide (0 < x)) i)) (List.range N)
  rw [rowsFrom_eq, v1]
  congr 1
  refine List.map_congr_left fun j _ => ?_
  rw [row_noughts v3, Nat.zero_add]
theorem WR_tri {m l : List Nat} (hw : wi m l) (n : Nat) : ∀ i, WR ((List.range n).map fun j => rS m 0 (i + j) (row l (i + j))) ((List.range n).map (i + ·)) = 1 := by
  induction n with
  | zero => intro i; rfl
  | succ n ih =>
    intro i
    rw [List.range_succ_eq_map, List.map_cons, List.map_cons, List.map_map, List.map_map, WR_cons, E]
    have e1 : (fun j => rS m 0 (i + j) (row l (i + j))) ∘ Nat.succ = fun j => rS m 0 (i + 1 + j) (row l (i + 1 + j)) := by
      funext j
      show rS m 0 (i + (j + 1)) (row l (i + (j + 1))) = _
      rw [show i + (j + 1) = i + 1 + j by omega]
    have e2 : (fun x => i + x) ∘ Nat.succ = fun x => i + 1 + x := by
      funext j
      show i + (j + 1) = i + 1 + j
      omega
    rw [e1, e2, ih (i + 1)]
    have z : E ((List.range n).map fun x => i + 1 + x) (fun x r => rS m 0 (i + 0) (row l (i + 0)) x * WR ((List.range n).map fun j => rS m 0 (i + 1 + j) (row l (i + 1 + j))) ((i + 0) :: r)) = 0 := E_zero fun x r hp => by
      have hx := hp.mem_iff.mp List.mem_cons_self
      rw [List.mem_map] at hx
      obtain ⟨y, _, rfl⟩ := hx
      have : rS m 0 (i + 0) (row l (i + 0)) (i + 1 + y) = 0 := by
        unfold rS
        exact chI_neg (by omega)
      rw [this, Int.zero_mul]
    rw [z]
    have o : rS m 0 (i + 0) (row l (i + 0)) (i + 0) = 1 := by
      unfold rS
      have := hw (i + 0)
      rw [show ((i + 0 : Nat) : Int) - ((i + 0 : Nat) : Int) + ((0 : Nat) : Int) = 0 by omega]
      exact chI_zero (by omega)
    rw [o]
    rfl
theorem dtN_zero {m l : List Nat} (hw : wi m l) (N : Nat) : dtN N 0 m l = 1 := by
  have e := WR_tri hw N 0
  have e1 : (fun j => rS m 0 (0 + j) (row l (0 + j))) = fun j => rS m 0 j (row l j) := by
    funext j
    rw [Nat.zero_add]
  have e2 : (List.range N).map (0 + ·) = List.range N := by simp
  rw [e1, e2] at e
  exact e
theorem stacks {h w N : Nat} {m : List Nat} (hm : IsSh m) (k : Nat) {l : List Nat} (b : Bx h w l) (hw : wi m l) (hN : l.length ≤ N) : (TK h w m k l : Int) = dtN N k m l := by
  induction k generalizing l with
  | zero => rw [dtN_zero hw]; rfl
  | succ k ih =>
    rw [dtN_succ hm b hw hN, TK, sum_cast]
    refine isum_congr fun v hv => ?_
    obtain ⟨h1, h2, h3⟩ := (mem_btw hm b).mp hv
    exact ih (b.sub h1 h3) h2 (Nat.le_trans (h3.len h1) hN)
end GS
namespace GS
/-! ### the shares between, row by row -/
def nought (u : List Nat) : List Nat := u.filter fun x => decide (0 < x)
def topOf (l u : List Nat) (k : Nat) : Nat := if k = 0 then row l 0 else min (row l k) (row u (k - 1))
def ext (m l : List Nat) (k : Nat) (u : List Nat) : List (List Nat) := (List.range (topOf l u k + 1 - row m k)).map fun t => u ++ [row m k + t]
def lev (m l : List Nat) : Nat → List (List Nat)
  | 0 => [[]]
  | k + 1 => (lev m l k).flatMap (ext m l k)
structure LV (m l : List Nat) (k : Nat) (u : List Nat) : Prop where
  len : u.length = k
  bd : ∀ i, i < k → row m i ≤ row u i ∧ row u i ≤ row l i
  dec : ∀ i, row u (i + 1) ≤ row u i
theorem row_snoc {u : List Nat} {x i : Nat} : row (u ++ [x]) i = if i < u.length then row u i else if i = u.length then x else 0 := by
  rw [row_append]
  split
  · rfl
  · next c =>
    split
    · next d => rw [d, Nat.sub_self]; rfl
    · next d => rw [row_ge (by show 1 ≤ i - u.length; omega)]
theorem mem_ext {m l u v : List Nat} {k : Nat} : v ∈ ext m l k u ↔ ∃ x, v = u ++ [x] ∧ row m k ≤ x ∧ x ≤ topOf l u k := by
  unfold ext
  rw [List.mem_map]
  constructor
  · rintro ⟨t, ht, rfl⟩
    have := List.mem_range.mp ht
    exact ⟨row m k + t, rfl, by omega, by omega⟩
  · rintro ⟨x, rfl, h1, h2⟩
    exact ⟨x - row m k, List.mem_range.mpr (by omega), by rw [show row m k + (x - row m k) = x by omega]⟩
theorem mem_lev {m l : List Nat} : ∀ {k : Nat} {u : List Nat}, u ∈ lev m l k ↔ LV m l k u
  | 0, u => by
    unfold lev
    rw [List.mem_singleton]
    constructor
    · rintro rfl
      exact ⟨rfl, fun i hi => by omega, fun i => by rw [row_nil, row_nil]; exact Nat.le_refl _⟩
    · intro h
      exact List.length_eq_zero_iff.mp h.len
  | k + 1, u => by
    unfold lev
    rw [List.mem_flatMap]
    constructor
    · rintro ⟨v, hv, hu⟩
      obtain ⟨x, rfl, h1, h2⟩ := mem_ext.mp hu
      have hv' := mem_lev.mp hv
      have hl := hv'.len
      unfold topOf at h2
      refine ⟨by simp [hl], fun i hi => ?_, fun i => ?_⟩
      · rw [row_snoc]
        by_cases c : i < k
        · rw [if_pos (by omega)]; exact hv'.bd i c
        · have : i = k := by omega
          subst this
          rw [if_neg (by omega), if_pos hl.symm]
          refine ⟨h1, ?_⟩
          split at h2
          · next z => subst z; exact h2
          · omega
      · rw [row_snoc, row_snoc]
        by_cases c : i + 1 < k
        · rw [if_pos (by omega), if_pos (by omega)]; exact hv'.dec i
        · by_cases d : i + 1 = k
          · rw [if_neg (by omega), if_pos (by omega), if_pos (by omega)]
            rw [if_neg (by omega)] at h2
            have : k - 1 = i := by omega
            rw [this] at h2
            omega
          · rw [if_neg (by omega), if_neg (by omega)]
            exact Nat.zero_le _
    · intro h
      have hl := h.len
      obtain ⟨v, x, rfl⟩ : ∃ v x, u = v ++ [x] := by
        have hne : u ≠ [] := fun z => by rw [z] at hl; cases hl
        exact ⟨u.dropLast, u.getLast hne, (List.dropLast_concat_getLast hne).symm⟩
      have hvl : v.length = k := by simpa using hl
      have rv : ∀ i, i < k → row (v ++ [x]) i = row v i := fun i hi => by rw [row_snoc, if_pos (by omega)]
      have rx : row (v ++ [x]) k = x := by rw [row_snoc, if_neg (by omega), if_pos hvl.symm]
      have hb := h.bd k (by omega)
      rw [rx] at hb
      refine ⟨v, mem_lev.mpr ⟨hvl, fun i hi => ?_, fun i => ?_⟩, mem_ext.mpr ⟨x, rfl, hb.1, ?_⟩⟩
      · have := h.bd i (by omega)
        rwa [rv i hi] at this
      · rcases Nat.lt_or_ge (i + 1) k with c | c
        · have := h.dec i
          rwa [rv _ c, rv _ (by omega)] at this
        · rw [row_ge (show v.length ≤ i + 1 by omega)]; exact Nat.zero_le _
      · unfold topOf
        split
        · next z => subst z; exact hb.2
        · next z =>
          have := h.dec (k - 1)
          rw [show k - 1 + 1 = k by omega, rx, rv _ (by omega)] at this
          omega
theorem nodup_lev (m l : List Nat) : ∀ k : Nat, (lev m l k).Nodup
  | 0 => by simp [lev]
  | k + 1 => by
    unfold lev
    have ih := nodup_lev m l k
    refine List.pairwise_flatMap.mpr ⟨fun u hu => ?_, ?_⟩
    · unfold ext
      exact nodup_map_of_inj List.nodup_range fun x _ y _ e => by
        have := (List.append_inj' e rfl).2
        have := (List.cons.inj this).1
        omega
    · refine List.Pairwise.imp_of_mem (fun {a b} ha hb hne x hx y hy e => ?_) ih
      obtain ⟨p, rfl, _⟩ := mem_ext.mp hx
      obtain ⟨q, rfl, _⟩ := mem_ext.mp hy
      exact hne (List.append_inj' e rfl).1
theorem lev_inj {m l u v : List Nat} {k : Nat} (hu : u ∈ lev m l k) (hv : v ∈ lev m l k) (e : nought u = nought v) : u = v := by
  have h1 := mem_lev.mp hu
  have h2 := mem_lev.mp hv
  refine List.ext_getElem (by rw [h1.len, h2.len]) fun i a b => ?_
  have e1 := row_noughts h1.dec i
  have e2 := row_noughts h2.dec i
  unfold nought at e
  rw [e] at e1
  rw [← row_get a, ← row_get b, ← e1, ← e2]
theorem lev_bx {h w : Nat} {m l u : List Nat} {k : Nat} (b : Bx h w l) (hk : k ≤ h) (hu : u ∈ lev m l k) : Bx h w (nought u) := by
  have h1 := mem_lev.mp hu
  have hs : IsSh (nought u) := noughts_sh h1.dec
  refine mem_boxS.mpr ⟨hs, ?_, ?_⟩
  · have := List.length_filter_le (fun x => decide (0 < x)) u
    rw [h1.len] at this
    exact Nat.le_trans this hk
  · unfold nought
    rw [row_noughts h1.dec]
    rcases Nat.eq_zero_or_pos k with c | c
    · rw [row_ge (by rw [h1.len]; omega)]; exact Nat.zero_le _
    · exact Nat.le_trans (h1.bd 0 c).2 (b.wide 0)
theorem lev_perm {h w : Nat} {m l : List Nat} (hm : IsSh m) (b : Bx h w l) (hw : wi m l) : ((lev m l l.length).map nought).Perm (btw h w m l) := by
  refine (List.perm_ext_iff_of_nodup (nodup_map_of_inj (nodup_lev m l _) fun x hx y hy e => lev_inj hx hy e) (nodup_btw h w m l)).mpr fun v => ?_
  rw [mem_btw hm b, List.mem_map]
  constructor
  · rintro ⟨u, hu, rfl⟩
    have h1 := mem_lev.mp hu
    refine ⟨noughts_sh h1.dec, fun i => ?_, fun i => ?_⟩
    · unfold nought
      rw [row_noughts h1.dec]
      rcases Nat.lt_or_ge i l.length with c | c
      · exact (h1.bd i c).1
      · have := hw i
        rw [row_ge (l := l) c] at this
        omega
    · unfold nought
      rw [row_noughts h1.dec]
      rcases Nat.lt_or_ge i l.length with c | c
      · exact (h1.bd i c).2
      · rw [row_ge (by rw [h1.len]; omega)]; exact Nat.zero_le _
  · rintro ⟨hv, h1, h2⟩
    have hvl : v.length ≤ l.length := h2.len hv
    have er : ∀ i, row ((List.range l.length).map (row v)) i = row v i := fun i => by
      rw [row_mapRange]
      split
      · rfl
      · rw [row_ge (by omega)]
    have hd : ∀ i, row ((List.range l.length).map (row v)) (i + 1) ≤ row ((List.range l.length).map (row v)) i := fun i => by rw [er, er]; exact hv.dec i
    refine ⟨(List.range l.length).map (row v), mem_lev.mpr ⟨by simp, fun i _ => by rw [er]; exact ⟨h1 i, h2 i⟩, hd⟩, ?_⟩
    exact (noughts_sh hd).ext hv fun i => by rw [row_noughts hd, er]
theorem lev_len {h w : Nat} {m l : List Nat} {k : Nat} (b : Bx h w l) (hk : k ≤ h) : (lev m l k).length ≤ (boxS h w).length := by
  have hn : ((lev m l k).map nought).Nodup := nodup_map_of_inj (nodup_lev m l k) fun x hx y hy e => lev_inj hx hy e
  have := hn.length_le_of_subset (l₂ := boxS h w) fun v hv => by
    obtain ⟨u, hu, rfl⟩ := List.mem_map.mp hv
    exact lev_bx b hk hu
  rwa [List.length_map] at this
/-- the empty share comes first, where it comes at all -/
theorem lev_first {m l : List Nat} (hm : IsSh m) (hw : wi m l) : (∀ u ∈ lev m l l.length, nought u ≠ []) ∨ ∃ u rest, lev m l l.length = u :: rest ∧ nought u = [] := by
  by_cases c : 0 < row m 0
  · left
    intro u hu e
    have h1 := mem_lev.mp hu
    have hl : 0 < l.length := by
      rcases Nat.eq_zero_or_pos l.length with z | z
      · have := hw 0
        rw [row_ge (l := l) (by omega)] at this
        omega
      · exact z
    have h2 := (h1.bd 0 hl).1
    have h3 := row_noughts h1.dec 0
    unfold nought at e
    rw [e, row_nil] at h3
    omega
  · right
    have h0 : ∀ i, row m i = 0 := fun i => by have := hm.mono (Nat.zero_le i); omega
    have key : ∀ k, ∃ rest, lev m l k = List.replicate k 0 :: rest := by
      intro k
      induction k with
      | zero => exact ⟨[], rfl⟩
      | succ k ih =>
        obtain ⟨rest, e⟩ := ih
        unfold lev
        rw [e, List.flatMap_cons]
        have : ext m l k (List.replicate k 0) = List.replicate (k + 1) 0 :: ((List.range (topOf l (List.replicate k 0) k)).map Nat.succ).map fun t => List.replicate k 0 ++ [row m k + t] := by
          unfold ext
          rw [h0 k, Nat.sub_zero, List.range_succ_eq_map, List.map_cons, List.replicate_succ']
        rw [this]
        exact ⟨_, rfl⟩
    obtain ⟨rest, e⟩ := key l.length
    refine ⟨_, rest, e, ?_⟩
    unfold nought
    rw [List.filter_eq_nil_iff]
    intro x hx
    rw [List.eq_of_mem_replicate hx]
    simp
end GS
namespace GR
open PySem PySem.Spec PyProof.Rows L2

/-! ### sum and max of a tuple of ints -/
def rSumT (K : PySem.W.Frag) : List V → Hp → VK → Prop := fun vs H Q => ∃ (a : Addr) (ns : List Int), vs = [V.ref a] ∧ SqT K H a (ns.map V.int) ∧ Q (.int ns.sum) H
theorem cr_sumT {X : Cx} (hc : X.calm = true) : CallR X (.builtin "sum") (rSumT X.K) := by
  intro pins s σ H vs us Q I r h
  obtain ⟨a, ns, rfl, hs, q⟩ := h
  obtain ⟨its, rv, hl, _⟩ := I.tuple hs
  rw [Vals.ref1 r]
  have hi := rv.ints
  obtain ⟨xs, e⟩ := hi.allInts.items
  have hn : numsOf (intItems xs).toList = ns := by rw [← e]; exact hi.numsOf
  rw [nums_intItems] at hn
  rw [e] at hl
  refine PySem.W.ktm_sumG (I.ok.hd hc) hl fun h' tk t' hk => ?_
  rw [preSum_eq, List.take_of_length_le (by simp), hn]
  exact ⟨.int _, H, I.kept hk, ⟨_, rfl⟩, q⟩
theorem depth_ints : ∀ ns : List Int, PyData.depthAll (ns.map PyData.int) = 0
  | [] => by simp [PyData.depthAll]
  | n :: ns => by simp [PyData.depthAll, PyData.depth, depth_ints ns]
theorem alike_ints (ns : List Int) : PySem.W.AlikeAll (ns.map PyData.int) := by
  refine ⟨fun x hx y hy => ?_, fun x hx => ?_⟩
  · rw [List.mem_map] at hx hy
    obtain ⟨a, _, rfl⟩ := hx
    obtain ⟨b, _, rfl⟩ := hy
    simp [PySem.W.alike]
  · rw [List.mem_map] at hx
    obtain ⟨a, _, rfl⟩ := hx
    exact fun z => nomatch z
def rMaxT (K : PySem.W.Frag) : List V → Hp → VK → Prop := fun vs H Q => ∃ (a : Addr) (n : Int) (ns : List Int), vs = [V.ref a] ∧ SqT K H a ((n :: ns).map V.int) ∧ Q (.int (ns.foldl max n)) H
theorem cr_maxT {X : Cx} (hc : X.calm = true) (hu : X.A.units + 1 < cLine) : CallR X (.builtin "max") (rMaxT X.K) := by
  intro pins s σ H vs us Q I r h
  obtain ⟨a, n, ns, rfl, hs, q⟩ := h
  obtain ⟨its, rv, hl, _⟩ := I.tuple hs
  rw [Vals.ref1 r]
  have hr := rv.ints.reads s.heap
  refine PySem.W.max_tuple_data (x := .int n) (xs := ns.map .int) (as := []) (I.ok.hd hc) hl (by simpa using hr) (alike_ints (n :: ns)) ?_ fun i v h' tk bs hv rd hk => ?_
  · have := depth_ints (n :: ns)
    rw [List.map_cons] at this
    rw [this]
    exact hu
  · rw [PySem.W.maxD_ints] at rd
    cases rd
    exact ⟨.int _, H, I.kept hk, ⟨_, rfl⟩, q⟩

/-! ### a tuple once -/
def rRep1 (K : PySem.W.Frag) : R2 := fun x y H Q => ∃ l xs, x = .ref l ∧ y = .int 1 ∧ SqT K H l xs ∧ Q (.ref l) H
section
open PySem.SeqAt
open PySem.AutoSeq1 (wpAny_loadPart')
open PySem.MeetsSeq PySem.MeetsSeq2 PySem.MeetsSeq3
theorem tup_once (l : Addr) (items : Array Value) (n : Nat) (dd : Option Addr) (sl : Array (Option Value)) (u : Tok) :
    Meets (Builtin.«tuple.__mul__» ⟨[.ref l, .int 1 u], []⟩) (fun _ R s => s.heap.get? l = some { cls := .type "tuple", dict := dd, data := .seq items n, slots := sl } ∧ R (.ok (.ret (Value.ref l))) s) :=
  .of_wp fun prog w A R s h => by
    obtain ⟨hp, g, d, tk, os⟩ := s
    obtain ⟨hl, h⟩ := h
    have f1 := AutoSeq1.idx_int
    have f2 := AutoSeq1.sub_tuple_tuple
    have c0 : (decide ((1 : Int) < -(2 ^ 63)) || decide ((1 : Int) ≥ 2 ^ 63)) = false := by decide
    have c1 : (items.isEmpty || (1 : Int) == 1) = true := by simp
    wp_walk using wpAny_loadPart' hl
    repeat (first
      | (refine wpAny_ite_false (decide_eq_false (by rw [c0]; exact Bool.false_ne_true)) ?_; wp_walk using wpAny_loadPart' hl)
      | (refine wpAny_ite_true (decide_eq_true (by rw [c1])) ?_; wp_walk using wpAny_loadPart' hl))
    exact ⟨_, rfl, h⟩
end
theorem op_rep1 {X : Cx} : OpR X (binaryOp .Mult) (rRep1 X.K) := by
  intro pins s σ H x y v u Q I rx ry h
  obtain ⟨l, xs, rfl, rfl, hT, q⟩ := h
  cases rx
  obtain ⟨t, rfl⟩ := ry
  obtain ⟨its, r, ⟨⟨cls, dd, data, sl⟩, ho, hc, n, hd⟩, hs⟩ := I.tuple hT
  simp only at hc hd
  subst hc hd
  refine wpAny_binaryOp_repeat_ref (T := "tuple") (U := "int") (by decide) ⟨_, ho, rfl⟩ (fun s' => typeIs_int s' 1 t) noFill_tuple_mul F.fills_int_mul F.slot_int_rmul repeat_tuple F.slot_int_index.lookup
    (call_meets F.slot_int_rmul (typeIs_int s 1 t) F.entry_int_rmul (F.args_int_rmul_2 _ _) (int_rmul_tuple 1 t l its.toArray n dd sl)
      ⟨ho, rfl, ⟨_, ho, rfl⟩, call_meets F.slot_tuple_mul ⟨_, ho, rfl⟩ F.entry_tuple_mul (F.args_tuple_mul_2 _ _) (tup_once l its.toArray n dd sl t) ⟨ho, ?_⟩⟩)
  exact ⟨.ref l, H, I, rfl, q⟩

/-! ### enumerate of a tuple -/
theorem enum_new_tup (l : Addr) (items : Array Value) (n : Nat) (dct : Option Addr) (sl : Array (Option Value)) :
    Meets (Builtin.«enumerate.__new__» ⟨[.type "enumerate", .ref l], []⟩) (fun _ R s => s.heap.get? l = some { cls := .type "tuple", dict := dct, data := .seq items n, slots := sl } ∧
      R (.ok (.ret (.ref (s.heap.push { cls := .type "tuple_iterator", data := .fields #[.ref l, .int 0 0] }).objs.size)))
        { s with heap := (s.heap.push { cls := .type "tuple_iterator", data := .fields #[.ref l, .int 0 0] }).push { cls := .type "enumerate", data := .fields #[.none, .bool false, .ref s.heap.objs.size, rawInt 0, .none, .none] } }) :=
  .of_wp fun prog w A R s h => by
    obtain ⟨hp, g, d, tk, os⟩ := s
    obtain ⟨hl, h⟩ := h
    have hsub := sub_enumerate
    have hT : Heap.IsTuple (Shared.heap ⟨hp, g, d, tk, os⟩) l items := ⟨_, hl, rfl, n, rfl⟩
    wp_walk using AutoSeq1.wpAny_loadPart' hl
    refine wpAny_stack_any fun st => wpAny_pure ?_
    split
    · rename_i c _ _ _ _ _
      cases (c == Value.type "enumerate")
      · wp_walk using AutoSeq1.wpAny_loadPart' hl, wpAny_pyIter_tuple hT
        exact ⟨_, rfl, h⟩
      · wp_walk using AutoSeq1.wpAny_loadPart' hl, wpAny_pyIter_tuple hT
        exact ⟨_, rfl, h⟩
    · wp_walk using AutoSeq1.wpAny_loadPart' hl, wpAny_pyIter_tuple hT
      exact ⟨_, rfl, h⟩
section
variable {prog : Program} {w : World} {A : Around} {E : Value → Shared → Prop} {s : Shared}
theorem call_enum_tup {l : Addr} {items : Array Value} {Q : Value → Shared → Prop} (hL : s.heap.IsTuple l items)
    (h : ∀ h', IsEnum h' (s.heap.objs.size + 1) s.heap.objs.size 0 .none → h'.IsTupleIter s.heap.objs.size l 0 → h'.objs.size = s.heap.objs.size + 2 →
      (∀ b o, s.heap.get? b = some o → h'.get? b = some o) → Q (.ref (s.heap.objs.size + 1)) { s with heap := h' }) :
    wpAny (model prog w) A (call (.type "enumerate") [.ref l]) Q E s := by
  obtain ⟨⟨c, dct, dt, sl⟩, hl, hc, n, hd⟩ := hL
  replace hc : c = .type "tuple" := hc
  replace hd : dt = .seq items n := hd
  subst hc hd
  refine callType_new F.called_enumerate (by decide) (F.typeCall_enumerate_1 _) (F.newCall_enumerate_1 _) (fun obj => F.args_object_init_2 obj _) F.entry_enumerate_new
    (enum_new_tup l items n dct sl) ⟨hl, ?_⟩
  have hz : (s.heap.push { cls := .type "tuple_iterator", data := .fields #[.ref l, .int 0 0] }).objs.size = s.heap.objs.size + 1 := Heap.size_push ..
  show _ ∧ _
  rw [hz]
  have he : IsEnum ((s.heap.push { cls := .type "tuple_iterator", data := .fields #[.ref l, .int 0 0] }).push
      { cls := .type "enumerate", data := .fields #[.none, .bool false, .ref s.heap.objs.size, rawInt 0, .none, .none] }) (s.heap.objs.size + 1) s.heap.objs.size 0 .none := by
    have q := Heap.get?_push_size (s.heap.push { cls := .type "tuple_iterator", data := .fields #[.ref l, .int 0 0] })
      (o := { cls := .type "enumerate", data := .fields #[.none, .bool false, .ref s.heap.objs.size, rawInt 0, .none, .none] }) rfl
    rw [hz] at q
    exact q
  exact ⟨⟨_, he, rfl⟩, h _ he ⟨_, Heap.get?_push_of_some _ (Heap.get?_push_size _ rfl), rfl, rfl⟩ (by rw [Heap.size_push, hz]) fun b o x => Heap.get?_push_of_some _ (Heap.get?_push_of_some _ x)⟩
end
/-- the tuple at a, each item in a new pair -/
def IteT (K : PySem.W.Frag) (a : Addr) : It :=
  ⟨fun i H => ∃ (xs : List V) (x : V), SqT K H a xs ∧ xs[i]? = some x, fun i H v H' => ∃ T x, v = .ref T ∧ H T = none ∧ H' = upd H T (.tup [.int (i : Nat), x]) ∧ ∀ xs, SqT K H a xs → xs[i]? = some x, fun i H => ∃ xs : List V, SqT K H a xs ∧ xs.length ≤ i⟩
theorem turn_enumT {P : Program} {w : World} {K : PySem.W.Frag} {elts : List Expr} {kk : Nat} {tpos : Pos} (a e it : Addr) :
    Turn P w K (.Tuple elts kk tpos) (IteT K a) [e, it] e (fun i h => (∃ old, IsEnum h e it ((i : Nat) : Int) old) ∧ h.IsTupleIter it a i ∧ e ≠ it) where
  mem := by simp
  obj := fun i h st b hb => by
    obtain ⟨⟨old, he⟩, ⟨o, ho, hc, hd⟩, _⟩ := st
    have e' : b = e ∨ b = it := by simpa using hb
    rcases e' with z | z
    · rw [z]; exact ⟨_, he, fun v q => nomatch q⟩
    · rw [z]; exact ⟨o, ho, fun v q => by rw [hd] at q; cases q⟩
  keep := fun i h h' st k => let ⟨⟨old, he⟩, hi, hne⟩ := st; ⟨⟨old, k e (by simp) _ he⟩, hi.at fun o q => k it (by simp) o q, hne⟩
  item := by
    intro X hP hw hK hc i pins s σ H E I hf st hg
    subst hP hw hK
    obtain ⟨⟨old, he⟩, hit, hne⟩ := st
    obtain ⟨xs, x, hq, hx⟩ := hg
    obtain ⟨its, rv, p, hz⟩ := I.tuple hq
    obtain ⟨u, hu, ru⟩ := rv.get hx
    have hel : e < s.heap.objs.size := Heap.lt_size he
    have hil : it < s.heap.objs.size := by obtain ⟨_, q, _⟩ := hit; exact Heap.lt_size q
    have hie : a ≠ it := fun z => by
      obtain ⟨o1, h1, c1, d1⟩ := id hit
      obtain ⟨o2, h2, c2, n2, d2⟩ := id p
      rw [z, h1] at h2
      cases h2
      rw [d1] at d2
      cases d2
    have hea : e ≠ a := fun z => by
      obtain ⟨o2, h2, c2, n2, d2⟩ := id p
      rw [← z, he] at h2
      cases h2
      cases d2
    have iu : i < its.length := (List.getElem?_eq_some_iff.mp hu).1
    refine wpAny_pyNext_enum_itemD (Draws.tuple (A := X.A.in1) (I.ok.hd hc) it a hie its.toArray) he (i := i) ⟨hit, p⟩ (by simpa using iu) hne (by simp [hne, hea]) fun x' h' tk hx' ho st' hT hsz hk => ?_
    have ex : x' = u := by
      have : its.toArray[i]? = some x' := hx'
      rw [List.getElem?_toArray, hu] at this
      exact (Option.some.inj this).symm
    subst ex
    refine ⟨_, rfl, wpAny_letOwnedTupleGo_enum (s := { s with heap := h', toks := tk + 1 }) ho fun h'' he' sb => ?_⟩
    have hT2 : h''.get? s.heap.objs.size = some { cls := .type "tuple", data := .seq #[.int i tk, x'] } := (sb.2 _ (Nat.ne_of_gt hel)).trans hT
    have new : ObjOk X.prog X.w (upd H s.heap.objs.size (.tup [.int (i : Nat), x])) h'' s.heap.objs.size (.tup [.int (i : Nat), x]) :=
      ⟨by show 2 ≤ sizeLine; decide, [.int i tk, x'], .cons ⟨_, rfl⟩ (.cons ru .nil), ⟨_, hT2, rfl, _, rfl⟩⟩
    have I1 : Inv X pins σ (upd H s.heap.objs.size (.tup [.int (i : Nat), x])) { s with heap := h'', toks := tk + 1 } :=
      I.turnedNew (ch := [e, it]) (fun b ob hb q => (sb.2 b (fun z => hb (by simp [z]))).trans (hk b ob (fun z => hb (by simp [z])) (fun z => hb (by simp [z])) q)) hf (Nat.le_refl _) new
    refine ⟨.ref s.heap.objs.size, _, I1, rfl, ⟨_, x, rfl, I.hok.fresh (Nat.le_refl _), rfl, fun ys hy => by rw [I.tuple_inj hy hq]; exact hx⟩, ⟨⟨x', ?_⟩, st'.1.at fun o q => (sb.2 it (Ne.symm hne)).trans q, hne⟩, fun b hb => ?_⟩
    · have e1 : ((i + 1 : Nat) : Int) = (i : Int) + 1 := by omega
      rw [e1]
      exact he'
    · have hb' : b < s.heap.objs.size := by
        have e' : b = e ∨ b = it := by simpa using hb
        rcases e' with z | z
        · rw [z]; exact hel
        · rw [z]; exact hil
      rw [upd_ne (Nat.ne_of_lt hb')]
      exact (hf b hb).1
  done := by
    intro X hP hw hK hc i pins s σ H E I hf st hg
    subst hP hw hK
    obtain ⟨⟨old, he⟩, hit, hne⟩ := st
    obtain ⟨xs, hq, hx⟩ := hg
    obtain ⟨its, rv, p, hz⟩ := I.tuple hq
    obtain ⟨f0, f1, f2, f3, f4, f5⟩ := hf it (by simp)
    have hl := rv.length
    have hT : s.TypeIs (.ref e) "enumerate" := ⟨_, he, rfl⟩
    unfold pyNext
    refine wpAny_bind (wpAny_attempt (wpAny_callSpecial?_slot (name := Str.ofString "__next__") hT F.slot_enumerate_next
      (wpAny_call_entry F.slot_enumerate_next hT F.entry_enumerate_next ?_ (F.args_enumerate_next_1 _))))
    show wpAny _ _ (field (.ref e) 2 >>= _) _ _ _
    refine wpAny_bind (wpAny_field he rfl (x := .ref it) rfl ?_)
    refine wpAny_bind (wpAny_nextOf_tuple_end (I.ok.hd hc) hit p (by simp; omega) fun h' x he' hx' => ?_)
    obtain ⟨o, ho, hcl⟩ := hx'
    refine wpAny_bind (wpAny_isInstance (T := "StopIteration") (b := true) ⟨o, ho, hcl⟩ isSubtype_stop ?_)
    exact wpAny_pure ⟨rfl, I.turned (t' := s.toks) (fun b o hb q => he' b o hb q) f0 f1 f3 f4 f5⟩
  self := fun A i s Q E st h => let ⟨⟨_, he⟩, _⟩ := st; wpAny_pyIter_enum he h
def iEnumT (K : PySem.W.Frag) (ta : TA) : TI := fun σ H R => ta σ H fun vs H1 => ∃ a xs, vs = [.ref a] ∧ SqT K H1 a xs ∧ R (IteT K a) H1
theorem pi_enumT {X : Cx} {e : Expr} {ta : TA} {p pos tpos : Pos} {elts : List Expr} {kk : Nat} (hg : Gl X "enumerate") (hm : X.mg "enumerate" = none) (ha : PA X [e] ta) (hs : starEach [e] X.env = [(false, eval e X.env)] := by rfl) :
    PI X (.Tuple elts kk tpos) (.Call (.Name "enumerate" p) [e] [] pos) (iEnumT X.K ta) := by
  refine ⟨fun pins s σ H R I h => ?_⟩
  refine Call_ (ld_blt I hg hm boot_enumerate (PyProof.Rows.callWith_type1 (thn (ha.run pos pins s σ H _ I h) fun us s1 ⟨vs, H1, I1, r1, q1⟩ => ?_) hs rfl))
  obtain ⟨a, xs, ex, hq, q⟩ := q1
  subst ex
  cases r1 with
  | cons r rr =>
    cases rr
    cases r
    obtain ⟨its, rv, p', hz⟩ := I1.tuple hq
    refine call_enum_tup (show s1.heap.IsTuple a its.toArray from p') fun h' he hit hsz hk => wpAny_pyIter_enum he ?_
    have I2 : Inv X pins σ H1 { s1 with heap := h' } := I1.kept (t' := s1.toks) hk
    refine ⟨s1.heap.objs.size + 1, [s1.heap.objs.size + 1, s1.heap.objs.size], _, _, H1, rfl, I2, turn_enumT a (s1.heap.objs.size + 1) s1.heap.objs.size, ⟨⟨.none, he⟩, hit, Nat.succ_ne_self _⟩, fun b hb => ?_, q⟩
    have e' : b = s1.heap.objs.size + 1 ∨ b = s1.heap.objs.size := by simpa using hb
    have hle : s1.heap.objs.size ≤ b := by
      rcases e' with z | z
      · rw [z]; exact Nat.le_add_right _ _
      · rw [z]; exact Nat.le_refl _
    exact I1.fpOk hle (I1.hok.fresh hle)
theorem walk_enumT {K : PySem.W.Frag} {a : Addr} {xs : List V} : Walk (IteT K a) xs.length (fun H => SqT K H a xs) (YPair (fun i => some (.int (i : Nat))) (fun i => xs[i]?)) := by
  refine ⟨fun i _ hi q => ⟨xs, xs[i], q, by simp [hi]⟩, fun _ q => ⟨xs, q, Nat.le_refl _⟩, fun i H v H' _ q y => ?_⟩
  obtain ⟨T, x, h1, h2, h3, h4⟩ := y
  exact ⟨T, .int (i : Nat), x, h1, h2, h3, rfl, h4 xs q⟩
end GR
namespace GR
open PySem PySem.Spec PyProof.Rows L2

/-! ### dicts whose keys are tuples: a display, update, dict(pairs) -/
def mergeT (kvs more : List (List Key × V)) : List (List Key × V) := more.foldl (fun acc kv => putK acc kv.1 kv.2) kvs
theorem KT_merge {H : Hp} : ∀ {more : List (List Key × V)} {ys : List (List Key × Addr × Value)} {kvs : List (List Key × V)} {xs : List (List Key × Addr × Value)}, KT H more ys → KT H kvs xs → KT H (mergeT kvs more) (storedAllH xs ys)
  | _, _, _, _, .nil, r => r
  | _, _, kvs, xs, .cons (a := (k, v)) (b := (k', b, u)) h t, r => by
    obtain ⟨h1, h2, h3⟩ := h
    have e : k = k' := h1
    subst e
    show KT H (mergeT (putK kvs k v) _) (storedAllH (storedH xs k b u) _)
    exact KT_merge t (r.put k h2 h3)
theorem length_mergeT : ∀ (more kvs : List (List Key × V)), (mergeT kvs more).length ≤ kvs.length + more.length
  | [], kvs => Nat.le_refl _
  | p :: more, kvs => by
    have h1 := length_mergeT more (putK kvs p.1 p.2)
    have h2 := length_putK kvs p.1 p.2
    show (mergeT (putK kvs p.1 p.2) more).length ≤ _
    rw [List.length_cons]
    omega
theorem dt_obj {P : Program} {w : World} {H' : Hp} {h' : Heap} {a : Addr} {kvs : List (List Key × V)} {xs : List (List Key × Addr × Value)} (z : kvs.length ≤ sizeLine) (hd : (a == sysModules) = false) (r : KT H' kvs xs) (dd : h'.DictOfH (tupleKind (mixKind P w)) a xs) :
    ObjOk P w H' h' a (.dT kvs) := by
  obtain ⟨o, es, ep, h1, h2, h3, h4, _, h5⟩ := dd
  exact ⟨z, hd, xs, r, o, es, ep, h1, h2, h3, h4, h5⟩
section
variable {X : Cx}
/-- d.update(e), d not empty -/
def rUpdT : V → List V → Hp → VK → Prop := fun x xs H Q => ∃ (a b : Addr) (kvs more : List (List Key × V)), x = .ref a ∧ xs = [.ref b] ∧ a ≠ b ∧ H a = some (.dT kvs) ∧ H b = some (.dT more) ∧ kvs ≠ [] ∧ kvs.length + more.length ≤ sizeLine ∧ Q .non (upd H a (.dT (mergeT kvs more)))
theorem mt_updT (hu : X.A.units + 1 < cLine) : MtR X "dict.update" rUpdT := by
  intro pins s σ H x vs v us Q I rx rv h
  obtain ⟨a, b, kvs, more, rfl, rfl, hab, ea, eb, hne, hz, q⟩ := h
  obtain rfl : v = Value.ref a := rx
  rw [Vals.ref1 rv]
  obtain ⟨z1, hd1, xs, r1, d1⟩ := dt_of I.hok ea
  obtain ⟨z2, hd2, ys, r2, d2⟩ := dt_of I.hok eb
  have l1 : kvs.length = xs.length := Paired.length r1
  have l2 : more.length = ys.length := Paired.length r2
  refine call_update_dictH (knd := tupleKind (mixKind X.prog X.w)) (tupleKind_room_in1 hu) hab hd2 d1 d2 (.inl fun e => hne ?_) (by omega) fun h' d1' _ hs => ?_
  · rw [e] at l1
    exact List.eq_nil_of_length_eq_zero l1
  · have he : ∃ q, h'.get? a = some q := let ⟨q, _, _, hq, _⟩ := d1'; ⟨q, hq⟩
    have hl : (mergeT kvs more).length ≤ sizeLine := Nat.le_trans (length_mergeT more kvs) hz
    refine ⟨.non, _, d_write (t' := s.toks) I (by rw [ea]; exact True.intro) hs he (dt_obj hl hd1 ((KT_merge r2 r1).keeps fun c ys ec => ?_) d1'), rfl, q⟩
    rw [upd_ne (ne_of ec ea (fun z => nomatch z))]
    exact ec
/-- dict(xs), xs a list of pairs (tuple, value) -/
structure PairKV (K : PySem.W.Frag) (H : Hp) (p : Addr) (kv : List Key × V) : Prop where
  ex : ∃ b, SqT K H p [.ref b, kv.2] ∧ H b = some (.tup (kv.1.map kV))
def rDictT (K : PySem.W.Frag) : List V → Hp → VK → Prop := fun xs H Q => ∃ (a : Addr) (ps : List Addr) (kvs : List (List Key × V)), xs = [.ref a] ∧ SqL K H a (ps.map V.ref) ∧ Paired (PairKV K H) ps kvs ∧
  ∀ p, H p = none → Q (.ref p) (upd H p (.dT (mergeT [] kvs)))
theorem pairsT_of {pins : List (Addr × Obj)} {σ : L2.St} {H : Hp} {s : Shared} (I : Inv X pins σ H s) : ∀ {ps : List Addr} {kvs : List (List Key × V)}, Paired (PairKV X.K H) ps kvs →
    ∃ prs : List (List Key × Addr × Value), KT H kvs prs ∧ prs.length = ps.length ∧ ∀ (j : Nat) (q : List Key × Addr × Value), prs[j]? = some q → ∃ b, ps[j]? = some b ∧ IsTup s.heap b #[.ref q.2.1, q.2.2]
  | _, _, .nil => ⟨[], .nil, rfl, fun j q e => by simp at e⟩
  | _, _, .cons (a := p) (b := kv) h t => by
    obtain ⟨prs, r, hl, hp⟩ := pairsT_of I t
    obtain ⟨b, hs, hb⟩ := h.ex
    obtain ⟨its, rv, ht, _⟩ := I.tuple hs
    obtain ⟨u, y, ei, ru, ry⟩ := vals2 rv
    subst ei
    obtain rfl : u = Value.ref b := ru
    refine ⟨(kv.1, b, y) :: prs, .cons ⟨rfl, hb, ry⟩ r, by rw [List.length_cons, List.length_cons, hl], fun j q e => ?_⟩
    cases j with
    | zero =>
      have e' : (kv.1, b, y) = q := Option.some.inj e
      subst e'
      exact ⟨p, rfl, ht⟩
    | succ j =>
      obtain ⟨b', e1, e2⟩ := hp j q (by simpa using e)
      exact ⟨b', by simpa using e1, e2⟩
theorem call_dictT (hcalm : X.calm = true) (hu : X.A.units + 64 < cLine) : CallR X (.type "dict") (rDictT X.K) := by
  intro pins s σ H xs us Q I r q
  obtain ⟨a, ps, kvs, ex, hq, hp, q⟩ := q
  subst ex
  obtain ⟨u, eu, rx⟩ := vals1 r
  subst eu
  cases rx
  obtain ⟨its, rv, pl, hz⟩ := I.list hq
  have ei := refs_at rv
  subst ei
  rw [List.length_map] at hz
  obtain ⟨prs, rel, hl, hpr⟩ := pairsT_of I hp
  obtain ⟨o, n, ho, hc, hd, hdat⟩ := pl
  have PA := PairArg.list (prog := X.prog) (w := X.w) a (ps.map Value.ref).toArray (fun j => ps.getD j 0) (prs.map fun q => (Value.ref q.2.1, q.2.2))
  have hkeys : ∀ x ∈ prs, (tupleKind (mixKind X.prog X.w)).is s.heap x.1 x.2.1 := fun x hx => by
    have all : ∀ {l : List (List Key × V)} {m : List (List Key × Addr × Value)}, KT H l m → ∀ x ∈ m, (tupleKind (mixKind X.prog X.w)).is s.heap x.1 x.2.1 := by
      intro l m q
      induction q with
      | nil => intro x hx; exact nomatch hx
      | @cons p q ps qs hq t ih =>
        intro x hx
        rcases List.mem_cons.mp hx with e | hx
        · subst e
          exact key_of I.hok (by rw [← hq.1]; exact hq.2.1)
        · exact ih x hx
    exact all rel x hx
  refine call_dict_pairsH (knd := tupleKind (mixKind X.prog X.w)) (ps := prs) PA (I.ok.hd hcalm) (show X.A.units + 1 + 1 < cLine by omega) ⟨⟨o, n, ho, hc, hd, hdat⟩, by simp [hl], fun j k v e => ?_⟩ ⟨by simp, fun i key v e => ?_⟩ (fun h' hk x hx => ?_) (by simp [hl]; exact hz) fun h' tk hd' hk => ?_
  · rw [List.getElem?_map] at e
    cases hj : prs[j]? with
    | none => rw [hj] at e; cases e
    | some q' =>
      rw [hj] at e
      cases e
      obtain ⟨b, e1, e2⟩ := hpr j q' hj
      have ed : ps.getD j 0 = b := by rw [List.getD_eq_getElem?_getD, e1]; rfl
      refine ⟨by simp [e1], .inl ?_⟩
      show s.heap.IsTuple (ps.getD j 0) _
      rw [ed]
      exact e2
  · have e' : (prs.map fun q => (Value.ref q.2.1, q.2.2))[i]? = some (key, v) := e
    rw [List.getElem?_map] at e'
    cases hj : prs[i]? with
    | none => rw [hj] at e'; cases e'
    | some q' =>
      rw [hj] at e'
      cases e'
      exact ⟨q'.1, q'.2.1, rfl, rfl⟩
  · exact (tupleKind_stays (knd := mixKind X.prog X.w)).stays (fun b o vs n e _ => hk b o (Nat.ne_of_lt (Heap.lt_size e)) (by simp) e) (hkeys x hx)
  · have hm : (s.heap.objs.size == sysModules) = false := beq_eq_false_iff_ne.mpr (Nat.ne_of_gt I.big)
    have hlen : (mergeT [] kvs).length ≤ sizeLine := by
      refine Nat.le_trans (length_mergeT kvs []) ?_
      rw [List.length_nil, Nat.zero_add, Paired.length rel, hl]
      exact hz
    have hn := I.hok.fresh (Nat.le_refl s.heap.objs.size)
    exact ⟨.ref s.heap.objs.size, upd H s.heap.objs.size (.dT (mergeT [] kvs)), I.laid (t' := tk) (fun b o e => hk b o (by simp) e) (Nat.le_refl _) (dt_obj hlen hm ((KT_merge rel .nil).keeps fun c ys ec => by rw [upd_ne (ne_of_none ec hn)]; exact ec) hd'), rfl, q _ hn⟩

/-- {t: v}, one pair, its key a tuple -/
def tDisp1 (tk tv : TE) : TE := fun σ H Q => ∀ p, H p = none → tPairs [(tk, tv)] σ (upd H p (.dT [])) fun ps H2 => H2 p = some (.dT []) ∧ ∃ (b : Addr) (ks : List Key) (y : V), ps = [(.ref b, y)] ∧ H2 b = some (.tup (ks.map kV)) ∧ Q (.ref p) (upd H2 p (.dT [(ks, y)]))
theorem pe_disp1 {pos : Pos} {k v : Expr} {tk tv : TE} (hu : X.A.units + 64 < cLine) (hk : PE X k tk) (hv : PE X v tv) : PE X (.Dict [some k] [v] pos) (tDisp1 tk tv) := by
  have h : PPs X pos [some k] [v] [(tk, tv)] := pps_cons hk hv pps_nil
  refine ⟨fun pins s σ H Q I q => ?_⟩
  have hn := I.hok.fresh (Nat.le_refl s.heap.objs.size)
  have I1 := I.laid (a := s.heap.objs.size) (o := .dT []) (h' := s.heap.push { cls := .type "dict", data := .dict #[] }) (t' := s.toks) (fun _ _ q => Heap.get?_push_of_some _ q) (Nat.le_refl _) (dt_empty s.heap I.big)
  rw [arm_eval_Dict, zip_pairTrees [some k] [v] X.env pos rfl rfl, dictDisplay_pairs (pairTrees [some k] [v] X.env pos) (fun e => by have z := pairTrees_length [some k] [v] X.env pos rfl rfl; rw [e] at z; cases z) (by rw [pairTrees_length [some k] [v] X.env pos rfl rfl]; exact (by decide : 1 < 17))]
  refine wpAny_bind (wpAny_standAt (wpAny_bind (wpAny_subDictH (knd := tupleKind (mixKind X.prog X.w)) (show X.A.units < cLine by omega) (by rw [pairTrees_length [some k] [v] X.env pos rfl rfl]; exact (by decide : 1 ≤ 15)) (thn (h.run pins _ σ _ _ I1 (q _ hn)) fun ws s2 ⟨ps, H2, I2, rel, e, b, ks, y, ep, eb, q2⟩ => ?_))))
  subst ep
  cases rel with
  | @cons p1 w1 _ ws2 hr ht =>
    cases ht
    obtain ⟨rb, ry⟩ := hr
    obtain ⟨wb, wy⟩ := w1
    obtain rfl : wb = Value.ref b := rb
    obtain ⟨z, hd, xs0, r0, dd⟩ := dt_of I2.hok e
    cases r0
    refine ⟨[(ks, b, wy)], ⟨rfl, rfl, key_of I2.hok eb, trivial⟩, dd, fun h' tk dd' hs => wpAny_pure ⟨.ref s.heap.objs.size, _, ?_, rfl, q2⟩⟩
    have he : ∃ q, h'.get? s.heap.objs.size = some q := let ⟨q, _, _, hq, _⟩ := dd'; ⟨q, hq⟩
    refine d_write I2 (by rw [e]; exact True.intro) hs he (dt_obj (show 1 ≤ sizeLine by decide) hd (xs := [(ks, b, wy)]) (.cons ⟨rfl, ?_, ry⟩ .nil) dd')
    show upd H2 s.heap.objs.size _ b = _
    rw [upd_ne (ne_of eb e (fun z => nomatch z))]
    exact eb
end
end GR
namespace GRS
open PySem PySem.W PySem.Calls PyProof.Rows

/-! ### sorted of tuples of ints, any number of them, the empty one among them -/
def IsTp (h : Heap) (v : Value) (ns : List Int) : Prop :=
  ∃ (a : Addr) (dd : Option Addr) (items : Array Value) (n : Nat) (sl : Array (Option Value)), v = .ref a ∧ h.get? a = some { cls := .type "tuple", dict := dd, data := .seq items n, slots := sl } ∧ IntsAre items.toList ns
theorem IsTp.keeps {h h' : Heap} {v : Value} {ns : List Int} (x : IsTp h v ns) (k : ∀ b o, v = .ref b → h.get? b = some o → h'.get? b = some o) : IsTp h' v ns := by
  obtain ⟨a, dd, items, n, sl, e, g, i⟩ := x
  exact ⟨a, dd, items, n, sl, e, k _ _ e g, i⟩
theorem IsTp.type {M : Model} {h : Heap} {v : Value} {ns : List Int} (x : IsTp h v ns) : Looks M h (typeOf v) (.type "tuple") := by
  obtain ⟨a, dd, items, n, sl, rfl, g, i⟩ := x
  exact (Looks.ld g).andThen .now
section
variable {prog : Program} {w : World} {A : Around} {E : Value → Shared → Prop} {s : Shared}
theorem lt_one {v u : Value} {ns ms : List Int} {Q : Bool → Shared → Prop} (hu : A.units < cLine) (hv : IsTp s.heap v ns) (hw : IsTp s.heap u ms) (h : Q (HT.lexLt ns ms) s) : wpAny (model prog w) A (keyLt' oneType' v u) Q E s := by
  obtain ⟨a, dd, items, n, sl, rfl, ga, ia⟩ := hv
  obtain ⟨b, dd2, items2, n2, sl2, rfl, gb, ib⟩ := hw
  rw [keyLt'_oneType, oneLt'_eq]
  simp only [if_true]
  refine wpAny_bind (wpAny_cRoomFor hu ?_)
  refine wpAny_bind (wpAny_callSpecialIfBound?_slot (T := "tuple") ⟨_, ga, rfl⟩ PySem.F.slot_tuple_lt (call_meets PySem.F.slot_tuple_lt ⟨_, ga, rfl⟩ PySem.F.entry_tuple_lt (PySem.F.args_tuple_lt_2 _ _) (HT.tuple_lt_ints a b items items2 n n2 dd dd2 sl sl2 ns ms ia ib) ⟨ga, gb, ?_⟩))
  exact wpAny_truthy_bool h
theorem kat_ints {b : Bool} {fin : Bool} {Q : Bool → Shared → Prop} : ∀ {vs ws : List Value} {ns ms : List Int} (i : Nat), IntsAre vs ns → IntsAre ws ms → fin = decide (ns.length < ms.length) → Q (HT.lexLt ns ms) s → KatLex prog w A b fin Q (vs.zip ws) i s
  | _, _, _, _, i, .nil, .nil, hf, hq => by
    rw [HT.lexLt_nil_nil] at hq
    have e : fin = false := hf
    subst e
    exact kat_nil hq
  | _, _, _, _, i, .nil, .cons c u r, hf, hq => by
    rw [HT.lexLt_nil_cons] at hq
    have e : fin = true := by rw [hf]; simp
    subst e
    exact kat_nil hq
  | _, _, _, _, i, .cons a t r, .nil, hf, hq => by
    rw [HT.lexLt_cons_nil] at hq
    have e : fin = false := by rw [hf]; simp
    subst e
    rw [List.zip_nil_right]
    exact kat_nil hq
  | _, _, _, _, i, .cons a t r, .cons c u r', hf, hq => by
    rw [HT.lexLt_cons] at hq
    rw [List.zip_cons_cons]
    refine kat_cons (SeqAt.EqAt.int_int a t c u prog w _ _ ?_)
    refine kat_go (fun e1 => ?_) (fun e1 => ?_)
    · have ex : a = c := by simpa using e1
      rw [if_pos ex] at hq
      exact kat_yes (kat_ints (i + 1) r r' (by rw [hf]; simp) hq)
    · have ex : ¬ a = c := by simpa using e1
      rw [if_neg ex] at hq
      refine kat_no ?_
      cases hb : (b && i == 0) with
      | true => exact oneLt_int hq
      | false => exact kat_one _ _ (PyProof.Rows.lt_int hq)
theorem lt_many {v u : Value} {ns ms : List Int} {Q : Bool → Shared → Prop} (hv : IsTp s.heap v ns) (hw : IsTp s.heap u ms) (h : Q (HT.lexLt ns ms) s) : wpAny (model prog w) A (keyLt' (tuples' true) v u) Q E s := by
  obtain ⟨a, dd, items, n, sl, rfl, ga, ia⟩ := hv
  obtain ⟨b, dd2, items2, n2, sl2, rfl, gb, ib⟩ := hw
  have e1 : items.size = ns.length := by rw [← ia.length]; simp
  have e2 : items2.size = ms.length := by rw [← ib.length]; simp
  exact kat_lt ga rfl gb rfl (kat_ints 0 ia ib (by rw [e1, e2]) h)
end
section
variable {prog : Program} {w : World} {A : Around} {E : Value → Shared → Prop} {s : Shared}
theorem any_firsts {M : Model} : ∀ (vs : List Value) {Q : List (Option Value) → Shared → Prop}, (∀ v ∈ vs, ∃ ns, IsTp s.heap v ns) → (∀ fs : List (Option Value), fs.length = vs.length → Q fs s) → wpAny M A (vs.mapM firstOfTuple') Q E s
  | [], Q, _, h => by rw [List.mapM_nil]; exact wpAny_pure (h [] rfl)
  | v :: vs, Q, t, h => by
    obtain ⟨ns, a, dd, items, n, sl, rfl, g, i⟩ := t v List.mem_cons_self
    rw [List.mapM_cons]
    refine wpAny_bind ?_
    rw [kas_first_eq]
    refine wpAny_bind (Looks.here (show Looks M s.heap (typeOf (.ref a)) (.type "tuple") from (Looks.ld g).andThen .now) ?_)
    rw [if_neg (by first | decide | simp)]
    refine wpAny_bind (listItems_at g rfl (wpAny_pure ?_))
    exact wpAny_bind (any_firsts vs (Q := fun bs s' => wpAny M A (pure (items[0]? :: bs)) Q E s') (fun u hu => t u (List.mem_cons_of_mem _ hu)) fun fs hf => wpAny_pure (h _ (by rw [List.length_cons, List.length_cons, hf])))
theorem kind_empty {M : Model} {v : Value} {rest : List Value} {Q : SortKind → Shared → Prop} (hv : IsTp s.heap v []) (hr : ∀ u ∈ rest, ∃ ns, IsTp s.heap u ns) (h : Q oneType' s) : wpAny M A (keyKind' (v :: rest).toArray) Q E s := by
  have all : ∀ u ∈ v :: rest, ∃ ns, IsTp s.heap u ns := fun u hu => by
    rcases List.mem_cons.mp hu with rfl | hu
    · exact ⟨[], hv⟩
    · exact hr u hu
  rw [keyKind'_eq, List.mapM_toArray, map_eq_pure_bind, List.mapM_cons]
  obtain ⟨a, dd, items, n, sl, rfl, g, i⟩ := hv
  have e0 : items[0]? = none := by
    have z := i.length
    rw [Array.getElem?_eq_none]
    simpa using z
  refine wpAny_bind (wpAny_bind (wpAny_bind ?_))
  rw [kas_first_eq]
  refine wpAny_bind (Looks.here (show Looks M s.heap (typeOf (.ref a)) (.type "tuple") from (Looks.ld g).andThen .now) ?_)
  rw [if_neg (by first | decide | simp)]
  refine wpAny_bind (listItems_at g rfl (wpAny_pure ?_))
  rw [e0]
  refine wpAny_bind (any_firsts rest hr fun fs hf => wpAny_pure (wpAny_pure ?_))
  rw [if_neg (by simp), if_neg (by simp)]
  rw [oneTypeOnly'_eq, List.mapM_toArray, map_eq_pure_bind]
  refine wpAny_bind (wpAny_bind (wpAny_bind (kas_mapM (r := Value.type "tuple") _ (fun u hu Q' hq => ?_) (wpAny_pure ?_))))
  · obtain ⟨ns, x⟩ := all u hu
    exact x.type.here hq
  · have hall : ((List.map (fun _ => Value.type "tuple") (Value.ref a :: rest)).toArray.all fun x => x == Value.type "tuple") = true := by
      simp only [List.all_toArray, List.all_map, List.all_eq_true]
      intro _ _
      exact (by decide : (Value.type "tuple" == Value.type "tuple") = true)
    have h0 : (List.map (fun _ => Value.type "tuple") (Value.ref a :: rest)).toArray[0]? = some (Value.type "tuple") := by simp
    rw [h0]
    simp only [hall, if_true]
    exact wpAny_pure (wpAny_pure h)
theorem tups_firsts {h : Heap} : ∀ {vs : List Value}, (∀ v ∈ vs, ∃ n ns, IsTp h v (n :: ns)) → ∃ fs, KatTups h vs fs ∧ fs.length = vs.length ∧ ∀ f ∈ fs, ∃ i t, f = Value.int i t
  | [], _ => ⟨[], KatTups.nil, rfl, fun f hf => absurd hf (by simp)⟩
  | v :: vs, hv => by
    obtain ⟨fs, h1, h2, h3⟩ := tups_firsts fun u hu => hv u (List.mem_cons_of_mem _ hu)
    obtain ⟨m, ns, a, dd, items, n, sl, rfl, g, i⟩ := hv v List.mem_cons_self
    generalize ei : items.toList = its at i
    cases i with
    | cons _ t r =>
      have hf : items[0]? = some (.int m t) := by rw [← Array.getElem?_toList, ei]; rfl
      refine ⟨.int m t :: fs, KatTups.cons g rfl rfl hf h1, by rw [List.length_cons, List.length_cons, h2], fun f hf => ?_⟩
      rcases List.mem_cons.mp hf with rfl | hf
      · exact ⟨m, t, rfl⟩
      · exact h3 f hf
theorem tup_sortable {a : Addr} {vs : List Value} {k : Value → List Int} (h2 : 2 ≤ vs.length) (hu : A.units < cLine) (hv : ∀ v ∈ vs, IsTp s.heap v (k v)) (ha : ∀ v ∈ vs, v ≠ .ref a) (hk : (∀ v ∈ vs, k v ≠ []) ∨ ∃ v rest, vs = v :: rest ∧ k v = []) :
    SrtO.SortableO prog w A s a vs fun v u => HT.lexLt (k v) (k u) := by
  intro h' keep
  have hv' : ∀ v ∈ vs, IsTp h' v (k v) := fun v hm => (hv v hm).keeps fun b o e g => keep b o (fun z => ha v hm (by rw [e, z])) g
  rcases hk with hk | ⟨v, rest, rfl, e⟩
  · obtain ⟨fs, t1, t2, t3⟩ := tups_firsts (h := h') (vs := vs) fun v hm => by
      cases q : k v with
      | nil => exact absurd q (hk v hm)
      | cons n ns => exact ⟨n, ns, by rw [← q]; exact hv' v hm⟩
    refine ⟨tuples' true, fun Q E hq => ?_, fun p q hp hq => lt_many (s := { s with heap := h' }) (Q := fun r s' => s' = { s with heap := h' } ∧ r = HT.lexLt (k p.1) (k q.1)) (E := fun _ _ => False) (hv' p.1 hp) (hv' q.1 hq) ⟨rfl, rfl⟩⟩
    refine kat_kind (s := { s with heap := h' }) (T := .type "int") t1 (by omega) (fun f hm => ?_) (by rfl) ?_
    · obtain ⟨x, t, rfl⟩ := t3 f hm
      exact Looks.now
    · have e : (Value.type "int" != Value.type "tuple") = true := by first | decide +kernel | rfl | decide
      rw [e]
      exact hq
  · refine ⟨oneType', fun Q E hq => ?_, fun p q hp hq => lt_one (s := { s with heap := h' }) (Q := fun r s' => s' = { s with heap := h' } ∧ r = HT.lexLt (k p.1) (k q.1)) (E := fun _ _ => False) hu (hv' p.1 hp) (hv' q.1 hq) ⟨rfl, rfl⟩⟩
    refine kind_empty (s := { s with heap := h' }) (by rw [← e]; exact hv' v List.mem_cons_self) (fun u hm => ⟨_, hv' u (List.mem_cons_of_mem _ hm)⟩) hq
end
end GRS

namespace GR
open PySem PySem.Spec PyProof.Rows L2
/-- sorted(xs), xs a list of tuples of ints, none of them empty or the first one -/
def rSortTup (K : PySem.W.Frag) : List V → Hp → VK → Prop := fun vs H Q => ∃ (a : Addr) (ts : List Addr) (k : Addr → List Int), vs = [.ref a] ∧ SqL K H a (ts.map V.ref) ∧ (∀ t ∈ ts, H t = some (.tup ((k t).map V.int))) ∧
  ((∀ t ∈ ts, k t ≠ []) ∨ ∃ t rest, ts = t :: rest ∧ k t = []) ∧
  ∀ (ts' : List Addr) (p : Addr), ts'.Perm ts → ts'.Pairwise (fun p q => HT.lexLt (k q) (k p) = false) → H p = none → Q (.ref p) (upd H p (.lst (ts'.map V.ref)))
theorem cr_sortTup {X : Cx} (hu : X.A.units + 64 < cLine) : CallR X (.builtin "sorted") (rSortTup X.K) := by
  intro pins s σ H vs us Q I r h
  obtain ⟨a, ts, k, rfl, hs, hT, hk, q⟩ := h
  obtain ⟨its, rv, hl, hz⟩ := I.list hs
  rw [Vals.ref1 r]
  have ei := nts_of rv
  have hzs : its.length ≤ sizeLine := by rw [← rv.length]; exact hz
  have hv : ∀ u ∈ its, GRS.IsTp s.heap u (k (adO u)) := fun u hm => by
    rw [ei] at hm
    obtain ⟨t, ht, rfl⟩ := List.mem_map.mp hm
    obtain ⟨_, its2, r2, ⟨cls, dd, data, sl⟩, h1, h2, n, h3⟩ := I.hok t _ (hT t ht)
    simp only at h2 h3
    subst h2 h3
    exact ⟨t, dd, its2.toArray, n, sl, rfl, h1, (show IntsAre its2.toArray.toList (k t) by simpa using r2.ints)⟩
  refine SrtO.sorted_ord (NtL.swo_lexL fun u => k (adO u)) hl.isList hzs (fun h2 h₁ a' ha' kk => ?_) fun out h1 h2 => ?_
  · refine GRS.tup_sortable (s := { s with heap := h₁ }) h2 (show X.A.units + 1 + 1 < cLine by omega) (fun v hm => (hv v hm).keeps fun b o _ g => (kk b o g).2) (fun v hm z => ?_) ?_
    · obtain ⟨b, dd, items, n, sl, e, g, _⟩ := hv v hm
      rw [e] at z
      cases z
      exact (kk _ _ g).1 rfl
    · rcases hk with hk | ⟨t, rest, e, hk⟩
      · refine .inl fun v hm => ?_
        rw [ei] at hm
        obtain ⟨t, ht, rfl⟩ := List.mem_map.mp hm
        exact hk t ht
      · refine .inr ⟨.ref t, rest.map Value.ref, ?_, hk⟩
        rw [ei, e, List.map_cons]
  · obtain ⟨ep, he'⟩ := PyProof.Rows.sortedAll_at s.heap its out.toArray
    have eo : out = (out.map adO).map Value.ref := ref_map fun u hm => by
      have hm' : u ∈ its := h2.perm.mem_iff.mp hm
      rw [ei] at hm'
      obtain ⟨t, _, e⟩ := List.mem_map.mp hm'
      exact ⟨t, e.symm⟩
    have hp : (out.map adO).Perm ts := by
      have p1 := h2.perm.map adO
      rw [ei, ad_map] at p1
      exact p1
    have hsd : (out.map adO).Pairwise (fun p q => HT.lexLt (k q) (k p) = false) := List.pairwise_map.mpr (h1.imp fun {x y} z => z)
    have hlen : ((out.map adO).map V.ref).length ≤ sizeLine := by
      rw [List.length_map, hp.length_eq]
      rw [List.length_map] at hz
      exact hz
    have rvo : Vals ((out.map adO).map V.ref) out := by
      have z := of_nts (out.map adO)
      rw [← eo] at z
      exact z
    exact ⟨.ref _, upd H (s.heap.objs.size + 1) (.lst ((out.map adO).map V.ref)), I.laid (t' := s.toks) (fun _ _ => PyProof.Rows.sortedAll_old) (Nat.le_succ _) ⟨hlen, out, ep, rvo, he'⟩, rfl, q _ _ hp hsd (I.hok.fresh (Nat.le_succ _))⟩
end GR
namespace GW
open PySem PySem.Spec PyProof.Rows L2 GR
/-! ### the text by places -/
def top (i : Nat) : Stmt := PySem.Challenge.pw_gridshares_k67_whole_three_roads.main.body.getD i (.Pass ⟨0, 0, 0, 0⟩)
abbrev S11 : Stmt := top 11
abbrev S12 : Stmt := top 12
abbrev S13 : Stmt := top 13
abbrev S14 : Stmt := top 14
abbrev S16 : Stmt := top 16
abbrev S17 : Stmt := top 17
abbrev S18 : Stmt := top 18
abbrev S19 : Stmt := top 19
abbrev S20 : Stmt := top 20
abbrev S21 : Stmt := top 21
abbrev S23 : Stmt := top 23
abbrev S24 : Stmt := top 24
abbrev S25 : Stmt := top 25
abbrev S26 : Stmt := top 26
abbrev S27 : Stmt := top 27
abbrev S28 : Stmt := top 28
abbrev S30 : Stmt := top 30
abbrev S32 : Stmt := top 32
abbrev S33 : Stmt := top 33
abbrev S34 : Stmt := top 34
abbrev S35 : Stmt := top 35
abbrev S36 : Stmt := top 36
abbrev S39 : Stmt := top 39
abbrev S40 : Stmt := top 40
abbrev S41 : Stmt := top 41
abbrev S42 : Stmt := top 42
abbrev S44 : Stmt := top 44
abbrev S45 : Stmt := top 45
abbrev S46 : Stmt := top 46
abbrev S48 : Stmt := top 48
abbrev S49 : Stmt := top 49
abbrev S50 : Stmt := top 50
abbrev S52 : Stmt := top 52
abbrev S53 : Stmt := top 53
abbrev S54 : Stmt := top 54
abbrev S56 : Stmt := top 56
abbrev S57 : Stmt := top 57
abbrev S58 : Stmt := top 58
abbrev S59 : Stmt := top 59
abbrev S61 : Stmt := top 61
abbrev S62 : Stmt := top 62
abbrev S63 : Stmt := top 63
abbrev S65 : Stmt := top 65
abbrev S67 : Stmt := top 67
abbrev S69 : Stmt := top 69
abbrev S70 : Stmt := top 70
abbrev S71 : Stmt := top 71
abbrev S72 : Stmt := top 72
abbrev S73 : Stmt := top 73
abbrev S74 : Stmt := top 74
abbrev S75 : Stmt := top 75
abbrev S76 : Stmt := top 76
abbrev S77 : Stmt := top 77
abbrev S78 : Stmt := top 78
abbrev S79 : Stmt := top 79
abbrev S80 : Stmt := top 80
/-- a def of the text where the top has left it -/
structure DefAt (K : PySem.W.Frag) (mg : Str → Option Value) (x : Str) (st : Stmt) (ps : List Str) (f : Addr) (fd : FuncData) : Prop where
  F : Fun K x x st f fd
  g : mg x = some (.ref f)
  b : Binds K fd ps []
structure Txt (K : PySem.W.Frag) (mg : Str → Option Value) (f : Nat → Addr) (d : Nat → FuncData) : Prop where
  is_whole : DefAt K mg "is_whole" S11 ["thing"] (f 11) (d 11)
  row_of : DefAt K mg "row_of" S12 ["share", "r"] (f 12) (d 12)
  cells_in : DefAt K mg "cells_in" S13 ["share"] (f 13) (d 13)
  turned_share : DefAt K mg "turned_share" S14 ["share"] (f 14) (d 14)
  is_box : DefAt K mg "is_box" S16 ["thing"] (f 16) (d 16)
  need_box : DefAt K mg "need_box" S17 ["thing"] (f 17) (d 17)
  does_fit : DefAt K mg "does_fit" S18 ["box", "share"] (f 18) (d 18)
  fits_in : DefAt K mg "fits_in" S19 ["box", "share"] (f 19) (d 19)
  need_fit : DefAt K mg "need_fit" S20 ["box", "share"] (f 20) (d 20)
  other_share : DefAt K mg "other_share" S21 ["box", "share"] (f 21) (d 21)
  with_cell : DefAt K mg "with_cell" S23 ["share", "row"] (f 23) (d 23)
  without_cell : DefAt K mg "without_cell" S24 ["share", "row"] (f 24) (d 24)
  in_rows : DefAt K mg "in_rows" S25 ["share"] (f 25) (d 25)
  out_rows : DefAt K mg "out_rows" S26 ["share"] (f 26) (d 26)
  put_in : DefAt K mg "put_in" S27 ["share", "row"] (f 27) (d 27)
  taken_out : DefAt K mg "taken_out" S28 ["share", "row"] (f 28) (d 28)
  lies_within : DefAt K mg "lies_within" S30 ["one", "other"] (f 30) (d 30)
  chain_shares : DefAt K mg "chain_shares" S32 ["one", "rows"] (f 32) (d 32)
  is_chain : DefAt K mg "is_chain" S33 ["one", "other", "thing"] (f 33) (d 33)
  need_chain : DefAt K mg "need_chain" S34 ["one", "other", "thing"] (f 34) (d 34)
  ways_on : DefAt K mg "ways_on" S35 ["one", "other"] (f 35) (d 35)
  chains_between : DefAt K mg "chains_between" S36 ["one", "other"] (f 36) (d 36)
  is_square : DefAt K mg "is_square" S39 ["thing"] (f 39) (d 39)
  worth_of : DefAt K mg "worth_of" S40 ["rows", "columns"] (f 40) (d 40)
  square_worth : DefAt K mg "square_worth" S41 ["square"] (f 41) (d 41)
  choices_of : DefAt K mg "choices_of" S42 ["a", "b"] (f 42) (d 42)
  ways_by : DefAt K mg "ways_by" S44 ["rows", "columns", "left"] (f 44) (d 44)
  chains_by_square : DefAt K mg "chains_by_square" S45 ["one", "other"] (f 45) (d 45)
  stacks_by_square : DefAt K mg "stacks_by_square" S46 ["one", "other", "k"] (f 46) (d 46)
  steps_on : DefAt K mg "steps_on" S48 ["share", "known"] (f 48) (d 48)
  chain_at : DefAt K mg "chain_at" S49 ["one", "other", "number"] (f 49) (d 49)
  place_of_chain : DefAt K mg "place_of_chain" S50 ["one", "other", "rows"] (f 50) (d 50)
  shares_up_to : DefAt K mg "shares_up_to" S52 ["high", "wide"] (f 52) (d 52)
  shares_in : DefAt K mg "shares_in" S53 ["box"] (f 53) (d 53)
  shares_of : DefAt K mg "shares_of" S54 ["box", "n"] (f 54) (d 54)
  long_column : DefAt K mg "long_column" S56 ["share", "column"] (f 56) (d 56)
  is_cell : DefAt K mg "is_cell" S57 ["share", "cell"] (f 57) (d 57)
  hook_of : DefAt K mg "hook_of" S58 ["share", "cell"] (f 58) (d 58)
  hooks_of : DefAt K mg "hooks_of" S59 ["share"] (f 59) (d 59)
  product_of : DefAt K mg "product_of" S61 ["numbers"] (f 61) (d 61)
  up_to : DefAt K mg "up_to" S62 ["n"] (f 62) (d 62)
  chains_to : DefAt K mg "chains_to" S63 ["share"] (f 63) (d 63)
  shares_between : DefAt K mg "shares_between" S65 ["one", "other"] (f 65) (d 65)
  stacks_between : DefAt K mg "stacks_between" S67 ["one", "other", "k"] (f 67) (d 67)
  d_law_begun : DefAt K mg "_law_begun" S69 ["_law_script"] (f 69) (d 69)
  d_law_take : DefAt K mg "_law_take" S70 ["_law_pen", "_law_many"] (f 70) (d 70)
  d_law_cut : DefAt K mg "_law_cut" S71 ["_law_lengths"] (f 71) (d 71)
  d_law_drawn : DefAt K mg "_law_drawn" S72 ["_law_pen", "_law_high", "_law_wide"] (f 72) (d 72)
  d_law_inner : DefAt K mg "_law_inner" S73 ["_law_pen", "_law_other"] (f 73) (d 73)
  d_law_product : DefAt K mg "_law_product" S74 ["_law_many"] (f 74) (d 74)
  d_law_hooks : DefAt K mg "_law_hooks" S75 ["_law_share"] (f 75) (d 75)
  d_law_roads_right : DefAt K mg "_law_roads_right" S76 ["_law_one", "_law_other"] (f 76) (d 76)
  d_law_through_right : DefAt K mg "_law_through_right" S77 ["_law_one", "_law_other", "_law_m"] (f 77) (d 77)
  d_law_last_right : DefAt K mg "_law_last_right" S78 ["_law_one", "_law_other"] (f 78) (d 78)
  d_law_all_right : DefAt K mg "_law_all_right" S79 ["_law_n"] (f 79) (d 79)
  law : DefAt K mg "law" S80 ["_law_script"] (f 80) (d 80)
  most : ∃ t, mg "MOST" = some (.int 20 t)
  side : ∃ t, mg "SIDE" = some (.int 6 t)
  b_len : mg "len" = none
  b_range : mg "range" = none
  b_list : mg "list" = none
  b_tuple : mg "tuple" = none
  b_all : mg "all" = none
  b_isinstance : mg "isinstance" = none
  b_int : mg "int" = none
  b_bool : mg "bool" = none
  b_sum : mg "sum" = none
  b_min : mg "min" = none
  b_max : mg "max" = none
  b_enumerate : mg "enumerate" = none
  b_dict : mg "dict" = none
  b_sorted : mg "sorted" = none
  b_abs : mg "abs" = none
end GW
namespace GW
open PySem PySem.Spec PyProof.Rows L2 GR GS

/-! ### shares as tuples of ints -/
def vN (n : Nat) : V := .int (n : Int)
def tv (l : List Nat) : List V := l.map vN
def kk (l : List Nat) : List Key := l.map fun n : Nat => (Sum.inl (n : Int) : Key)
theorem kk_map (l : List Nat) : (kk l).map kV = tv l := by
  unfold kk tv
  rw [List.map_map]
  rfl
theorem tv_int (l : List Nat) : tv l = (l.map fun n : Nat => (n : Int)).map V.int := by
  unfold tv
  rw [List.map_map]
  rfl
theorem tv_len (l : List Nat) : (tv l).length = l.length := by simp [tv]
theorem tv_get {l : List Nat} {i : Nat} (h : i < l.length) : (tv l)[i]? = some (vN (row l i)) := by
  unfold tv
  rw [List.getElem?_map, List.getElem?_eq_getElem h, row_get h]
  rfl
theorem kk_inj {a b : List Nat} (h : kk a = kk b) : a = b := by
  induction a generalizing b with
  | nil => cases b with
    | nil => rfl
    | cons y b => cases h
  | cons x a ih => cases b with
    | nil => cases h
    | cons y b =>
      have h1 := (List.cons.inj h).1
      have h2 := ih (List.cons.inj h).2
      have : (x : Int) = (y : Int) := Sum.inl.inj h1
      rw [h2]
      congr 1
      omega
abbrev ShH (H : Hp) (a : Addr) (l : List Nat) : Prop := H a = some (.tup (tv l))
theorem same_new {H : Hp} {p : Addr} (h : H p = none) (o : HO) : Same H (upd H p o) := fun b u q => by rw [upd_ne (ne_of_none q h)]; exact q
theorem same_mut {H H' : Hp} {p : Addr} {o : HO} (e : Same H H') (h : H p = none) : Same H (upd H' p o) := fun a u ha => by
  rw [upd_ne (ne_of_none ha h)]
  exact e a u ha
theorem small {n : Nat} (h : n ≤ 100000) : n ≤ sizeLine := Nat.le_trans h (by decide)
theorem smallL {n : Nat} (h : n < 100000) : n < sizeLine := Nat.lt_of_lt_of_le h (by decide)

/-! ### calls -/
section
variable {X : Cx}
theorem dcall {x : Str} {st : Stmt} {ps : List Str} {f : Addr} {fd : FuncData} {sp : Sp} {j k : Nat} {e : Expr} {es : List Expr} {t : TA} {p pos : Pos} (D : DefAt X.K X.mg x st ps f fd) (G : FnOk X.prog X.w X.K X.mg X.base CX0 j f fd ps sp) (hr : Room k X.A) (ha : PA X (e :: es) t) (hj : j ≤ k := by decide)
    (hg : Gl X x := by rfl) (hdb : (x == ("__debug__" : Str)) = false := by decide) (he : starEach (e :: es) X.env = (false, eval e X.env) :: starEach es X.env := by rfl) (hpl : (backTo pos (starEach es X.env)).any (·.1) = false := by rfl) :
    PE X (.Call (.Name x p) (e :: es) [] pos) (tCall sp [] E0 t) :=
  pe_call G (hr.mono hj) hg D.g D.F.kp D.b .nil pass0 ha hdb he hpl
end

section
variable {P : Program} {w : World} {K : PySem.W.Frag} {mg : Str → Option Value} {base : Heap} {f : Nat → Addr} {d : Nat → FuncData}

/-! ### is_whole, row_of, cells_in -/
def spWhole : Sp := fun vs H Q _ => ∃ i : Int, vs = [.int i] ∧ Q (.bl true) H
theorem sc11 : FnScope ["thing"] ["thing"] (defScope S11) := ⟨rfl, rfl, rfl, by decide +kernel, rfl, by decide +kernel, by decide +kernel⟩
theorem ok11 (T : Txt K mg f d) : FnOk P w K mg base CX0 1 (f 11) (d 11) ["thing"] spWhole := by
  refine T.is_whole.F.ok sc11 (fun vs H Q E h => ?_) (fun cdv A outer s H vs Q E hr h => ?_)
  · obtain ⟨i, rfl, _⟩ := h
    rfl
  obtain ⟨i, rfl, q⟩ := h
  refine ⟨_, pss_one (ps_ret (pe_and (pe_callB call_isi (by rfl) T.b_isinstance (by decide +kernel) (pa_cons (pv 0) (pa_cons (pe_bltn (v := .ty "int") (by rfl) T.b_int boot_int rfl) pa_nil)))
    (pe_one (pe_not (pe_callB call_isi (by rfl) T.b_isinstance (by decide +kernel) (pa_cons (pv 0) (pa_cons (pe_bltn (v := .ty "bool") (by rfl) T.b_bool boot_bool rfl) pa_nil))))))), ?_⟩
  refine ⟨_, rfl, _, _, _, _, true, rfl, .ty "int", .base (.int i), kit_ty (by decide +kernel), true, rfl, iteT ?_⟩
  exact ⟨_, rfl, _, _, _, _, false, rfl, .ty "bool", .base (.int i), kit_ty (by decide +kernel), false, rfl, q⟩

def spRowOf : Sp := fun vs H Q _ => ∃ (a : Addr) (l : List Nat) (r : Nat), vs = [.ref a, vN r] ∧ ShH H a l ∧ Q (vN (row l r)) H
theorem sc12 : FnScope ["share", "r"] ["share", "r"] (defScope S12) := ⟨rfl, rfl, rfl, by decide +kernel, rfl, by decide +kernel, by decide +kernel⟩
theorem ok12 (T : Txt K mg f d) : FnOk P w K mg base CX0 1 (f 12) (d 12) ["share", "r"] spRowOf := by
  refine T.row_of.F.ok sc12 (fun vs H Q E h => ?_) (fun cdv A outer s H vs Q E hr h => ?_)
  · obtain ⟨a, l, r, rfl, _⟩ := h
    rfl
  obtain ⟨a, l, r, rfl, hs, q⟩ := h
  refine ⟨_, pss_cons (ps_if (pt_cmpR op_lt (pv 1) (pe_callB call_len_seq (by rfl) T.b_len PySem.boot_len (pa_cons (pv 0) pa_nil)) (nomark _)) (pss_one (ps_ret (pe_ix ix_tup (pv 0) (pv 1) (fun _ _ => rfl)))) pss_nil) (pss_one (ps_ret pe_int)), ?_⟩
  refine ⟨_, rfl, _, rfl, a, _, rfl, .inr (SqT.of hs), _, _, rfl, rfl, _, rfl, ?_⟩
  rw [tv_len]
  refine ite2 (fun c => ?_) (fun c => ?_)
  · have c' : r < l.length := by have := of_decide_eq_true c; omega
    exact ⟨_, rfl, _, rfl, a, _, _, _, rfl, rfl, SqT.of hs, atI_nat (tv_get c'), q⟩
  · have c' : ¬ r < l.length := by
      have := of_decide_eq_false (Bool.eq_false_iff.mpr c)
      omega
    rw [row_ge (by omega)] at q
    exact q
end
end GW
namespace GW
open PySem PySem.Spec PyProof.Rows L2 GR GS

/-! ### a comprehension whose turns only make new things -/
section
variable {α : Type} {J : It} {G : Hp → Prop} {Y : Nat → Hp → V → Hp → Prop} {src : List α}
theorem paired_imp {A B : α → V → Prop} : ∀ {xs : List α} {ys : List V}, Paired A xs ys → (∀ a v, A a v → B a v) → Paired B xs ys
  | _, _, .nil, _ => .nil
  | _, _, .cons h t, k => .cons (k _ _ h) (paired_imp t k)
theorem paired_snoc {A : α → V → Prop} {x : α} {y : V} : ∀ {xs : List α} {ys : List V}, Paired A xs ys → A x y → Paired A (xs ++ [x]) (ys ++ [y])
  | _, _, .nil, h => .cons h .nil
  | _, _, .cons h t, k => .cons h (paired_snoc t k)
theorem paired_len {A : α → V → Prop} : ∀ {xs : List α} {ys : List V}, Paired A xs ys → xs.length = ys.length
  | _, _, .nil => rfl
  | _, _, .cons _ t => by rw [List.length_cons, List.length_cons, paired_len t]
theorem paired_map {F : α → V} : ∀ {xs : List α} {ys : List V}, Paired (fun a v => v = F a) xs ys → ys = xs.map F
  | _, _, .nil => rfl
  | _, _, .cons h t => by rw [List.map_cons, ← paired_map t, h]
theorem take_more {l : List α} {i : Nat} {x : α} (h : l[i]? = some x) : l.take (i + 1) = l.take i ++ [x] := by
  rw [List.take_add_one, h]
  rfl
theorem lc_pure (w : Walk J src.length G Y) {g : TG} {tt : TT} {te : TE} {vs : List Nat} {σ : L2.St} {H1 : Hp} {D : Addr} {Qd : Hp → Prop} (hD : H1 D = none) (keep : α → Bool) (R : α → V → Hp → Prop) (hz : src.length < sizeLine)
    (Rm : ∀ a v H H' acc, H D = some (.lst acc) → (∀ b o, b ≠ D → H b = some o → H' b = some o) → R a v H → R a v H') (hG : ∀ H', Same H1 H' → G H')
    (hs : ∀ i a, src[i]? = some a → ∀ H x H' acc, Same H1 H → H D = some (.lst acc) → Y i H x H' → ∀ (A : VK) (B : Hp → Prop), (keep a = true → ∀ y H4, Same H H4 → R a y H4 → A y H4) → (keep a = false → ∀ H3, Same H H3 → B H3) →
      g x (wipe σ vs) H' fun σ2 H2 => wipe σ2 vs = wipe σ vs ∧ tt σ2 H2 fun b H3 => if b = true then te σ2 H3 A else B H3)
    (hd : ∀ acc H, Same H1 H → H D = some (.lst acc) → Paired (fun a v => R a v H) (src.filter keep) acc → Qd H) :
    ∃ W : Nat → Nat → Hp → Prop, (∃ m, W 0 m (upd H1 D (.lst []))) ∧ ∀ i m H, W i m H →
      (J.stop i H ∧ Qd H) ∨ (J.go i H ∧ ∃ Nx : Hp → Prop, (∀ H', Nx H' → ∃ m', m' < m ∧ W (i + 1) m' H') ∧ ∀ x H', J.yld i H x H' → g x (wipe σ vs) H' fun σ2 H2 => wipe σ2 vs = wipe σ vs ∧ tt σ2 H2 fun b H3 =>
        if b = true then te σ2 H3 fun y H4 => ∃ acc, H4 D = some (.lst acc) ∧ acc.length < sizeLine ∧ Nx (upd H4 D (.lst (acc ++ [y]))) else Nx H3) := by
  refine lc_it w (fun i H => Same H1 H ∧ ∃ acc, H D = some (.lst acc) ∧ Paired (fun a v => R a v H) ((src.take i).filter keep) acc) ⟨same_new hD _, [], upd_same, by simp; exact .nil⟩ (fun i H _ p => hG H p.1) ?_ ?_
  · rintro i x H H' hi ⟨s1, acc, hacc, hp⟩ hy
    obtain ⟨a, ha⟩ : ∃ a, src[i]? = some a := ⟨src[i], List.getElem?_eq_getElem hi⟩
    have et := take_more ha
    refine hs i a ha H x H' acc s1 hacc hy _ _ (fun hk y H4 s4 r4 => ?_) (fun hk H3 s3 => ?_)
    · have hacc4 := s4 _ _ hacc
      have hlen := paired_len hp
      have hl2 : ((src.take i).filter keep).length ≤ src.length := Nat.le_trans (List.length_filter_le _ _) (by rw [List.length_take]; omega)
      have kp : ∀ b o, b ≠ D → H4 b = some o → (upd H4 D (.lst (acc ++ [y]))) b = some o := fun b o hb q => by rw [upd_ne hb]; exact q
      refine ⟨acc, hacc4, by omega, same_mut (s1.trans s4) hD, acc ++ [y], upd_same, ?_⟩
      rw [et, List.filter_append, List.filter_cons, if_pos hk, List.filter_nil]
      refine paired_snoc (paired_imp hp fun b v r => ?_) (Rm a y H4 _ acc hacc4 kp r4)
      exact Rm b v H _ acc hacc (fun c o hc q => kp c o hc (s4 c o q)) r
    · refine ⟨s1.trans s3, acc, s3 _ _ hacc, ?_⟩
      rw [et, List.filter_append, List.filter_cons, if_neg (by rw [hk]; exact Bool.false_ne_true), List.filter_nil, List.append_nil]
      exact paired_imp hp fun b v r => Rm b v H _ acc hacc (fun c o _ q => s3 c o q) r
  · rintro H ⟨s1, acc, hacc, hp⟩
    rw [List.take_length] at hp
    exact hd acc H s1 hacc hp
/-- .. whose values are plain -/
theorem lc_vals (w : Walk J src.length G Y) {g : TG} {tt : TT} {te : TE} {vs : List Nat} {σ : L2.St} {H1 : Hp} {D : Addr} {Qd : Hp → Prop} (hD : H1 D = none) (keep : α → Bool) (F : α → V) (hz : src.length < sizeLine) (hG : ∀ H', Same H1 H' → G H')
    (hs : ∀ i a, src[i]? = some a → ∀ H x H' acc, Same H1 H → H D = some (.lst acc) → Y i H x H' → ∀ (A : VK) (B : Hp → Prop), (keep a = true → ∀ H4, Same H H4 → A (F a) H4) → (keep a = false → ∀ H3, Same H H3 → B H3) →
      g x (wipe σ vs) H' fun σ2 H2 => wipe σ2 vs = wipe σ vs ∧ tt σ2 H2 fun b H3 => if b = true then te σ2 H3 A else B H3)
    (hd : ∀ H, Same H1 H → H D = some (.lst ((src.filter keep).map F)) → Qd H) :
    ∃ W : Nat → Nat → Hp → Prop, (∃ m, W 0 m (upd H1 D (.lst []))) ∧ ∀ i m H, W i m H →
      (J.stop i H ∧ Qd H) ∨ (J.go i H ∧ ∃ Nx : Hp → Prop, (∀ H', Nx H' → ∃ m', m' < m ∧ W (i + 1) m' H') ∧ ∀ x H', J.yld i H x H' → g x (wipe σ vs) H' fun σ2 H2 => wipe σ2 vs = wipe σ vs ∧ tt σ2 H2 fun b H3 =>
        if b = true then te σ2 H3 fun y H4 => ∃ acc, H4 D = some (.lst acc) ∧ acc.length < sizeLine ∧ Nx (upd H4 D (.lst (acc ++ [y]))) else Nx H3) :=
  lc_pure w hD keep (fun a v _ => v = F a) hz (fun _ _ _ _ _ _ _ r => r) hG (fun i a ha H x H' acc s1 hacc hy A B h1 h2 => hs i a ha H x H' acc s1 hacc hy A B (fun hk H4 s4 => h1 hk _ H4 s4 rfl) h2)
    fun acc H s1 hacc hp => hd H s1 (by rw [← paired_map hp]; exact hacc)
end

section
variable {P : Program} {w : World} {K : PySem.W.Frag} {mg : Str → Option Value} {base : Heap} {f : Nat → Addr} {d : Nat → FuncData}

theorem yes {σ : L2.St} {H : Hp} {te : TE} {A : VK} {B : Hp → Prop} (h : te σ H A) : tYes σ H fun b H3 => if b = true then te σ H3 A else B H3 := by
  have z : if true = true then te σ H A else B H := iteT h
  exact z
theorem at0 {xs : List V} {i : Nat} {v : V} (h : xs[i]? = some v) : atI xs ((0 : Int) + (i : Nat)) = some v := by
  rw [Int.zero_add]
  exact atI_nat h
theorem mem_rng {n i r : Nat} (h : (List.range n)[i]? = some r) : i < n ∧ i = r := by
  obtain ⟨h1, h2⟩ := List.getElem?_eq_some_iff.mp h
  exact ⟨by simpa using h1, by simpa using h2⟩
theorem filter_true {α : Type} (l : List α) : l.filter (fun _ => true) = l := List.filter_eq_self.mpr fun _ _ => rfl
/-! ### lies_within -/
def spLies : Sp := fun vs H Q _ => ∃ (a b : Addr) (l m : List Nat), vs = [.ref a, .ref b] ∧ ShH H a l ∧ ShH H b m ∧ l.length ≤ 1000 ∧ ∀ H', Same H H' → Q (.bl (wiB l m)) H'
theorem sc30 : FnScope ["one", "other", "r"] ["one", "other"] (defScope S30) := ⟨rfl, rfl, rfl, by decide +kernel, rfl, by decide +kernel, by decide +kernel⟩
theorem ok30 (T : Txt K mg f d) : FnOk P w K mg base CX0 1 (f 30) (d 30) ["one", "other"] spLies := by
  refine T.lies_within.F.ok sc30 (fun vs H Q E h => ?_) (fun cdv A outer s H vs Q E hr h => ?_)
  · obtain ⟨a, b, l, m, rfl, _⟩ := h
    rfl
  obtain ⟨a, b, l, m, rfl, ha, hb, hl, q⟩ := h
  refine ⟨_, pss_one (ps_ret (pe_and (pe_cmpR op_le (pe_callB call_len_seq (by rfl) T.b_len PySem.boot_len (pa_cons (pv 0) pa_nil)) (pe_callB call_len_seq (by rfl) T.b_len PySem.boot_len (pa_cons (pv 1) pa_nil)) (nomark _))
    (pe_one (pe_callB (cr_all rfl) (by rfl) T.b_all (by decide +kernel) (pa_cons (pe_lc (own := [("r", 2)]) (g := gName 2) rfl sc30.nd
      (pi_range1 (by rfl) T.b_range (pa_cons (pe_callB call_len_seq (by rfl) T.b_len PySem.boot_len (pa_cons (pv 0) pa_nil)) pa_nil)) (blkOk_by (N := ["one", "other", "r"]) (sc := defScope S30) (by decide +kernel)) (fun _ _ _ _ _ => pg_name (i := 2) sc30.nd rfl (Or.inl rfl)) (fun _ _ _ _ _ => pts_nil)
      (fun _ _ _ _ _ => pe_cmpR op_le (pe_ix (show IxR _ (rIxT K) from ix_tup) (pv 0) (pv 2) (fun _ _ => rfl)) (pe_ix (show IxR _ (rIxT K) from ix_tup) (pv 1) (pv 2) (fun _ _ => rfl)) (nomark _))) pa_nil))))), ?_⟩
  refine ⟨_, rfl, a, _, rfl, .inr (SqT.of ha), _, rfl, b, _, rfl, .inr (SqT.of hb), _, _, rfl, rfl, _, rfl, ?_⟩
  rw [tv_len, tv_len]
  refine ite2 (fun c => ?_) (fun c => ?_)
  · have c' : l.length ≤ m.length := by have := of_decide_eq_true c; omega
    refine ⟨_, rfl, a, _, rfl, .inr (SqT.of ha), _, rfl, by rw [tv_len]; omega, by rw [tv_len]; omega, fun D hD => ?_⟩
    rw [tv_len, show ((l.length : Nat) : Int).toNat = l.length by omega]
    refine lc_vals (src := List.range l.length) (by rw [List.length_range]; exact walk_range) hD (fun _ => true) (fun r => .bl (decide (row l r ≤ row m r))) (by rw [List.length_range]; exact smallL (by omega)) (fun _ _ => trivial) ?_ ?_
    · rintro i r hr H2 x H' acc s2 hacc ⟨rfl, rfl⟩ A B h1 _
      obtain ⟨hi, rfl⟩ := mem_rng hr
      have hi2 : i < m.length := by omega
      exact ⟨rfl, yes ⟨_, rfl, _, rfl, a, _, _, _, rfl, rfl, SqT.of (s2 _ _ ha), at0 (tv_get hi), _, rfl, _, rfl, b, _, _, _, rfl, rfl, SqT.of (s2 _ _ hb), at0 (tv_get hi2), _, _, rfl, rfl, by
        have e : decide ((row l i : Int) ≤ (row m i : Int)) = decide (row l i ≤ row m i) := by simp
        have z := h1 rfl _ (Same.refl _)
        rw [← e] at z
        exact z⟩⟩
    · intro H' s' hacc
      rw [filter_true] at hacc
      refine ⟨D, (List.range l.length).map fun r => decide (row l r ≤ row m r), rfl, SqL.of (by rw [hacc, List.map_map]; rfl), ?_⟩
      have e : wiB l m = ((List.range l.length).map fun r => decide (row l r ≤ row m r)).all id := by
        unfold wiB
        rw [decide_eq_true c', Bool.true_and, List.all_map]
        rfl
      rw [← e]
      exact q _ s'
  · have c' : ¬ l.length ≤ m.length := by
      have := of_decide_eq_false (Bool.eq_false_iff.mpr c)
      omega
    have e : wiB l m = false := by
      unfold wiB
      rw [decide_eq_false c', Bool.false_and]
    rw [e] at q
    exact q _ (Same.refl _)
end
end GW
namespace GW
open PySem PySem.Spec PyProof.Rows L2 GR GS

def rLen (K : PySem.W.Frag) : List V → Hp → VK → Prop := fun xs H Q => ∃ p ys, xs = [.ref p] ∧ (SqL K H p ys ∨ SqT K H p ys) ∧ Q (.int ((ys.length : Nat) : Int)) H
theorem call_len' {X : Cx} : CallR X (.builtin "len") (rLen X.K) := call_len_seq
section
variable {K : PySem.W.Frag}
theorem walk_tv {a : Addr} {l : List Nat} : Walk (Itt K a) l.length (fun H => ShH H a l) (fun i H x H' => H' = H ∧ ∀ n, l[i]? = some n → x = vN n) := by
  have w := (walk_tup (K := K) (a := a) (xs := tv l)).mono (G' := fun H => ShH H a l) (Y' := fun i H x H' => H' = H ∧ ∀ n, l[i]? = some n → x = vN n) (fun H h => SqT.of h) (fun i H x H' _ _ y => ⟨y.1, fun n hn => by
    have e := y.2
    unfold tv at e
    rw [List.getElem?_map, hn] at e
    exact (Option.some.inj e).symm⟩)
  rwa [tv_len] at w
theorem walk_lv {a : Addr} {l : List Nat} : Walk (Itl K a) l.length (fun H => H a = some (.lst (tv l))) (fun i H x H' => H' = H ∧ ∀ n, l[i]? = some n → x = vN n) := by
  have w := (walk_list (K := K) (a := a) (xs := tv l)).mono (G' := fun H => H a = some (.lst (tv l))) (Y' := fun i H x H' => H' = H ∧ ∀ n, l[i]? = some n → x = vN n) (fun H h => SqL.of h) (fun i H x H' _ _ y => ⟨y.1, fun n hn => by
    have e := y.2
    unfold tv at e
    rw [List.getElem?_map, hn] at e
    exact (Option.some.inj e).symm⟩)
  rwa [tv_len] at w
theorem walk_rng {n : Nat} : Walk (Itr 0 n) (List.range n).length (fun _ => True) (YFn fun i => .int (0 + i)) := by
  rw [List.length_range]
  exact walk_range
/-! tuples: sums and slices, whatever is left as it was -/
theorem cat_ok {a b : Addr} {xs ys : List V} {H : Hp} {Q : VK} (ha : H a = some (.tup xs)) (hb : H b = some (.tup ys)) (hz : xs.length + ys.length ≤ 10000) (h : ∀ p H', Same H H' → H' p = some (.tup (xs ++ ys)) → Q (.ref p) H') : rCatA K (.ref a) (.ref b) H Q := by
  refine ⟨a, b, xs, ys, rfl, rfl, SqT.of ha, SqT.of hb, small (by omega), fun e => ?_, fun _ e => ?_, fun _ _ p hp => h p _ (same_new hp _) upd_same⟩
  · subst e
    exact h b H (Same.refl _) hb
  · subst e
    exact h a H (Same.refl _) (by rw [List.append_nil]; exact ha)
theorem sl_ok {a : Addr} {xs : List V} {lo hi : Option Int} {H : Hp} {Q : VK} (ha : H a = some (.tup xs)) (h : ∀ p H', Same H H' → H' p = some (.tup (cutV xs lo hi)) → Q (.ref p) H') : rSlA K (.ref a) lo hi H Q := by
  refine ⟨a, xs, rfl, SqT.of ha, fun e => ?_, fun _ p hp => h p _ (same_new hp _) upd_same⟩
  refine h a H (Same.refl _) ?_
  rw [ha]
  unfold cutV
  rw [e.1, e.2, List.drop_zero, Nat.sub_zero, List.take_length]
theorem cut_to {l : List Nat} {r : Nat} (hr : r ≤ l.length) : cutV (tv l) none (some (r : Int)) = tv (l.take r) := by
  unfold cutV
  rw [HT.sIx_none, HT.sIx_nat, tv_len, Nat.min_eq_left hr, List.drop_zero, Nat.sub_zero]
  unfold tv
  rw [List.map_take]
theorem cut_from {l : List Nat} {r : Nat} : cutV (tv l) (some (r : Int)) none = tv (l.drop r) := by
  unfold cutV
  rw [HT.sIx_none, HT.sIx_nat, tv_len]
  have e : (tv l).drop (min r l.length) = tv (l.drop r) := by
    unfold tv
    rw [← List.map_drop]
    congr 1
    rcases Nat.lt_or_ge r l.length with c | c
    · rw [Nat.min_eq_left (by omega)]
    · rw [Nat.min_eq_right c, List.drop_eq_nil_of_le c, List.drop_eq_nil_of_le (Nat.le_refl _)]
  rw [e]
  refine List.take_of_length_le ?_
  rw [tv_len, List.length_drop]
  omega
theorem inV_tv {r : Nat} {l : List Nat} : inV (vN r) (tv l) = decide (r ∈ l) := by
  unfold inV tv
  rw [List.any_map]
  induction l with
  | nil => simp
  | cons a l ih =>
    rw [List.any_cons, ih]
    have e : ((fun y => eqV y (vN r)) ∘ vN) a = decide (a = r) := by
      show ((a : Int) == (r : Int)) = decide (a = r)
      by_cases c : a = r
      · subst c; simp
      · have : ¬ (a : Int) = (r : Int) := by omega
        simp [c, this]
    rw [e]
    by_cases c : a = r
    · subst c; simp
    · have : ¬ r = a := fun z => c z.symm
      simp [c, this]
theorem flat_tv (l : List Nat) : (tv l).all flatV = true := by
  unfold tv
  rw [List.all_map, List.all_eq_true]
  intro x _
  rfl
theorem tv_append (l m : List Nat) : tv (l ++ m) = tv l ++ tv m := by simp [tv]
end
section
variable {P : Program} {w : World} {K : PySem.W.Frag} {mg : Str → Option Value} {base : Heap} {f : Nat → Addr} {d : Nat → FuncData}

/-! ### turned_share -/
def spTurned : Sp := fun vs H Q _ => ∃ (a : Addr) (l : List Nat), vs = [.ref a] ∧ ShH H a l ∧ l.length ≤ 1000 ∧ row l 0 ≤ 1000 ∧ ∀ p H', Same H H' → ShH H' p (T l) → Q (.ref p) H'
theorem sc14 : FnScope ["share", "c", "row"] ["share"] (defScope S14) := ⟨rfl, rfl, rfl, by decide +kernel, rfl, by decide +kernel, by decide +kernel⟩
theorem ok14 (T : Txt K mg f d) : FnOk P w K mg base CX0 2 (f 14) (d 14) ["share"] spTurned := by
  refine T.turned_share.F.ok sc14 (fun vs H Q E h => ?_) (fun cdv A outer s H vs Q E hr h => ?_)
  · obtain ⟨a, l, rfl, _⟩ := h
    rfl
  obtain ⟨a, l, rfl, ha, hl, h0, q⟩ := h
  refine ⟨_, pss_one (ps_ret (pe_callTy call_tuple_of (by rfl) T.b_tuple (by decide +kernel) (pa_cons (pe_lc (own := [("c", 1)]) (g := gName 1) rfl sc14.nd (pi_range1 (by rfl) T.b_range (pa_cons (dcall T.row_of (ok12 T) hr (pa_cons (pv 0) (pa_cons pe_int pa_nil))) pa_nil))
    (blkOk_by (N := ["share", "c", "row"]) (sc := defScope S14) (by decide +kernel)) (fun _ _ _ _ _ => pg_name (i := 1) sc14.nd rfl (Or.inr rfl)) (fun _ _ _ _ _ => pts_nil)
    (fun _ _ _ _ _ => pe_callB (show CallR _ (.builtin "len") (rLen K) from call_len') (by rfl) T.b_len PySem.boot_len (pa_cons (pe_lc (own := [("row", 2)]) (g := gName 2) rfl sc14.nd (show PI _ _ _ (iTup K (tVar 0)) from pi_tup (pv 0))
      (blkOk_by (N := ["share", "c", "row"]) (sc := relS _ (defScope S14)) (by decide +kernel)) (fun _ _ _ _ _ => pg_name (i := 2) sc14.nd rfl (Or.inl rfl)) (fun _ _ _ _ _ => pts_one (pt_cmpR op_gt (pv 2) (pv 1) (nomark _)))
      (fun _ _ _ _ _ => pv 2)) pa_nil))) pa_nil))), ?_⟩
  refine ⟨_, rfl, a, l, 0, rfl, ha, row l 0, rfl, by omega, by omega, fun D hD => ?_⟩
  rw [show ((row l 0 : Nat) : Int).toNat = row l 0 by omega]
  refine lc_vals (src := List.range (row l 0)) walk_rng hD (fun _ => true) (fun c => vN (cnt l c)) (by rw [List.length_range]; exact smallL (by omega)) (fun _ _ => trivial) ?_ ?_
  · rintro i c hc H2 x H' acc s2 hacc ⟨rfl, rfl⟩ A B h1 _
    obtain ⟨hi, rfl⟩ := mem_rng hc
    refine ⟨rfl, yes ⟨_, rfl, a, rfl, ⟨_, SqT.of (s2 _ _ ha)⟩, fun D2 hD2 => ?_⟩⟩
    refine lc_vals (src := l) walk_tv hD2 (fun n => decide (i < n)) vN (smallL (by omega)) (fun H' s' => s' _ _ (s2 _ _ ha)) ?_ ?_
    · rintro j n hn H3 x H4 acc2 s3 hacc2 ⟨rfl, hx⟩ A2 B2 k1 k2
      obtain rfl := hx n hn
      refine ⟨rfl, _, rfl, _, rfl, _, _, rfl, rfl, _, rfl, ?_⟩
      by_cases c : i < n
      · have e : decide ((0 : Int) + (i : Nat) < (n : Nat)) = true := decide_eq_true (by omega)
        rw [e]
        exact iteT ⟨_, rfl, k1 (decide_eq_true c) _ (Same.refl _)⟩
      · have e : decide ((0 : Int) + (i : Nat) < (n : Nat)) = false := decide_eq_false (by omega)
        rw [e]
        exact iteF (k2 (decide_eq_false c) _ (Same.refl _))
    · intro H5 s5 hD5
      refine ⟨D2, _, rfl, .inl (SqL.of hD5), ?_⟩
      rw [List.length_map]
      exact h1 rfl _ s5
  · intro H5 s5 hD5
    rw [filter_true] at hD5
    refine ⟨D, _, rfl, .inl ⟨SqL.of hD5, fun p hp => q p _ (s5.trans (same_new hp _)) ?_⟩⟩
    rw [ShH, upd_same]
    unfold GS.T tv
    rw [List.map_map]
    rfl

/-! ### with_cell, without_cell -/
def spWith : Sp := fun vs H Q _ => ∃ (a : Addr) (l : List Nat) (r : Nat), vs = [.ref a, vN r] ∧ ShH H a l ∧ l.length ≤ 1000 ∧ r ≤ l.length ∧ ∀ p H', Same H H' → ShH H' p (more l r) → Q (.ref p) H'
theorem sc23 : FnScope ["share", "row"] ["share", "row"] (defScope S23) := ⟨rfl, rfl, rfl, by decide +kernel, rfl, by decide +kernel, by decide +kernel⟩
theorem ok23 (T : Txt K mg f d) : FnOk P w K mg base CX0 1 (f 23) (d 23) ["share", "row"] spWith := by
  refine T.with_cell.F.ok sc23 (fun vs H Q E h => ?_) (fun cdv A outer s H vs Q E hr h => ?_)
  · obtain ⟨a, l, r, rfl, _⟩ := h
    rfl
  obtain ⟨a, l, r, rfl, ha, hl, hrl, q⟩ := h
  refine ⟨_, pss_cons (ps_if (pt_cmpR op_eq (pv 1) (pe_callB call_len' (by rfl) T.b_len PySem.boot_len (pa_cons (pv 0) pa_nil)) (nomark _)) (pss_one (ps_ret (pe_op op_catA (pv 0) (pe_tup (pa_cons pe_int pa_nil))))) pss_nil)
    (pss_one (ps_ret (pe_op op_catA (pe_op op_catA (pe_slice sl_tupA (pv 0) po_none (po_some (pv 1))) (pe_tup (pa_cons (pe_op op_add (pe_ix ix_tup (pv 0) (pv 1) (fun _ _ => rfl)) pe_int) pa_nil))) (pe_slice sl_tupA (pv 0) (po_some (pe_op op_add (pv 1) pe_int)) po_none)))), ?_⟩
  refine ⟨_, rfl, _, rfl, a, _, rfl, .inr (SqT.of ha), rfl, _, rfl, ?_⟩
  rw [tv_len]
  refine ite2 (fun c => ?_) (fun c => ?_)
  · have c' : r = l.length := by
      have z : V.int (r : Int) = V.int (l.length : Int) := of_decide_eq_true c
      injection z with z
      omega
    refine ⟨_, rfl, (by show 1 ≤ sizeLine; decide), fun p hp => ?_⟩
    refine cat_ok (same_new hp _ _ _ ha) upd_same (by rw [tv_len]; exact (by omega : l.length + 1 ≤ 10000)) fun p2 H2 s2 h2 => q p2 H2 ((same_new hp _).trans s2) ?_
    have e : more l r = l ++ [1] := by unfold more; rw [if_pos c']
    rw [ShH, h2, e, tv_append]
    rfl
  · have c' : r ≠ l.length := fun z => by
      have := of_decide_eq_false (Bool.eq_false_iff.mpr c)
      exact this (by subst z; rfl)
    have c2 : r < l.length := by omega
    refine ⟨_, rfl, _, rfl, r, rfl, ?_⟩
    refine sl_ok ha fun p1 H1 s1 h1 => ?_
    rw [cut_to (by omega)] at h1
    refine ⟨_, rfl, _, rfl, a, _, _, _, rfl, rfl, SqT.of (s1 _ _ ha), atI_nat (tv_get c2), _, _, rfl, rfl, (by show 1 ≤ sizeLine; decide), fun p2 hp2 => ?_⟩
    have g2 := s1.trans (same_new hp2 (.tup [.int ((row l r : Int) + 1)]))
    refine cat_ok (same_new hp2 _ _ _ h1) upd_same (by rw [tv_len, List.length_take]; exact (by omega : min r l.length + 1 ≤ 10000)) fun p3 H3 s3 h3 => ?_
    refine ⟨_, rfl, _, rfl, _, _, rfl, rfl, (r : Int) + 1, rfl, ?_⟩
    unfold tNoPart
    refine sl_ok ((g2.trans s3) _ _ ha) fun p4 H4 s4 h4 => ?_
    have er : (r : Int) + 1 = ((r + 1 : Nat) : Int) := by omega
    rw [er, cut_from] at h4
    refine cat_ok (s4 _ _ h3) h4 (by simp [tv_len]; omega) fun p5 H5 s5 h5 => q p5 H5 (((g2.trans s3).trans s4).trans s5) ?_
    have e : more l r = l.take r ++ ([row l r + 1] ++ l.drop (r + 1)) := by unfold more; rw [if_neg c']; rfl
    rw [ShH, h5, e, tv_append, tv_append, ← List.append_assoc]
    rfl
def spWithout : Sp := fun vs H Q _ => ∃ (a : Addr) (l : List Nat) (r : Nat), vs = [.ref a, vN r] ∧ ShH H a l ∧ l.length ≤ 1000 ∧ r < l.length ∧ 0 < row l r ∧ ∀ p H', Same H H' → ShH H' p (less l r) → Q (.ref p) H'
theorem sc24 : FnScope ["share", "row"] ["share", "row"] (defScope S24) := ⟨rfl, rfl, rfl, by decide +kernel, rfl, by decide +kernel, by decide +kernel⟩
theorem ok24 (T : Txt K mg f d) : FnOk P w K mg base CX0 1 (f 24) (d 24) ["share", "row"] spWithout := by
  refine T.without_cell.F.ok sc24 (fun vs H Q E h => ?_) (fun cdv A outer s H vs Q E hr h => ?_)
  · obtain ⟨a, l, r, rfl, _⟩ := h
    rfl
  obtain ⟨a, l, r, rfl, ha, hl, c2, hpos, q⟩ := h
  refine ⟨_, pss_cons (ps_if (pt_cmpR op_eq (pe_ix ix_tup (pv 0) (pv 1) (fun _ _ => rfl)) pe_int (nomark _)) (pss_one (ps_ret (pe_slice sl_tupA (pv 0) po_none (po_some (pv 1))))) pss_nil)
    (pss_one (ps_ret (pe_op op_catA (pe_op op_catA (pe_slice sl_tupA (pv 0) po_none (po_some (pv 1))) (pe_tup (pa_cons (pe_op op_sub (pe_ix ix_tup (pv 0) (pv 1) (fun _ _ => rfl)) pe_int) pa_nil))) (pe_slice sl_tupA (pv 0) (po_some (pe_op op_add (pv 1) pe_int)) po_none)))), ?_⟩
  refine ⟨_, rfl, _, rfl, a, _, _, _, rfl, rfl, SqT.of ha, atI_nat (tv_get c2), rfl, _, rfl, ?_⟩
  refine ite2 (fun c => ?_) (fun c => ?_)
  · have c' : row l r = 1 := by
      have z : V.int (row l r : Int) = V.int 1 := of_decide_eq_true c
      injection z with z
      omega
    refine ⟨_, rfl, _, rfl, r, rfl, sl_ok ha fun p1 H1 s1 h1 => q p1 H1 s1 ?_⟩
    rw [cut_to (by omega)] at h1
    unfold less
    rw [if_pos c']
    exact h1
  · have c' : row l r ≠ 1 := fun z => by
      have := of_decide_eq_false (Bool.eq_false_iff.mpr c)
      exact this (by rw [z]; rfl)
    refine ⟨_, rfl, _, rfl, r, rfl, ?_⟩
    refine sl_ok ha fun p1 H1 s1 h1 => ?_
    rw [cut_to (by omega)] at h1
    refine ⟨_, rfl, _, rfl, a, _, _, _, rfl, rfl, SqT.of (s1 _ _ ha), atI_nat (tv_get c2), _, _, rfl, rfl, (by show 1 ≤ sizeLine; decide), fun p2 hp2 => ?_⟩
    have g2 := s1.trans (same_new hp2 (.tup [.int ((row l r : Int) - 1)]))
    refine cat_ok (same_new hp2 _ _ _ h1) upd_same (by rw [tv_len, List.length_take]; exact (by omega : min r l.length + 1 ≤ 10000)) fun p3 H3 s3 h3 => ?_
    refine ⟨_, rfl, _, rfl, _, _, rfl, rfl, (r : Int) + 1, rfl, ?_⟩
    unfold tNoPart
    refine sl_ok ((g2.trans s3) _ _ ha) fun p4 H4 s4 h4 => ?_
    have er : (r : Int) + 1 = ((r + 1 : Nat) : Int) := by omega
    rw [er, cut_from] at h4
    refine cat_ok (s4 _ _ h3) h4 (by simp [tv_len]; omega) fun p5 H5 s5 h5 => q p5 H5 (((g2.trans s3).trans s4).trans s5) ?_
    have e : less l r = l.take r ++ ([row l r - 1] ++ l.drop (r + 1)) := by unfold less; rw [if_neg c']; rfl
    have e2 : V.int ((row l r : Int) - 1) = vN (row l r - 1) := by
      show V.int _ = V.int _
      congr 1
      omega
    rw [ShH, h5, e, tv_append, tv_append, ← List.append_assoc]
    show some (HO.tup (tv (l.take r) ++ [V.int ((row l r : Int) - 1)] ++ tv (l.drop (r + 1)))) = _
    rw [e2]
    rfl
end
end GW
namespace GW
open PySem PySem.Spec PyProof.Rows L2 GR GS

theorem ps_app {X : Cx} {o e : Expr} {to te : TE} {apos cpos pos : Pos} (ho : PE X o to) (he : PE X e te) (hb : attributeBase o "append" X.env (eval o X.env) = eval o X.env := by rfl)
    (hf : ((backTo cpos (starEach [e] X.env)).all (fun x => !x.1) && (backToKw cpos (keywordEach [] X.env)).all (fun x => x.1.isSome) && decide ([e].length + ([] : List Keyword).length + (if ([] : List Keyword).isEmpty then 0 else 1) < 30)) = true := by rfl)
    (hl : (apos.endLine == cpos.line) = true := by rfl) (hs : starEach [e] X.env = (false, eval e X.env) :: starEach [] X.env := by rfl) (hp : (backTo cpos (starEach [] X.env)).any (·.1) = false := by rfl)
    (hw : swapsWith (.Call (.Attribute o "append" apos) [e] [] cpos) none pos.line X.env = pure false := by rfl) : PS X (.Expr (.Call (.Attribute o "append" apos) [e] [] cpos) pos) (tDrop (tBM X.K "list" rAppend to (tCons te tNil))) :=
  ps_expr (pe_bm PySem.F.plainAttrs_list PySem.F.slot_list_append PySem.F.type_list_append mt_append ho (pa_cons he pa_nil hs) hb hf hl hs hp) hw
theorem walk_rv {n : Nat} : Walk (Itr 0 n) n (fun _ => True) (fun i H x H' => H' = H ∧ x = vN i) :=
  (walk_range (lo := 0) (n := n)).mono (fun _ h => h) fun i H x H' _ _ y => ⟨y.1, by
    have e := y.2
    rw [e]
    show V.int _ = V.int _
    rw [Int.zero_add]⟩
section
variable {P : Program} {w : World} {K : PySem.W.Frag} {mg : Str → Option Value} {base : Heap} {f : Nat → Addr} {d : Nat → FuncData}

/-! ### in_rows, out_rows -/
def spOutR : Sp := fun vs H Q _ => ∃ (a : Addr) (l : List Nat), vs = [.ref a] ∧ ShH H a l ∧ l.length ≤ 1000 ∧ ∀ p H', H p = none → Same H H' → H' p = some (.lst (tv (outRows l))) → Q (.ref p) H'
theorem sc26 : FnScope ["share", "row"] ["share"] (defScope S26) := ⟨rfl, rfl, rfl, by decide +kernel, rfl, by decide +kernel, by decide +kernel⟩
theorem ok26 (T : Txt K mg f d) : FnOk P w K mg base CX0 2 (f 26) (d 26) ["share"] spOutR := by
  refine T.out_rows.F.ok sc26 (fun vs H Q E h => ?_) (fun cdv A outer s H vs Q E hr h => ?_)
  · obtain ⟨a, l, rfl, _⟩ := h
    rfl
  obtain ⟨a, l, rfl, ha, hl, q⟩ := h
  refine ⟨_, pss_one (ps_ret (pe_lc (own := [("row", 1)]) (g := gName 1) rfl sc26.nd (pi_range1 (by rfl) T.b_range (pa_cons (pe_callB call_len' (by rfl) T.b_len PySem.boot_len (pa_cons (pv 0) pa_nil)) pa_nil))
    (blkOk_by (N := ["share", "row"]) (sc := defScope S26) (by decide +kernel)) (fun _ _ _ _ _ => pg_name (i := 1) sc26.nd rfl (Or.inl rfl))
    (fun _ _ _ _ _ => pts_one (pt_cmpR op_gt (pe_ix (show IxR _ (rIxT K) from ix_tup) (pv 0) (pv 1) (fun _ _ => rfl)) (dcall T.row_of (ok12 T) hr (pa_cons (pv 0) (pa_cons (pe_op op_add (pv 1) pe_int) pa_nil))) (nomark _)))
    (fun _ _ _ _ _ => pv 1))), ?_⟩
  refine ⟨_, rfl, a, _, rfl, .inr (SqT.of ha), _, rfl, by rw [tv_len]; omega, by rw [tv_len]; omega, fun D hD => ?_⟩
  rw [tv_len, show ((l.length : Nat) : Int).toNat = l.length by omega]
  refine lc_vals (src := List.range l.length) (by rw [List.length_range]; exact walk_rv) hD (fun r => decide (row l (r + 1) < row l r)) vN (by rw [List.length_range]; exact smallL (by omega)) (fun _ _ => trivial) ?_ ?_
  · rintro i r hr2 H2 x H' acc s2 hacc ⟨rfl, rfl⟩ A B h1 h2
    obtain ⟨hi, rfl⟩ := mem_rng hr2
    refine ⟨rfl, _, rfl, _, rfl, a, _, _, _, rfl, rfl, SqT.of (s2 _ _ ha), atI_nat (tv_get hi), _, rfl, _, rfl, _, _, rfl, rfl, a, l, i + 1, rfl, s2 _ _ ha, _, _, rfl, rfl, _, rfl, ?_⟩
    by_cases c : row l (i + 1) < row l i
    · have e : decide ((row l (i + 1) : Int) < (row l i : Int)) = true := decide_eq_true (by omega)
      rw [e]
      exact iteT ⟨_, rfl, h1 (decide_eq_true c) _ (Same.refl _)⟩
    · have e : decide ((row l (i + 1) : Int) < (row l i : Int)) = false := decide_eq_false (by omega)
      rw [e]
      exact iteF (h2 (decide_eq_false c) _ (Same.refl _))
  · intro H5 s5 hD5
    exact q D H5 hD s5 hD5
def pin (l : List Nat) (r : Nat) : Bool := decide (row l r < 20) && (decide (r = 0) || decide (row l r < row l (r - 1)))
def spInR : Sp := fun vs H Q _ => ∃ (a : Addr) (l : List Nat), vs = [.ref a] ∧ ShH H a l ∧ l.length ≤ 1000 ∧ ∀ p H', H p = none → Same H H' → H' p = some (.lst (tv (inRows l))) → Q (.ref p) H'
theorem sc25 : FnScope ["share", "found", "row", "own"] ["share"] (defScope S25) := ⟨rfl, rfl, rfl, by decide +kernel, rfl, by decide +kernel, by decide +kernel⟩
theorem ok25 (T : Txt K mg f d) : FnOk P w K mg base CX0 2 (f 25) (d 25) ["share"] spInR := by
  refine T.in_rows.F.ok sc25 (fun vs H Q E h => ?_) (fun cdv A outer s H vs Q E hr h => ?_)
  · obtain ⟨a, l, rfl, _⟩ := h
    rfl
  obtain ⟨a, l, rfl, ha, hl, q⟩ := h
  obtain ⟨t20, h20⟩ := T.most
  refine ⟨_, pss_cons (ps_set (i := 1) sc25.nd rfl (Or.inl rfl) (pe_lst pa_nil))
    (pss_cons (ps_for PassesOwn.never rfl (pi_range1 (by rfl) T.b_range (pa_cons (pe_callB (call_min2 rfl) (by rfl) T.b_min (by decide +kernel) (pa_cons (pe_op op_add (pe_callB call_len' (by rfl) T.b_len PySem.boot_len (pa_cons (pv 0) pa_nil)) pe_int) (pa_cons (pe_glob (v := .int 20) (by rfl) h20 ⟨_, rfl⟩) pa_nil))) pa_nil)) (pg_name (i := 2) sc25.nd rfl (Or.inl rfl))
      (pss_cons (ps_set (i := 3) sc25.nd rfl (Or.inl rfl) (dcall T.row_of (ok12 T) hr (pa_cons (pv 0) (pa_cons (pv 2) pa_nil))))
        (pss_one (ps_if (PW.pt (pw_and (pt_cmpR op_lt (pv 3) (pe_glob (v := .int 20) (by rfl) h20 ⟨_, rfl⟩) (nomark _)) (pw_and1 (PW.pt (pw_or (pt_cmpR op_eq (pv 2) pe_int (nomark _)) (pw_or1 (pt_cmpR op_lt (pv 3) (pe_ix ix_tup (pv 0) (pe_op op_sub (pv 2) pe_int) (fun _ _ => rfl)) (nomark _))))))))
          (pss_one (ps_app (pv 1) (pv 2))) pss_nil))))
    (pss_one (ps_ret (pv 1)))), ?_⟩
  refine ⟨(by show 0 ≤ sizeLine; decide), fun p hp => ?_⟩
  have hmin : (if (20 : Int) < ((l.length : Nat) : Int) + 1 then (20 : Int) else ((l.length : Nat) : Int) + 1) = ((min (l.length + 1) 20 : Nat) : Int) := by
    split <;> omega
  refine ⟨_, rfl, a, _, rfl, .inr (SqT.of (same_new hp _ _ _ ha)), _, _, rfl, rfl, _, _, rfl, ?_⟩
  rw [tv_len]
  refine ⟨_, rfl, ?_⟩
  rw [hmin, Int.toNat_natCast]
  refine ⟨by omega, by omega, ?_⟩
  refine for_it walk_rv (fun i σ H2 => Same H H2 ∧ H2 p = some (.lst (tv ((List.range i).filter (pin l)))) ∧ ∃ v2 v3, σ = [some (.ref a), some (.ref p), v2, v3]) ⟨same_new hp _, upd_same, none, none, rfl⟩ (fun _ _ _ _ _ => trivial) ?_ ?_
  · rintro i x σ H2 H' hi ⟨s2, h2, v2, v3, rfl⟩ ⟨rfl, rfl⟩
    have hk : (tv ((List.range i).filter (pin l))).length < sizeLine := by
      rw [tv_len]
      have := List.length_filter_le (pin l) (List.range i)
      rw [List.length_range] at this
      exact smallL (by omega)
    have et : (List.range (i + 1)).filter (pin l) = (List.range i).filter (pin l) ++ (if pin l i = true then [i] else []) := by
      rw [List.range_succ, List.filter_append, List.filter_cons]
      simp
    refine ⟨_, rfl, _, rfl, a, l, i, rfl, s2 _ _ ha, ?_⟩
    have no : pin l i = false → Same H H' ∧ H' p = some (.lst (tv ((List.range (i + 1)).filter (pin l)))) ∧ ∃ v2 v3, [some (V.ref a), some (.ref p), some (vN i), some (vN (row l i))] = [some (V.ref a), some (.ref p), v2, v3] := fun z => ⟨s2, by rw [et, z]; simpa using h2, _, _, rfl⟩
    have yes : pin l i = true → Same H (upd H' p (.lst (tv ((List.range i).filter (pin l)) ++ [vN i]))) ∧ upd H' p (.lst (tv ((List.range i).filter (pin l)) ++ [vN i])) p = some (.lst (tv ((List.range (i + 1)).filter (pin l)))) ∧ ∃ v2 v3, [some (V.ref a), some (.ref p), some (vN i), some (vN (row l i))] = [some (V.ref a), some (.ref p), v2, v3] := fun z =>
      ⟨same_mut s2 hp, by rw [upd_same, et, z, if_pos rfl, tv_append]; rfl, _, _, rfl⟩
    refine ⟨_, rfl, _, _, rfl, rfl, _, rfl, ?_⟩
    by_cases c1 : row l i < 20
    · have e1 : decide ((row l i : Int) < 20) = true := decide_eq_true (by omega)
      rw [e1]
      refine iteT ⟨_, rfl, rfl, _, rfl, ?_⟩
      by_cases c2 : i = 0
      · have e2 : decide (vN i = V.int 0) = true := decide_eq_true (by subst c2; rfl)
        rw [e2]
        refine iteT (iteT ⟨_, rfl, .inl ⟨rfl, _, SqL.of h2⟩, _, rfl, p, _, _, rfl, rfl, h2, hk, yes ?_⟩)
        unfold pin
        rw [decide_eq_true c1, decide_eq_true c2]
        rfl
      · have e2 : decide (vN i = V.int 0) = false := decide_eq_false fun z => c2 (by
          have z' : V.int (i : Int) = V.int 0 := z
          injection z' with z'
          omega)
        rw [e2]
        have hget : (tv l)[i - 1]? = some (vN (row l (i - 1))) := tv_get (by omega)
        have ei : (i : Int) - 1 = ((i - 1 : Nat) : Int) := by omega
        refine iteF ⟨_, rfl, _, rfl, _, rfl, _, _, rfl, rfl, a, _, _, _, rfl, rfl, SqT.of (s2 _ _ ha), (by rw [ei]; exact atI_nat hget), _, _, rfl, rfl, _, rfl, ?_⟩
        by_cases c3 : row l i < row l (i - 1)
        · have e3 : decide ((row l i : Int) < (row l (i - 1) : Int)) = true := decide_eq_true (by omega)
          rw [e3]
          refine iteT ⟨_, rfl, .inl ⟨rfl, _, SqL.of h2⟩, _, rfl, p, _, _, rfl, rfl, h2, hk, yes ?_⟩
          unfold pin
          rw [decide_eq_true c1, decide_eq_true c3, Bool.or_true]
          rfl
        · have e3 : decide ((row l i : Int) < (row l (i - 1) : Int)) = false := decide_eq_false (by omega)
          rw [e3]
          refine iteF (no ?_)
          unfold pin
          rw [decide_eq_false c2, decide_eq_false c3]
          simp
    · have e1 : decide ((row l i : Int) < 20) = false := decide_eq_false (by omega)
      rw [e1]
      refine iteF (iteF (no ?_))
      unfold pin
      rw [decide_eq_false c1]
      rfl
  · rintro σ H2 ⟨s2, h2, v2, v3, rfl⟩
    exact ⟨_, rfl, q p H2 hp s2 h2⟩
end
end GW
namespace GW
open PySem PySem.Spec PyProof.Rows L2 GR GS
section
variable {P : Program} {w : World} {K : PySem.W.Frag} {mg : Str → Option Value} {base : Heap} {f : Nat → Addr} {d : Nat → FuncData}

/-! ### put_in, taken_out -/
def spPut : Sp := fun vs H Q _ => ∃ (a : Addr) (l : List Nat) (r : Nat), vs = [.ref a, vN r] ∧ ShH H a l ∧ l.length ≤ 1000 ∧ r ∈ inRows l ∧ ∀ p H', Same H H' → ShH H' p (more l r) → Q (.ref p) H'
theorem sc27 : FnScope ["share", "row"] ["share", "row"] (defScope S27) := ⟨rfl, rfl, rfl, by decide +kernel, rfl, by decide +kernel, by decide +kernel⟩
theorem ok27 (T : Txt K mg f d) : FnOk P w K mg base CX0 3 (f 27) (d 27) ["share", "row"] spPut := by
  refine T.put_in.F.ok sc27 (fun vs H Q E h => ?_) (fun cdv A outer s H vs Q E hr h => ?_)
  · obtain ⟨a, l, r, rfl, _⟩ := h
    rfl
  obtain ⟨a, l, r, rfl, ha, hl, hin, q⟩ := h
  refine ⟨_, pss_cons (ps_if (PW.pt (pw_or (pt_not (pt_val (dcall T.is_whole (ok11 T) hr (pa_cons (pv 1) pa_nil)))) (pw_or1 (pt_cmpR op_notIn_seq (pv 1) (dcall T.in_rows (ok25 T) hr (pa_cons (pv 0) pa_nil)) (by rfl))))) (pss_one ps_never) pss_nil)
    (pss_one (ps_ret (dcall T.with_cell (ok23 T) hr (pa_cons (pv 0) (pa_cons (pv 1) pa_nil))))), ?_⟩
  refine ⟨_, rfl, (r : Int), rfl, true, rfl, ?_⟩
  refine iteF ⟨_, rfl, _, rfl, a, l, rfl, ha, hl, fun p H1 hp s1 h1 => ⟨p, _, rfl, .inl (SqL.of h1), rfl, flat_tv _, _, rfl, ?_⟩⟩
  have e : (if true = true then !inV (vN r) (tv (inRows l)) else inV (vN r) (tv (inRows l))) = false := by
    rw [if_pos rfl, inV_tv, decide_eq_true hin]
    rfl
  rw [e]
  exact iteF ⟨_, rfl, _, rfl, a, l, r, rfl, s1 _ _ ha, hl, (mem_inRows.mp hin).1, fun p2 H2 s2 h2 => q p2 H2 (s1.trans s2) h2⟩
def spTake : Sp := fun vs H Q _ => ∃ (a : Addr) (l : List Nat) (r : Nat), vs = [.ref a, vN r] ∧ ShH H a l ∧ l.length ≤ 1000 ∧ r ∈ outRows l ∧ ∀ p H', Same H H' → ShH H' p (less l r) → Q (.ref p) H'
theorem sc28 : FnScope ["share", "row"] ["share", "row"] (defScope S28) := ⟨rfl, rfl, rfl, by decide +kernel, rfl, by decide +kernel, by decide +kernel⟩
theorem ok28 (T : Txt K mg f d) : FnOk P w K mg base CX0 3 (f 28) (d 28) ["share", "row"] spTake := by
  refine T.taken_out.F.ok sc28 (fun vs H Q E h => ?_) (fun cdv A outer s H vs Q E hr h => ?_)
  · obtain ⟨a, l, r, rfl, _⟩ := h
    rfl
  obtain ⟨a, l, r, rfl, ha, hl, hin, q⟩ := h
  refine ⟨_, pss_cons (ps_if (PW.pt (pw_or (pt_not (pt_val (dcall T.is_whole (ok11 T) hr (pa_cons (pv 1) pa_nil)))) (pw_or1 (pt_cmpR op_notIn_seq (pv 1) (dcall T.out_rows (ok26 T) hr (pa_cons (pv 0) pa_nil)) (by rfl))))) (pss_one ps_never) pss_nil)
    (pss_one (ps_ret (dcall T.without_cell (ok24 T) hr (pa_cons (pv 0) (pa_cons (pv 1) pa_nil))))), ?_⟩
  refine ⟨_, rfl, (r : Int), rfl, true, rfl, ?_⟩
  refine iteF ⟨_, rfl, _, rfl, a, l, rfl, ha, hl, fun p H1 hp s1 h1 => ⟨p, _, rfl, .inl (SqL.of h1), rfl, flat_tv _, _, rfl, ?_⟩⟩
  have e : (if true = true then !inV (vN r) (tv (outRows l)) else inV (vN r) (tv (outRows l))) = false := by
    rw [if_pos rfl, inV_tv, decide_eq_true hin]
    rfl
  rw [e]
  obtain ⟨i1, i2⟩ := mem_outRows.mp hin
  exact iteF ⟨_, rfl, _, rfl, a, l, r, rfl, s1 _ _ ha, hl, i1, by omega, fun p2 H2 s2 h2 => q p2 H2 (s1.trans s2) h2⟩

/-! ### boxes -/
abbrev BxH (H : Hp) (a : Addr) (h w : Nat) : Prop := H a = some (.tup [vN h, vN w])
def spIsBox : Sp := fun vs H Q _ => ∃ (a : Addr) (h w : Nat), vs = [.ref a] ∧ BxH H a h w ∧ h ≤ 20 ∧ w ≤ 20 ∧ ∀ H', Same H H' → Q (.bl true) H'
theorem sc16 : FnScope ["thing", "side"] ["thing"] (defScope S16) := ⟨rfl, rfl, rfl, by decide +kernel, rfl, by decide +kernel, by decide +kernel⟩
theorem ok16 (T : Txt K mg f d) : FnOk P w K mg base CX0 2 (f 16) (d 16) ["thing"] spIsBox := by
  refine T.is_box.F.ok sc16 (fun vs H Q E h => ?_) (fun cdv A outer s H vs Q E hr h => ?_)
  · obtain ⟨a, h, w, rfl, _⟩ := h
    rfl
  obtain ⟨a, h, w, rfl, ha, hh, hw, q⟩ := h
  obtain ⟨t20, h20⟩ := T.most
  refine ⟨_, pss_cons (ps_if (PW.pt (pw_or (pt_not (pt_val (pe_callB call_isi (by rfl) T.b_isinstance (by decide +kernel) (pa_cons (pv 0) (pa_cons (pe_bltn (v := .ty "tuple") (by rfl) T.b_tuple (by decide +kernel) rfl) pa_nil))))) (pw_or1 (pt_cmpR op_ne (pe_callB call_len' (by rfl) T.b_len PySem.boot_len (pa_cons (pv 0) pa_nil)) pe_int (nomark _))))) (pss_one (ps_ret pe_bl)) pss_nil)
    (pss_one (ps_ret (pe_callB (cr_all rfl) (by rfl) T.b_all (by decide +kernel) (pa_cons (pe_lc (own := [("side", 1)]) (g := gName 1) rfl sc16.nd (pi_tup (pv 0)) (blkOk_by (N := ["thing", "side"]) (sc := defScope S16) (by decide +kernel)) (fun _ _ _ _ _ => pg_name (i := 1) sc16.nd rfl (Or.inl rfl)) (fun _ _ _ _ _ => pts_nil)
      (fun _ _ _ _ _ => pe_and (dcall T.is_whole (ok11 T) hr (pa_cons (pv 1) pa_nil)) (pe_one (pe_chain op_le op_le pe_int (pv 1) (pe_glob (v := .int 20) (by rfl) h20 ⟨_, rfl⟩))))) pa_nil)))), ?_⟩
  refine ⟨_, rfl, _, _, _, _, true, rfl, .ty "tuple", .base (.tup ha), kit_ty (by decide +kernel), true, rfl, ?_⟩
  refine iteF ⟨_, rfl, a, _, rfl, .inr (SqT.of ha), rfl, false, rfl, iteF ?_⟩
  refine ⟨_, rfl, a, rfl, ⟨_, SqT.of ha⟩, fun D hD => ?_⟩
  refine lc_vals (src := [h, w]) (Y := fun i H x H' => H' = H ∧ ∀ n, [h, w][i]? = some n → x = vN n) (G := fun H => ShH H a [h, w]) walk_tv hD (fun _ => true) (fun _ => .bl true) (show 2 < sizeLine by decide) (fun H' s' => s' _ _ ha) ?_ ?_
  · rintro i n hn H2 x H' acc s2 hacc ⟨rfl, hx⟩ A B h1 _
    obtain rfl := hx n hn
    have hb : n ≤ 20 := by
      have hm := List.mem_of_getElem? hn
      rcases List.mem_cons.mp hm with z | hm
      · omega
      · rcases List.mem_cons.mp hm with z | hm
        · omega
        · cases hm
    refine ⟨rfl, yes ⟨_, rfl, (n : Int), rfl, true, rfl, iteT ⟨_, rfl, _, _, rfl, rfl, true, ?_, iteT ⟨_, _, rfl, rfl, ?_⟩⟩⟩⟩
    · show V.bl (decide ((0 : Int) ≤ (n : Int))) = V.bl true
      rw [decide_eq_true (by omega)]
    · have e : decide ((n : Int) ≤ 20) = true := decide_eq_true (by omega)
      show A (V.bl (decide ((n : Int) ≤ 20))) H'
      rw [e]
      exact h1 rfl _ (Same.refl _)
  · intro H5 s5 hD5
    exact ⟨D, [true, true], rfl, SqL.of hD5, q _ s5⟩
def spNeedBox : Sp := fun vs H Q _ => ∃ (a : Addr) (h w : Nat), vs = [.ref a] ∧ BxH H a h w ∧ h ≤ 20 ∧ w ≤ 20 ∧ ∀ H', Same H H' → Q .non H'
theorem sc17 : FnScope ["thing"] ["thing"] (defScope S17) := ⟨rfl, rfl, rfl, by decide +kernel, rfl, by decide +kernel, by decide +kernel⟩
theorem ok17 (T : Txt K mg f d) : FnOk P w K mg base CX0 3 (f 17) (d 17) ["thing"] spNeedBox := by
  refine T.need_box.F.ok sc17 (fun vs H Q E h => ?_) (fun cdv A outer s H vs Q E hr h => ?_)
  · obtain ⟨a, h, w, rfl, _⟩ := h
    rfl
  obtain ⟨a, h, w, rfl, ha, hh, hw, q⟩ := h
  refine ⟨_, pss_one (ps_if (pt_not (pt_val (dcall T.is_box (ok16 T) hr (pa_cons (pv 0) pa_nil)))) (pss_one ps_never) pss_nil), ?_⟩
  exact ⟨_, rfl, a, h, w, rfl, ha, hh, hw, fun H1 s1 => ⟨true, rfl, iteF (q H1 s1)⟩⟩
def spFit : Sp := fun vs H Q _ => ∃ (b a : Addr) (h w : Nat) (l : List Nat), vs = [.ref b, .ref a] ∧ BxH H b h w ∧ ShH H a l ∧ l.length ≤ h ∧ row l 0 ≤ w ∧ Q (.bl true) H
theorem sc18 : FnScope ["box", "share"] ["box", "share"] (defScope S18) := ⟨rfl, rfl, rfl, by decide +kernel, rfl, by decide +kernel, by decide +kernel⟩
theorem ok18 (T : Txt K mg f d) : FnOk P w K mg base CX0 2 (f 18) (d 18) ["box", "share"] spFit := by
  refine T.does_fit.F.ok sc18 (fun vs H Q E h => ?_) (fun cdv A outer s H vs Q E hr h => ?_)
  · obtain ⟨b, a, h, w, l, rfl, _⟩ := h
    rfl
  obtain ⟨b, a, h, w, l, rfl, hb, ha, h1, h2, q⟩ := h
  refine ⟨_, pss_one (ps_ret (pe_and (pe_cmpR op_le (pe_callB call_len' (by rfl) T.b_len PySem.boot_len (pa_cons (pv 1) pa_nil)) (pe_ix ix_tup (pv 0) pe_int (fun _ _ => rfl)) (nomark _))
    (pe_one (pe_cmpR op_le (dcall T.row_of (ok12 T) hr (pa_cons (pv 1) (pa_cons pe_int pa_nil))) (pe_ix ix_tup (pv 0) pe_int (fun _ _ => rfl)) (nomark _))))), ?_⟩
  refine ⟨_, rfl, a, _, rfl, .inr (SqT.of ha), _, rfl, b, _, _, _, rfl, rfl, SqT.of hb, (show atI [vN h, vN w] 0 = some (vN h) from rfl), _, _, rfl, rfl, true, ?_, iteT ⟨_, rfl, a, l, 0, rfl, ha, _, rfl, b, _, _, _, rfl, rfl, SqT.of hb, (show atI [vN h, vN w] 1 = some (vN w) from rfl), _, _, rfl, rfl, ?_⟩⟩
  · show V.bl (decide (((tv l).length : Int) ≤ (h : Int))) = V.bl true
    rw [tv_len, decide_eq_true (by omega)]
  · have e : decide ((row l 0 : Int) ≤ (w : Int)) = true := decide_eq_true (by omega)
    show Q (V.bl (decide ((row l 0 : Int) ≤ (w : Int)))) H
    rw [e]
    exact q
def spNeedFit : Sp := fun vs H Q _ => ∃ (b a : Addr) (h w : Nat) (l : List Nat), vs = [.ref b, .ref a] ∧ BxH H b h w ∧ h ≤ 20 ∧ w ≤ 20 ∧ ShH H a l ∧ l.length ≤ h ∧ row l 0 ≤ w ∧ ∀ H', Same H H' → Q .non H'
def spFits : Sp := fun vs H Q _ => ∃ (b a : Addr) (h w : Nat) (l : List Nat), vs = [.ref b, .ref a] ∧ BxH H b h w ∧ h ≤ 20 ∧ w ≤ 20 ∧ ShH H a l ∧ l.length ≤ h ∧ row l 0 ≤ w ∧ ∀ H', Same H H' → Q (.bl true) H'
theorem sc19 : FnScope ["box", "share"] ["box", "share"] (defScope S19) := ⟨rfl, rfl, rfl, by decide +kernel, rfl, by decide +kernel, by decide +kernel⟩
theorem ok19 (T : Txt K mg f d) : FnOk P w K mg base CX0 4 (f 19) (d 19) ["box", "share"] spFits := by
  refine T.fits_in.F.ok sc19 (fun vs H Q E h => ?_) (fun cdv A outer s H vs Q E hr h => ?_)
  · obtain ⟨b, a, h, w, l, rfl, _⟩ := h
    rfl
  obtain ⟨b, a, h, w, l, rfl, hb, hh, hw, ha, h1, h2, q⟩ := h
  refine ⟨_, pss_cons (ps_expr (dcall T.need_box (ok17 T) hr (pa_cons (pv 0) pa_nil))) (pss_one (ps_ret (dcall T.does_fit (ok18 T) hr (pa_cons (pv 0) (pa_cons (pv 1) pa_nil))))), ?_⟩
  exact ⟨_, rfl, b, h, w, rfl, hb, hh, hw, fun H1 s1 => ⟨_, rfl, _, rfl, b, a, h, w, l, rfl, s1 _ _ hb, s1 _ _ ha, h1, h2, q H1 s1⟩⟩
theorem sc20 : FnScope ["box", "share"] ["box", "share"] (defScope S20) := ⟨rfl, rfl, rfl, by decide +kernel, rfl, by decide +kernel, by decide +kernel⟩
theorem ok20 (T : Txt K mg f d) : FnOk P w K mg base CX0 5 (f 20) (d 20) ["box", "share"] spNeedFit := by
  refine T.need_fit.F.ok sc20 (fun vs H Q E h => ?_) (fun cdv A outer s H vs Q E hr h => ?_)
  · obtain ⟨b, a, h, w, l, rfl, _⟩ := h
    rfl
  obtain ⟨b, a, h, w, l, rfl, hb, hh, hw, ha, h1, h2, q⟩ := h
  refine ⟨_, pss_one (ps_if (pt_not (pt_val (dcall T.fits_in (ok19 T) hr (pa_cons (pv 0) (pa_cons (pv 1) pa_nil))))) (pss_one ps_never) pss_nil), ?_⟩
  exact ⟨_, rfl, _, rfl, b, a, h, w, l, rfl, hb, hh, hw, ha, h1, h2, fun H1 s1 => ⟨true, rfl, iteF (q H1 s1)⟩⟩
/-! ### other_share -/
def spOther : Sp := fun vs H Q _ => ∃ (b a : Addr) (h w : Nat) (l : List Nat), vs = [.ref b, .ref a] ∧ BxH H b h w ∧ h ≤ 20 ∧ w ≤ 20 ∧ ShH H a l ∧ Bx h w l ∧ ∀ p H', Same H H' → ShH H' p (Cm h w l) → Q (.ref p) H'
theorem sc21 : FnScope ["box", "share", "left", "r", "row"] ["box", "share"] (defScope S21) := ⟨rfl, rfl, rfl, by decide +kernel, rfl, by decide +kernel, by decide +kernel⟩
theorem ok21 (T : Txt K mg f d) : FnOk P w K mg base CX0 6 (f 21) (d 21) ["box", "share"] spOther := by
  refine T.other_share.F.ok sc21 (fun vs H Q E h => ?_) (fun cdv A outer s H vs Q E hr h => ?_)
  · obtain ⟨b, a, h, w, l, rfl, _⟩ := h
    rfl
  obtain ⟨b, a, h, w, l, rfl, hb, hh, hw, ha, hbx, q⟩ := h
  refine ⟨_, pss_cons (ps_expr (dcall T.need_fit (ok20 T) hr (pa_cons (pv 0) (pa_cons (pv 1) pa_nil))))
    (pss_cons (ps_setLc (i := 2) (own := [("r", 3)]) (g := gName 3) (by rfl) sc21.nd rfl rfl (sw_true rfl rfl rfl (by decide +kernel)) (pi_range1 (by rfl) T.b_range (pa_cons (pe_ix ix_tup (pv 0) pe_int (fun _ _ => rfl)) pa_nil)) (blkOk_by (N := ["box", "share", "left", "r", "row"]) (sc := defScope S21) (by decide +kernel))
      (fun _ _ _ _ _ => pg_name (i := 3) sc21.nd rfl (Or.inl rfl)) (fun _ _ _ _ _ => pts_nil) (fun _ _ _ _ _ => pe_op op_sub (pe_ix (show IxR _ (rIxT K) from ix_tup) (pv 0) pe_int (fun _ _ => rfl)) (dcall T.row_of (ok12 T) hr (pa_cons (pv 1) (pa_cons (pv 3) pa_nil)))))
    (pss_one (ps_ret (pe_callTy call_tuple_of (by rfl) T.b_tuple (by decide +kernel) (pa_cons (pe_lc (own := [("row", 4)]) (g := gName 4) rfl sc21.nd (pi_list (pe_revL (pv 2))) (blkOk_by (N := ["box", "share", "left", "r", "row"]) (sc := defScope S21) (by decide +kernel))
      (fun _ _ _ _ _ => pg_name (i := 4) sc21.nd rfl (Or.inl rfl)) (fun _ _ _ _ _ => pts_one (pt_cmpR op_gt (pv 4) pe_int (nomark _))) (fun _ _ _ _ _ => pv 4)) pa_nil))))), ?_⟩
  refine ⟨_, rfl, _, rfl, b, a, h, w, l, rfl, hb, hh, hw, ha, hbx.len, hbx.wide 0, fun H1 s1 => ?_⟩
  refine ⟨_, rfl, b, _, _, _, rfl, rfl, SqT.of (s1 _ _ hb), (show atI [vN h, vN w] 0 = some (vN h) from rfl), _, rfl, by omega, by omega, fun D hD => ?_⟩
  rw [show ((h : Nat) : Int).toNat = h by omega]
  refine lc_vals (src := List.range h) (by rw [List.length_range]; exact walk_rv) hD (fun _ => true) (fun r => vN (w - row l r)) (by rw [List.length_range]; exact smallL (by omega)) (fun _ _ => trivial) ?_ ?_
  · rintro i r hr2 H2 x H' acc s2 hacc ⟨rfl, rfl⟩ A B h1 _
    obtain ⟨hi, rfl⟩ := mem_rng hr2
    refine ⟨rfl, yes ⟨_, rfl, b, _, _, _, rfl, rfl, SqT.of (s2 _ _ (s1 _ _ hb)), (show atI [vN h, vN w] 1 = some (vN w) from rfl), _, rfl, _, rfl, a, l, i, rfl, s2 _ _ (s1 _ _ ha), _, _, rfl, rfl, ?_⟩⟩
    have e : vN (w - row l i) = V.int ((w : Int) - (row l i : Int)) := by
      show V.int _ = V.int _
      have := hbx.wide i
      congr 1
      omega
    have z := h1 rfl _ (Same.refl _)
    rw [e] at z
    exact z
  · intro H3 s3 hD3
    rw [filter_true] at hD3
    have hD3' : H3 D = some (.lst (tv ((List.range h).map fun r => w - row l r))) := by
      rw [hD3]
      unfold tv
      rw [List.map_map]
      rfl
    refine ⟨_, rfl, D, _, rfl, SqL.of hD3', fun p hp => ⟨p, rfl, ⟨_, SqL.of upd_same⟩, fun D2 hD2 => ?_⟩⟩
    have er : (tv ((List.range h).map fun r => w - row l r)).reverse = tv (((List.range h).map fun r => w - row l r).reverse) := by
      unfold tv
      rw [List.map_reverse]
    rw [er] at hD2 ⊢
    refine lc_vals (src := ((List.range h).map fun r => w - row l r).reverse) walk_lv hD2 (fun n => decide (0 < n)) vN (by simp; exact smallL (by omega)) (fun H' s' => s' _ _ upd_same) ?_ ?_
    · rintro j n hn H4 x H' acc2 s4 hacc2 ⟨rfl, hx⟩ A B k1 k2
      obtain rfl := hx n hn
      refine ⟨rfl, _, rfl, _, _, rfl, rfl, _, rfl, ?_⟩
      by_cases c : 0 < n
      · have e : decide ((0 : Int) < (n : Int)) = true := decide_eq_true (by omega)
        rw [e]
        exact iteT ⟨_, rfl, k1 (decide_eq_true c) _ (Same.refl _)⟩
      · have e : decide ((0 : Int) < (n : Int)) = false := decide_eq_false (by omega)
        rw [e]
        exact iteF (k2 (decide_eq_false c) _ (Same.refl _))
    · intro H6 s6 hD6
      exact ⟨D2, _, rfl, .inl ⟨SqL.of hD6, fun p2 hp2 => q p2 _ (((s1.trans s3).trans (same_new hp _)).trans (s6.trans (same_new hp2 _))) (by rw [ShH, upd_same]; rfl)⟩⟩
end
end GW
namespace GW
open PySem PySem.Spec PyProof.Rows L2 GR GS

/-! ### dicts by shares -/
abbrev AL := List (List Nat × V)
def dkv (al : AL) : List (List Key × V) := al.map fun p => (kk p.1, p.2)
theorem dkv_val (al : AL) (v : List Nat) : valV (dkv al) (kk v) = valV al v := by
  induction al with
  | nil => rfl
  | cons p al ih =>
    show valV ((kk p.1, p.2) :: dkv al) (kk v) = _
    by_cases c : p.1 = v
    · rw [valV_pos (show ((kk p.1, p.2) : List Key × V).1 = kk v by rw [c]), valV_pos c]
    · rw [valV_neg (show ¬ ((kk p.1, p.2) : List Key × V).1 = kk v from fun z => c (kk_inj z)), valV_neg c, ih]
theorem dkv_put (al : AL) (v : List Nat) (x : V) : putK (dkv al) (kk v) x = dkv (putK al v x) := by
  unfold putK
  rw [valV_any, valV_any, dkv_val]
  split
  · unfold dkv
    rw [List.map_map, List.map_map]
    refine List.map_congr_left fun p _ => ?_
    show (if kk p.1 = kk v then (kk p.1, x) else (kk p.1, p.2)) = (fun p : List Nat × V => (kk p.1, p.2)) (if p.1 = v then (p.1, x) else p)
    by_cases c : p.1 = v
    · rw [if_pos c, if_pos (by rw [c])]
    · rw [if_neg c, if_neg (fun z => c (kk_inj z))]
  · simp [dkv]
def mergeV (a b : AL) : AL := b.foldl (fun acc p => putK acc p.1 p.2) a
theorem dkv_merge : ∀ (b a : AL), mergeT (dkv a) (dkv b) = dkv (mergeV a b)
  | [], a => rfl
  | p :: b, a => by
    show mergeT (putK (dkv a) (kk p.1) p.2) (dkv b) = dkv (mergeV (putK a p.1 p.2) b)
    rw [dkv_put, dkv_merge b]
theorem val_none {al : AL} {v : List Nat} : valV al v = none ↔ v ∉ al.map (·.1) := by
  induction al with
  | nil => simp [valV_nil]
  | cons p al ih =>
    rw [List.map_cons, List.mem_cons]
    by_cases c : p.1 = v
    · rw [valV_pos c]
      simp [c]
    · rw [valV_neg c, ih]
      have : ¬ v = p.1 := fun z => c z.symm
      simp [this]
theorem put_keys (al : AL) (v : List Nat) (x : V) : (putK al v x).map (·.1) = if v ∈ al.map (·.1) then al.map (·.1) else al.map (·.1) ++ [v] := by
  unfold putK
  rw [valV_any]
  by_cases c : v ∈ al.map (·.1)
  · rw [if_pos c]
    have h : (valV al v).isSome = true := by
      cases e : valV al v with
      | none => exact absurd c (val_none.mp e)
      | some y => rfl
    rw [if_pos h, List.map_map]
    refine List.map_congr_left fun p _ => ?_
    show (if p.1 = v then (p.1, x) else p).1 = p.1
    split <;> rfl
  · rw [if_neg c]
    have h : valV al v = none := val_none.mpr c
    rw [h, if_neg (by simp)]
    simp
theorem put_nodup {al : AL} (h : (al.map (·.1)).Nodup) (v : List Nat) (x : V) : ((putK al v x).map (·.1)).Nodup := by
  rw [put_keys]
  split
  · exact h
  · next c =>
    refine nodup_append_of h (by simp) fun y hy hz => ?_
    rw [List.mem_singleton] at hz
    subst hz
    exact c hy
theorem put_mem {al : AL} {v u : List Nat} {x : V} (h : u ∈ (putK al v x).map (·.1)) : u ∈ al.map (·.1) ∨ u = v := by
  rw [put_keys] at h
  split at h
  · exact .inl h
  · rcases List.mem_append.mp h with h | h
    · exact .inl h
    · exact .inr (List.mem_singleton.mp h)
theorem merge_val : ∀ (b a : AL) (v : List Nat), (b.map (·.1)).Nodup → valV (mergeV a b) v = (match valV b v with | some x => some x | none => valV a v)
  | [], a, v, _ => rfl
  | p :: b, a, v, h => by
    rw [List.map_cons, List.nodup_cons] at h
    show valV (mergeV (putK a p.1 p.2) b) v = _
    rw [merge_val b _ v h.2]
    by_cases c : p.1 = v
    · rw [valV_pos c]
      have : valV b v = none := val_none.mpr (by rw [← c]; exact h.1)
      rw [this]
      show valV (putK a p.1 p.2) v = some p.2
      rw [valV_put, if_pos c.symm]
    · rw [valV_neg c]
      cases valV b v with
      | some x => rfl
      | none =>
        show valV (putK a p.1 p.2) v = valV a v
        rw [valV_put, if_neg fun z => c z.symm]
theorem merge_mem : ∀ (b a : AL) {u : List Nat}, u ∈ (mergeV a b).map (·.1) → u ∈ a.map (·.1) ∨ u ∈ b.map (·.1)
  | [], a, u, h => .inl h
  | p :: b, a, u, h => by
    rcases merge_mem b (putK a p.1 p.2) h with h | h
    · rcases put_mem h with h | h
      · exact .inl h
      · exact .inr (by rw [h]; exact List.mem_cons_self)
    · exact .inr (List.mem_cons_of_mem _ h)
theorem merge_nodup : ∀ (b a : AL), (a.map (·.1)).Nodup → ((mergeV a b).map (·.1)).Nodup
  | [], a, h => h
  | p :: b, a, h => merge_nodup b (putK a p.1 p.2) (put_nodup h _ _)

/-! ### what a layer adds up -/
abbrev Evs := List (List Nat × Nat)
def tot (es : Evs) (v : List Nat) : Nat := ((es.filter fun e => decide (e.1 = v)).map (·.2)).sum
theorem tot_append (a b : Evs) (v : List Nat) : tot (a ++ b) v = tot a v + tot b v := by simp [tot]
theorem tot_flatMap {α : Type} (l : List α) (g : α → Evs) (v : List Nat) : tot (l.flatMap g) v = (l.map fun x => tot (g x) v).sum := by
  induction l with
  | nil => rfl
  | cons a l ih => rw [List.flatMap_cons, tot_append, ih, List.map_cons, List.sum_cons]
inductive Acc : Evs → AL → Prop where
  | nil : Acc [] []
  | snoc {es : Evs} {al : AL} (e : List Nat × Nat) : Acc es al → Acc (es ++ [e]) (putK al e.1 (vN (tot es e.1 + e.2)))
theorem Acc.val {es : Evs} {al : AL} (h : Acc es al) (v : List Nat) : valV al v = if v ∈ es.map (·.1) then some (vN (tot es v)) else none := by
  induction h with
  | nil => simp [valV_nil]
  | @snoc es al e h ih =>
    rw [valV_put, List.map_append, tot_append]
    by_cases c : v = e.1
    · subst c
      rw [if_pos rfl, if_pos (by simp)]
      congr 2
      simp [tot]
    · rw [if_neg c, ih]
      have t0 : tot [e] v = 0 := by
        have : ¬ e.1 = v := fun z => c z.symm
        simp [tot, this]
      have m : (v ∈ es.map (·.1) ++ [e].map (·.1)) ↔ v ∈ es.map (·.1) := by simp [c]
      simp only [m, t0, Nat.add_zero]
theorem Acc.nodup {es : Evs} {al : AL} (h : Acc es al) : (al.map (·.1)).Nodup := by
  induction h with
  | nil => simp
  | snoc e h ih => exact put_nodup ih _ _
theorem Acc.mem {es : Evs} {al : AL} (h : Acc es al) {v : List Nat} : v ∈ al.map (·.1) ↔ v ∈ es.map (·.1) := by
  have hv := h.val v
  constructor
  · intro hm
    by_cases c : v ∈ es.map (·.1)
    · exact c
    · rw [if_neg c] at hv
      exact absurd hm (val_none.mp hv)
  · intro hm
    rw [if_pos hm] at hv
    by_cases c : v ∈ al.map (·.1)
    · exact c
    · rw [val_none.mpr c] at hv
      cases hv
def evu (m l u : List Nat) (rs : List Nat) : Evs := (rs.filter fun r => wiB m (less u r)).map fun r => (less u r, F u l)
def evs (m l : List Nat) (Ls : List (List Nat)) : Evs := Ls.flatMap fun u => evu m l u (outRows u)
theorem less_inj {u : List Nat} (hu : IsSh u) {r q : Nat} (hr : r ∈ outRows u) (hq : q ∈ outRows u) (e : less u r = less u q) : r = q := by
  have e1 := row_less hu hr r
  rw [e, row_less hu hq r, if_pos rfl] at e1
  have := (mem_outRows.mp hr).2
  split at e1
  · assumption
  · omega
theorem tot_evu {m l u v : List Nat} (hm : IsSh m) (hu : IsSh u) (hv : IsSh v) (hw : wi m v) : tot (evu m l u (outRows u)) v = if cov v u = true then F u l else 0 := by
  have e1 : tot (evu m l u (outRows u)) v = ((outRows u).map fun r => if less u r = v then F u l else 0).sum := by
    unfold tot evu
    generalize outRows u = rs
    induction rs with
    | nil => rfl
    | cons r rs ih =>
      rw [List.map_cons, List.sum_cons, ← ih, List.filter_cons]
      by_cases c : less u r = v
      · have : wiB m (less u r) = true := by rw [c]; exact (wiB_iff hm).mpr hw
        rw [if_pos this, if_pos c, List.map_cons, List.filter_cons, if_pos (by simpa using c), List.map_cons, List.sum_cons]
      · rw [if_neg c, Nat.zero_add]
        split
        · rw [List.map_cons, List.filter_cons, if_neg (by simpa using c)]
        · rfl
  rw [e1]
  by_cases c : cov v u = true
  · rw [if_pos c]
    obtain ⟨r0, h0, e0⟩ := less_of_cov hv hu c
    have e2 : ((outRows u).map fun r => if less u r = v then F u l else 0).sum = ((outRows u).map fun r => if r0 = r then F u l else 0).sum := sum_map_congr fun r hr => by
      by_cases d : r0 = r
      · subst d; rw [if_pos e0, if_pos rfl]
      · rw [if_neg d, if_neg fun z => d (less_inj hu h0 hr (e0.trans z.symm))]
    rw [e2, sum_single (nodup_outRows u) h0]
  · rw [if_neg c]
    have e2 : ((outRows u).map fun r => if less u r = v then F u l else 0).sum = ((outRows u).map fun _ => 0).sum := sum_map_congr fun r hr => if_neg fun z => c (by rw [← z]; exact cov_less hu hr)
    rw [e2, sum_map_zero]
/-- the shares between, n cells from the greater one -/
structure Layer (m l : List Nat) (n : Nat) (Ls : List (List Nat)) : Prop where
  nd : Ls.Nodup
  mem : ∀ v, v ∈ Ls ↔ IsSh v ∧ wi m v ∧ wi v l ∧ l.sum = v.sum + n
theorem layer_zero {m l : List Nat} (hm : IsSh m) (hl : IsSh l) (hw : wi m l) : Layer m l 0 [l] := by
  refine ⟨by simp, fun v => ?_⟩
  rw [List.mem_singleton]
  constructor
  · rintro rfl; exact ⟨hl, hw, wi.refl _, rfl⟩
  · rintro ⟨h1, h2, h3, h4⟩; exact h3.eq_of_sum h1 hl (by omega)
theorem layer_evs {m l : List Nat} (hm : Bx 7 7 m) (hl : Bx 7 7 l) {n : Nat} {Ls : List (List Nat)} (L : Layer m l n Ls) {v : List Nat} (hv : IsSh v) :
    (v ∈ (evs m l Ls).map (·.1) ↔ wi m v ∧ wi v l ∧ l.sum = v.sum + (n + 1)) ∧ (wi m v → wi v l → l.sum = v.sum + (n + 1) → tot (evs m l Ls) v = F v l) := by
  refine ⟨⟨fun h => ?_, fun ⟨h1, h2, h3⟩ => ?_⟩, fun h1 h2 h3 => ?_⟩
  · unfold evs evu at h
    rw [List.mem_map] at h
    obtain ⟨e, he, rfl⟩ := h
    rw [List.mem_flatMap] at he
    obtain ⟨u, hu, he⟩ := he
    rw [List.mem_map] at he
    obtain ⟨r, hr, rfl⟩ := he
    obtain ⟨hr1, hr2⟩ := List.mem_filter.mp hr
    obtain ⟨g1, g2, g3, g4⟩ := (L.mem u).mp hu
    have := less_sum g1 hr1
    exact ⟨(wiB_iff hm.sh).mp hr2, (less_wi g1 hr1).trans g3, by show l.sum = (less u r).sum + (n + 1); omega⟩
  · have ne : v ≠ l := fun z => by subst z; omega
    obtain ⟨r, hr, hw⟩ := exists_in hv hl.sh h2 ne (by have := hl.len; omega) (by have := hl.wide 0; omega)
    have hs := more_sh hv hr
    have hsum := more_sum (mem_inRows.mp hr).1
    have hu : more v r ∈ Ls := (L.mem _).mpr ⟨hs, h1.trans (more_wi hr), hw, by omega⟩
    obtain ⟨q, hq, e⟩ := less_of_cov hv hs (cov_more hv hr)
    unfold evs evu
    rw [List.mem_map]
    refine ⟨(v, F (more v r) l), List.mem_flatMap.mpr ⟨more v r, hu, List.mem_map.mpr ⟨q, List.mem_filter.mpr ⟨hq, by rw [e]; exact (wiB_iff hm.sh).mpr h1⟩, by rw [e]⟩⟩, rfl⟩
  · have bv := hl.sub hv h2
    unfold evs
    rw [tot_flatMap]
    have e1 : (Ls.map fun u => tot (evu m l u (outRows u)) v).sum = (Ls.map fun u => if cov v u = true then P n u l else 0).sum := sum_map_congr fun u hu => by
      obtain ⟨g1, g2, g3, g4⟩ := (L.mem u).mp hu
      rw [tot_evu hm.sh g1 hv h1, F_of g4]
    rw [e1, F_of h3, P_succ]
    refine sum_support _ L.nd (nodup_boxS 7 7) fun u hne => ⟨fun hu => ?_, fun hu => ?_⟩
    · obtain ⟨g1, g2, g3, g4⟩ := (L.mem u).mp hu
      exact hl.sub g1 g3
    · by_cases c : cov v u = true
      · rw [if_pos c] at hne
        obtain ⟨g1, g2⟩ := P_ne hu hne
        exact (L.mem u).mpr ⟨Bx.sh hu, h1.trans ((cov_iff hv).mp c).1, g1, g2⟩
      · rw [if_neg c] at hne
        exact absurd rfl hne
/-- what is known of the shares at most n cells from the greater one -/
structure Fnd (m l : List Nat) (n : Nat) (al : AL) : Prop where
  nd : (al.map (·.1)).Nodup
  bx : ∀ v ∈ al.map (·.1), Bx 7 7 v
  val : ∀ v, IsSh v → valV al v = if wiB m v = true ∧ wiB v l = true ∧ l.sum ≤ v.sum + n then some (vN (F v l)) else none
theorem fnd_zero {m l : List Nat} (hm : Bx 7 7 m) (hl : Bx 7 7 l) (hw : wi m l) : Fnd m l 0 [(l, vN 1)] := by
  refine ⟨by simp, fun v hv => ?_, fun v hv => ?_⟩
  · simp at hv
    subst hv
    exact hl
  · by_cases c : l = v
    · subst c
      rw [valV_pos rfl, if_pos ⟨(wiB_iff hm.sh).mpr hw, (wiB_iff hv).mpr (wi.refl _), Nat.le_refl _⟩, F_self]
    · rw [valV_neg c, valV_nil, if_neg]
      rintro ⟨_, h2, h3⟩
      have h2' := (wiB_iff hv).mp h2
      have := h2'.sum_le
      exact c (h2'.eq_of_sum hv hl.sh (by omega)).symm
theorem fnd_succ {m l : List Nat} (hm : Bx 7 7 m) (hl : Bx 7 7 l) {n : Nat} {Ls : List (List Nat)} {al fw : AL} (L : Layer m l n Ls) (f : Fnd m l n al) (a : Acc (evs m l Ls) fw) : Fnd m l (n + 1) (mergeV al fw) ∧ Layer m l (n + 1) (fw.map (·.1)) := by
  have sh : ∀ v ∈ fw.map (·.1), IsSh v := fun v hv => by
    have hv' := a.mem.mp hv
    unfold evs evu at hv'
    rw [List.mem_map] at hv'
    obtain ⟨e, he, rfl⟩ := hv'
    rw [List.mem_flatMap] at he
    obtain ⟨u, hu, he⟩ := he
    rw [List.mem_map] at he
    obtain ⟨r, hr, rfl⟩ := he
    exact less_sh ((L.mem u).mp hu).1 (List.mem_filter.mp hr).1
  refine ⟨⟨merge_nodup _ _ f.nd, fun v hv => ?_, fun v hv => ?_⟩, a.nodup, fun v => ?_⟩
  · rcases merge_mem _ _ hv with hv | hv
    · exact f.bx v hv
    · have hs := sh v hv
      have := (layer_evs hm hl L hs).1.mp (a.mem.mp hv)
      exact hl.sub hs this.2.1
  · rw [merge_val _ _ _ a.nodup, a.val, f.val v hv]
    obtain ⟨h1, h2⟩ := layer_evs hm hl L hv
    by_cases c : wi m v ∧ wi v l ∧ l.sum = v.sum + (n + 1)
    · rw [if_pos (h1.mpr c), h2 c.1 c.2.1 c.2.2]
      show some (vN (F v l)) = if wiB m v = true ∧ wiB v l = true ∧ l.sum ≤ v.sum + (n + 1) then some (vN (F v l)) else none
      rw [if_pos ⟨(wiB_iff hm.sh).mpr c.1, (wiB_iff hv).mpr c.2.1, by omega⟩]
    · rw [if_neg fun z => c (h1.mp z)]
      show (if _ then _ else _) = _
      by_cases d : wiB m v = true ∧ wiB v l = true ∧ l.sum ≤ v.sum + n
      · rw [if_pos d, if_pos ⟨d.1, d.2.1, by omega⟩]
      · rw [if_neg d, if_neg]
        rintro ⟨g1, g2, g3⟩
        have g1' := (wiB_iff hm.sh).mp g1
        have g2' := (wiB_iff hv).mp g2
        by_cases e : l.sum ≤ v.sum + n
        · exact d ⟨g1, g2, e⟩
        · exact c ⟨g1', g2', by omega⟩
  · constructor
    · intro hv
      have hs := sh v hv
      exact ⟨hs, (layer_evs hm hl L hs).1.mp (a.mem.mp hv)⟩
    · rintro ⟨hs, h⟩
      exact a.mem.mpr ((layer_evs hm hl L hs).1.mpr h)
/-- an empty layer: nothing stands further off -/
theorem layer_empty {m l : List Nat} (hl : Bx 7 7 l) {n : Nat} (L : Layer m l n []) {v : List Nat} (hv : IsSh v) (h1 : wi m v) (h2 : wi v l) : l.sum < v.sum + n := by
  have key : ∀ k (v : List Nat), IsSh v → wi m v → wi v l → l.sum = v.sum + n + k → False := by
    intro k
    induction k with
    | zero => intro v hv h1 h2 h3; exact absurd ((L.mem v).mpr ⟨hv, h1, h2, h3⟩) (by simp)
    | succ k ih =>
      intro v hv h1 h2 h3
      have ne : v ≠ l := fun z => by subst z; omega
      obtain ⟨r, hr, hw⟩ := exists_in hv hl.sh h2 ne (by have := hl.len; omega) (by have := hl.wide 0; omega)
      have := more_sum (mem_inRows.mp hr).1
      exact ih (more v r) (more_sh hv hr) (h1.trans (more_wi hr)) hw (by omega)
  rcases Nat.lt_or_ge l.sum (v.sum + n) with c | c
  · exact c
  · exact (key (l.sum - (v.sum + n)) v hv h1 h2 (by omega)).elim
/-- what ways_on hands back -/
def Known (m l : List Nat) (al : AL) : Prop := ∀ v, IsSh v → valV al v = if wiB m v = true ∧ wiB v l = true then some (vN (F v l)) else none
theorem known_of {m l : List Nat} (hm : Bx 7 7 m) (hl : Bx 7 7 l) {n : Nat} {al : AL} (L : Layer m l n []) (f : Fnd m l n al) : Known m l al := fun v hv => by
  rw [f.val v hv]
  by_cases c : wiB m v = true ∧ wiB v l = true
  · have := layer_empty hl L hv ((wiB_iff hm.sh).mp c.1) ((wiB_iff hv).mp c.2)
    rw [if_pos c, if_pos ⟨c.1, c.2, by omega⟩]
  · rw [if_neg c, if_neg fun z => c ⟨z.1, z.2.1⟩]
theorem box7_len : (boxS 7 7).length = 3432 := by decide +kernel
theorem al_small {al : AL} (nd : (al.map (·.1)).Nodup) (bx : ∀ v ∈ al.map (·.1), Bx 7 7 v) : al.length ≤ 3432 := by
  have := nd.length_le_of_subset (l₂ := boxS 7 7) fun v hv => bx v hv
  rw [List.length_map, box7_len] at this
  exact this
end GW
namespace GW
open PySem PySem.Spec PyProof.Rows L2 GR GS

theorem pget {α β : Type} {A : α → β → Prop} : ∀ {xs : List α} {ys : List β} {i : Nat} {x : α}, Paired A xs ys → xs[i]? = some x → ∃ y, ys[i]? = some y ∧ A x y
  | _, _, _, _, .nil, e => by simp at e
  | _, _, 0, _, .cons r _, e => by simp at e; subst e; exact ⟨_, rfl, r⟩
  | _, _, i + 1, x, .cons _ t, e => by
    obtain ⟨u, h1, h2⟩ := pget (i := i) (x := x) t (by simpa using e)
    exact ⟨u, by simpa using h1, h2⟩
theorem pmono {α β : Type} {A B : α → β → Prop} : ∀ {xs : List α} {ys : List β}, Paired A xs ys → (∀ a b, A a b → B a b) → Paired B xs ys
  | _, _, .nil, _ => .nil
  | _, _, .cons h t, k => .cons (k _ _ h) (pmono t k)
theorem plen {α β : Type} {A : α → β → Prop} : ∀ {xs : List α} {ys : List β}, Paired A xs ys → xs.length = ys.length
  | _, _, .nil => rfl
  | _, _, .cons _ t => by rw [List.length_cons, List.length_cons, plen t]
/-- at bs stand the shares Ls -/
abbrev ShAll (H : Hp) (Ls : List (List Nat)) (bs : List Addr) : Prop := Paired (fun v b => ShH H b v) Ls bs
theorem shAll_keys {H : Hp} : ∀ {al : AL} {bs : List Addr}, IsKeys H (dkv al) bs → ShAll H (al.map (·.1)) bs
  | [], _, .nil => .nil
  | p :: al, _, .cons h t => .cons (by
      have h' : H _ = some (.tup ((kk p.1).map kV)) := h
      rw [kk_map] at h'
      exact h') (shAll_keys t)
def shD (v : List Nat) : PyData := .tuple (v.map fun n : Nat => PyData.int (n : Int))
theorem dp_ints {K : PySem.W.Frag} {H : Hp} : ∀ v : List Nat, DpAll K H (tv v) (v.map fun n : Nat => PyData.int (n : Int))
  | [] => .nil
  | n :: v => .cons (.int _) (dp_ints v)
theorem dp_sh {K : PySem.W.Frag} {H : Hp} {b : Addr} {v : List Nat} (h : ShH H b v) : Dp K H (.ref b) (shD v) := .tup (SqT.of h) (dp_ints v)
theorem dp_all {K : PySem.W.Frag} {H : Hp} : ∀ {Ls : List (List Nat)} {bs : List Addr}, ShAll H Ls bs → DpAll K H (bs.map V.ref) (Ls.map shD)
  | _, _, .nil => .nil
  | _, _, .cons h t => .cons (dp_sh h) (dp_all t)
theorem lay_ints : ∀ v : List Nat, PyData.canLayAll0 (v.map fun n : Nat => PyData.int (n : Int)) = true
  | [] => by simp [PyData.canLayAll0]
  | n :: v => by simp [PyData.canLayAll0, PyData.canLay0, lay_ints v]
theorem dep_ints : ∀ v : List Nat, PyData.depthAll (v.map fun n : Nat => PyData.int (n : Int)) = 0
  | [] => by simp [PyData.depthAll]
  | n :: v => by simp [PyData.depthAll, PyData.depth, dep_ints v]
theorem shaped_sh (v : List Nat) : SeqAt.shaped (shD v) = true := by
  unfold SeqAt.shaped shD
  rw [PyData.canLay0, lay_ints, PyData.depth, dep_ints]
  rfl
theorem lay_shs : ∀ Ls : List (List Nat), PyData.canLayAll0 (Ls.map shD) = true
  | [] => by simp [PyData.canLayAll0]
  | v :: Ls => by
    rw [List.map_cons, PyData.canLayAll0, lay_shs Ls]
    unfold shD
    rw [PyData.canLay0, lay_ints]
    rfl
theorem dep_shs : ∀ Ls : List (List Nat), PyData.depthAll (Ls.map shD) ≤ 1
  | [] => by simp [PyData.depthAll]
  | v :: Ls => by
    rw [List.map_cons, PyData.depthAll]
    have := dep_shs Ls
    have e : PyData.depth (shD v) = 1 := by
      unfold shD
      rw [PyData.depth, dep_ints]
    omega
theorem shaped_shs (Ls : List (List Nat)) : SeqAt.shaped (.list (Ls.map shD)) = true := by
  unfold SeqAt.shaped
  rw [PyData.canLay0, lay_shs, PyData.depth]
  have := dep_shs Ls
  rw [decide_eq_true (by omega)]
  rfl
theorem eqv_nil (Ls : List (List Nat)) : PyData.eqv (.list (Ls.map shD)) (.list []) = Ls.isEmpty := by
  cases Ls with
  | nil => simp [PyData.eqv, PyData.eqvAll]
  | cons v Ls => simp [PyData.eqv, PyData.eqvAll]
theorem key_sh {H : Hp} {b : Addr} {v : List Nat} (h : ShH H b v) : H b = some (.tup ((kk v).map kV)) := by rw [kk_map]; exact h
theorem Acc.get {es : Evs} {al : AL} (h : Acc es al) (v : List Nat) : (valV al v).getD (.int 0) = .int ((tot es v : Nat) : Int) := by
  rw [h.val]
  by_cases c : v ∈ es.map (·.1)
  · rw [if_pos c]; rfl
  · rw [if_neg c]
    have : es.filter (fun e => decide (e.1 = v)) = [] := List.filter_eq_nil_iff.mpr fun e he z => c (List.mem_map.mpr ⟨e, he, of_decide_eq_true z⟩)
    unfold tot
    rw [this]
    rfl
theorem evs_take {m l : List Nat} {Ls : List (List Nat)} {i : Nat} {u : List Nat} (h : Ls[i]? = some u) : evs m l (Ls.take (i + 1)) = evs m l (Ls.take i) ++ evu m l u (outRows u) := by
  unfold evs
  rw [take_more h, List.flatMap_append]
  simp
theorem evu_take {m l u rs : List Nat} {j r : Nat} (h : rs[j]? = some r) : evu m l u (rs.take (j + 1)) = evu m l u (rs.take j) ++ (if wiB m (less u r) = true then [(less u r, F u l)] else []) := by
  unfold evu
  rw [take_more h, List.filter_append, List.map_append, List.filter_cons]
  split <;> rfl
theorem evu_bx {m l : List Nat} (hl : Bx 7 7 l) {n : Nat} {Ls : List (List Nat)} (L : Layer m l n Ls) {u : List Nat} (hu : u ∈ Ls) {rs : List Nat} (hr : ∀ r ∈ rs, r ∈ outRows u) : ∀ e ∈ evu m l u rs, Bx 7 7 e.1 := by
  intro e he
  unfold evu at he
  rw [List.mem_map] at he
  obtain ⟨r, hr1, rfl⟩ := he
  obtain ⟨g1, g2, g3, g4⟩ := (L.mem u).mp hu
  have := hr r (List.mem_filter.mp hr1).1
  exact hl.sub (less_sh g1 this) ((less_wi g1 this).trans g3)
theorem evs_bx {m l : List Nat} (hl : Bx 7 7 l) {n : Nat} {Ls : List (List Nat)} (L : Layer m l n Ls) (i : Nat) : ∀ e ∈ evs m l (Ls.take i), Bx 7 7 e.1 := by
  intro e he
  unfold evs at he
  obtain ⟨u, hu, he⟩ := List.mem_flatMap.mp he
  exact evu_bx hl L (List.mem_of_mem_take hu) (fun r hr => hr) e he
theorem acc_small {es : Evs} {al : AL} (A : Acc es al) (h : ∀ e ∈ es, Bx 7 7 e.1) : (dkv al).length ≤ 3432 := by
  unfold dkv
  rw [List.length_map]
  refine al_small A.nodup fun v hv => ?_
  obtain ⟨e, he, rfl⟩ := List.mem_map.mp (A.mem.mp hv)
  exact h e he
def WInv (H : Hp) (a b : Addr) (m l : List Nat) (k : Nat) (σ : L2.St) (H' : Hp) : Prop := ∃ n Ls bs al pf pl v4 v5 v6 v7, k + n = l.sum + 1 ∧ σ = [some (.ref a), some (.ref b), some (.ref pf), some (.ref pl), v4, v5, v6, v7] ∧ Same H H' ∧ H pf = none ∧ H' pf = some (.dT (dkv al)) ∧ H' pl = some (.lst (bs.map V.ref)) ∧ ShAll H' Ls bs ∧ Layer m l n Ls ∧ Fnd m l n al
section
variable {P : Program} {w : World} {K : PySem.W.Frag} {mg : Str → Option Value} {base : Heap} {f : Nat → Addr} {d : Nat → FuncData}

/-! ### ways_on -/
def spWays : Sp := fun vs H Q _ => ∃ (a b : Addr) (m l : List Nat), vs = [.ref a, .ref b] ∧ ShH H a m ∧ ShH H b l ∧ Bx 7 7 m ∧ Bx 7 7 l ∧ ∀ p H' al, H p = none → Same H H' → H' p = some (.dT (dkv al)) → Known m l al → Q (.ref p) H'
theorem sc35 : FnScope ["one", "other", "found", "layer", "fewer", "share", "row", "less"] ["one", "other"] (defScope S35) := ⟨rfl, rfl, rfl, by decide +kernel, rfl, by decide +kernel, by decide +kernel⟩
theorem ok35 (T : Txt K mg f d) : FnOk P w K mg base CX0 4 (f 35) (d 35) ["one", "other"] spWays := by
  refine T.ways_on.F.ok sc35 (fun vs H Q E h => ?_) (fun cdv A outer s H vs Q E hr h => ?_)
  · obtain ⟨a, b, m, l, rfl, _⟩ := h
    rfl
  obtain ⟨a, b, m, l, rfl, ha, hb, hm, hl, q⟩ := h
  refine ⟨_, pss_cons (ps_if (pt_not (pt_val (dcall T.lies_within (ok30 T) hr (pa_cons (pv 0) (pa_cons (pv 1) pa_nil))))) (pss_one (ps_ret pe_dnewT)) pss_nil)
    (pss_cons (ps_set (i := 2) sc35.nd rfl (Or.inl rfl) (pe_disp1 hr.units (pv 1) pe_int))
    (pss_cons (ps_set (i := 3) sc35.nd rfl (Or.inl rfl) (pe_lst (pa_cons (pv 1) pa_nil)))
    (pss_cons (ps_while PassesOwn.never (pt_cmpR (op_neD hr.units) (pv 3) (pe_lst pa_nil) (nomark _))
      (pss_cons (ps_set (i := 4) sc35.nd rfl (Or.inl rfl) pe_dnewT)
      (pss_cons (ps_for PassesOwn.never rfl (pi_list (pv 3)) (pg_name (i := 5) sc35.nd rfl (Or.inl rfl))
        (pss_one (ps_for PassesOwn.never rfl (pi_list (dcall T.out_rows (ok26 T) hr (pa_cons (pv 5) pa_nil))) (pg_name (i := 6) sc35.nd rfl (Or.inl rfl))
          (pss_cons (ps_set (i := 7) sc35.nd rfl (Or.inl rfl) (dcall T.taken_out (ok28 T) hr (pa_cons (pv 5) (pa_cons (pv 6) pa_nil))))
          (pss_one (ps_if (pt_val (dcall T.lies_within (ok30 T) hr (pa_cons (pv 0) (pa_cons (pv 7) pa_nil))))
            (pss_one (ps_dput (hu_of hr) (pv 4) (pv 7) (pe_op op_add (pe_dget2 (hu_of hr) (pv 4) (pv 7) pe_int ⟨rfl, rfl, rfl, rfl⟩) (pe_dget (hu_of hr) (pv 2) (pv 5) (fun _ _ => rfl))) rfl)) pss_nil))))))
      (pss_cons (ps_expr (pe_bm PySem.F.plainAttrs_dict PySem.F.slot_dict_update PySem.F.type_dict_update (mt_updT (hu_of hr)) (pv 2) (pa_cons (pv 4) pa_nil)))
      (pss_one (ps_set (i := 3) sc35.nd rfl (Or.inl rfl) (pe_callTy (call_list_dT rfl) (by rfl) T.b_list (by decide +kernel) (pa_cons (pv 4) pa_nil))))))))
    (pss_one (ps_ret (pv 2)))))), ?_⟩
  have hm1 : m.length ≤ 1000 := by have := hm.len; omega
  have hl1 : l.length ≤ 1000 := by have := hl.len; omega
  refine ⟨_, rfl, _, rfl, a, b, m, l, rfl, ha, hb, hm1, fun H1 s1 => ⟨wiB m l, rfl, ?_⟩⟩
  cases e : wiB m l with
  | false =>
    refine iteT fun p hp => q p _ [] ?_ (s1.trans (same_new hp _)) upd_same fun v hv => ?_
    · cases e2 : H p with
      | none => rfl
      | some o => rw [s1 _ _ e2] at hp; cases hp
    · show none = _
      rw [if_neg]
      rintro ⟨g1, g2⟩
      have := (wiB_iff hm.sh).mpr (((wiB_iff hm.sh).mp g1).trans ((wiB_iff hv).mp g2))
      rw [e] at this
      cases this
  | true =>
    have hw := (wiB_iff hm.sh).mp e
    refine iteF fun pf hpf => ⟨_, rfl, upd_same, b, kk l, .int 1, rfl, ?_, ?_⟩
    · exact key_sh ((s1.trans (same_new hpf _)) _ _ hb)
    have hHf : H pf = none := s1.free hpf
    have sf : Same H (upd (upd H1 pf (.dT [])) pf (.dT [(kk l, .int 1)])) := same_mut (s1.trans (same_new hpf _)) hHf
    refine ⟨_, rfl, (by show 1 ≤ sizeLine; decide), fun pl hpl => ?_⟩
    refine ⟨WInv H a b m l, ⟨l.sum + 1, 0, [l], [b], [(l, vN 1)], pf, pl, none, none, none, none, by omega, rfl, sf.trans (same_new hpl _), hHf, ?_, upd_same, .cons ((sf.trans (same_new hpl _)) _ _ hb) .nil, layer_zero hm.sh hl.sh hw, fnd_zero hm hl hw⟩, ?_⟩
    · rw [upd_ne (ne_of_none (by exact upd_same) hpl), upd_same]
      rfl
    rintro k σ H' ⟨n, Ls, bs, al, pf, pl, v4, v5, v6, v7, hk, rfl, s', hpf', hf', hl', sh', L, Fd⟩
    refine ⟨_, rfl, (by show 0 ≤ sizeLine; decide), fun pe hpe => ?_⟩
    have s2 : Same H' (upd H' pe (.lst [])) := same_new hpe _
    generalize hHw : upd H' pe (.lst []) = Hw at s2
    have sHw : Same H Hw := s'.trans s2
    have hfw := s2 _ _ hf'
    have hlw := s2 _ _ hl'
    have shw : ShAll Hw Ls bs := pmono sh' fun v c h => s2 _ _ h
    have hew : Hw pe = some (.lst []) := by rw [← hHw]; exact upd_same
    refine ⟨.list (Ls.map shD), .list [], .lst (SqL.of hlw) (dp_all shw), .lst (SqL.of hew) .nil, shaped_shs Ls, rfl, _, rfl, ?_⟩
    rw [eqv_nil]
    cases eL : Ls with
    | nil =>
      subst eL
      exact iteF ⟨_, rfl, q pf _ al hpf' sHw hfw (known_of hm hl L Fd)⟩
    | cons u0 Lt =>
      have hE : (!Ls.isEmpty) = true := by rw [eL]; rfl
      rw [← eL, hE]
      have hk1 : 1 ≤ k := by
        have := ((L.mem u0).mp (by rw [eL]; exact List.mem_cons_self)).2.2.2
        omega
      clear eL
      refine iteT ⟨WInv H a b m l (k - 1), fun σ' H'' h => ⟨k - 1, by omega, h⟩, ?_⟩
      refine fun pw hpw => ?_
      refine ⟨_, rfl, pl, rfl, ⟨_, SqL.of (same_new hpw _ _ _ hlw)⟩, ?_⟩
      refine for_it (walk_list (xs := bs.map V.ref)) (fun i σ H2 => ∃ al2 v5 v6 v7, σ = [some (.ref a), some (.ref b), some (.ref pf), some (.ref pl), some (.ref pw), v5, v6, v7] ∧ Same Hw H2 ∧ H2 pw = some (.dT (dkv al2)) ∧ Acc (evs m l (Ls.take i)) al2)
        ⟨[], v5, v6, v7, rfl, same_new hpw _, upd_same, .nil⟩ (fun i σ H2 _ p => by obtain ⟨_, _, _, _, _, s3, _⟩ := p; exact SqL.of (s3 _ _ hlw)) ?_ ?_
      · rintro i x σ H2 H2' hi ⟨al2, w5, w6, w7, rfl, s3, hw2, A⟩ ⟨rfl, hx⟩
        have hlen : i < Ls.length := by rw [plen shw]; simpa using hi
        obtain ⟨u, hu⟩ : ∃ u, Ls[i]? = some u := ⟨_, List.getElem?_eq_getElem hlen⟩
        obtain ⟨c, hc, shc⟩ := pget shw hu
        rw [List.getElem?_map, hc] at hx
        obtain rfl := Option.some.inj hx
        have huL : u ∈ Ls := List.mem_of_getElem? hu
        obtain ⟨u1, u2, u3, u4⟩ := (L.mem u).mp huL
        have hub : Bx 7 7 u := hl.sub u1 u3
        have hul : u.length ≤ 1000 := by have := hub.len; omega
        refine ⟨_, rfl, c, u, rfl, s3 _ _ shc, hul, fun po Ho hpo so ho => ⟨po, rfl, ⟨_, SqL.of ho⟩, ?_⟩⟩
        have nop : po ≠ pw := fun z => by rw [z, hw2] at hpo; cases hpo
        refine for_it walk_lv (fun j σ H4 => ∃ al3 v6 v7, σ = [some (.ref a), some (.ref b), some (.ref pf), some (.ref pl), some (.ref pw), some (.ref c), v6, v7] ∧ Same Hw H4 ∧ H4 po = some (.lst (tv (outRows u))) ∧ H4 pw = some (.dT (dkv al3)) ∧ Acc (evs m l (Ls.take i) ++ evu m l u ((outRows u).take j)) al3)
          ⟨al2, w6, w7, rfl, s3.trans so, ho, so _ _ hw2, by simpa [evu] using A⟩ (fun j σ H4 _ p => by obtain ⟨_, _, _, _, _, h, _⟩ := p; exact h) ?_ ?_
        · rintro j x σ H4 H4' hj ⟨al3, y6, y7, rfl, s4, hpo4, hw4, A4⟩ ⟨rfl, hx⟩
          obtain ⟨r, hr⟩ : ∃ r, (outRows u)[j]? = some r := ⟨_, List.getElem?_eq_getElem hj⟩
          obtain rfl := hx r hr
          have hro : r ∈ outRows u := List.mem_of_getElem? hr
          refine ⟨_, rfl, _, rfl, c, u, r, rfl, s4 _ _ shc, hul, hro, fun p3 H5 s5 h5 => ?_⟩
          refine ⟨_, rfl, _, rfl, a, p3, m, less u r, rfl, s5 _ _ (s4 _ _ (sHw _ _ ha)), h5, hm1, fun H6 s6 => ⟨wiB m (less u r), rfl, ?_⟩⟩
          have s46 := s4.trans (s5.trans s6)
          have hw6 := s6 _ _ (s5 _ _ hw4)
          have hpo6 := s6 _ _ (s5 _ _ hpo4)
          have ec := evu_take (m := m) (l := l) (u := u) hr
          cases e3 : wiB m (less u r) with
          | false =>
            refine iteF ⟨al3, _, _, rfl, s46, hpo6, hw6, ?_⟩
            rw [ec, e3, if_neg Bool.false_ne_true, List.append_nil]
            exact A4
          | true =>
            have g1 : DGet H6 pw (.ref p3) (valV al3 (less u r)) := by
              have := DGet.t hw6 (key_sh (s6 _ _ h5))
              rwa [dkv_val] at this
            have g2 : DGet H6 pf (.ref c) (some (vN (F u l))) := by
              have := DGet.t (s46 _ _ hfw) (key_sh (s46 _ _ shc))
              rw [dkv_val, Fd.val u u1, if_pos ⟨(wiB_iff hm.sh).mpr u2, (wiB_iff u1).mpr u3, by omega⟩] at this
              exact this
            refine iteT ⟨_, rfl, pw, rfl, .inr ⟨_, Rd.of hw6⟩, _, rfl, _, g1, _, rfl, _, rfl, pf, _, rfl, g2, _, _, A4.get _, rfl, ?_⟩
            have hsz : (dkv al3).length < sizeLine := by
              have := acc_small A4 fun e he => (List.mem_append.mp he).elim (evs_bx hl L i e) (evu_bx hl L huL (fun q hq => List.mem_of_mem_take hq) e)
              exact smallL (by omega)
            refine ⟨_, rfl, _, rfl, pw, _, rfl, DPut.t hw6 (key_sh (s6 _ _ h5)) hsz, ?_⟩
            refine ⟨putK al3 (less u r) (vN (tot (evs m l (Ls.take i) ++ evu m l u ((outRows u).take j)) (less u r) + F u l)), _, _, rfl, same_mut s46 hpw, ?_, ?_, ?_⟩
            · rw [upd_ne nop]; exact hpo6
            · rw [upd_same, dkv_put]
              rfl
            · rw [ec, e3, if_pos rfl, ← List.append_assoc]
              exact Acc.snoc (less u r, F u l) A4
        · rintro σ H4 ⟨al3, y6, y7, rfl, s4, hpo4, hw4, A4⟩
          refine ⟨al3, _, _, _, rfl, s4, hw4, ?_⟩
          rw [evs_take hu]
          rw [List.take_length] at A4
          exact A4
      · rintro σ H2 ⟨al2, w5, w6, w7, rfl, s3, hw2, A⟩
        rw [show (bs.map V.ref).length = Ls.length by rw [List.length_map, plen shw], List.take_length] at A
        have hne : dkv al ≠ [] := fun z => by
          have z2 : al = [] := by cases al with
            | nil => rfl
            | cons p al => cases z
          have := Fd.val l hl.sh
          rw [z2, if_pos ⟨(wiB_iff hm.sh).mpr hw, (wiB_iff hl.sh).mpr (wi.refl _), by omega⟩] at this
          cases this
        have nfw : pf ≠ pw := fun z => by rw [← z, hfw] at hpw; cases hpw
        have z1 : (dkv al).length ≤ 3432 := by unfold dkv; rw [List.length_map]; exact al_small Fd.nd Fd.bx
        have z2 : (dkv al2).length ≤ 3432 := acc_small A fun e he => evs_bx hl L Ls.length e (by rw [List.take_length]; exact he)
        refine ⟨_, rfl, .inr (.inr (.inl ⟨rfl, .inr ⟨_, s3 _ _ hfw⟩⟩)), _, rfl, pf, pw, dkv al, dkv al2, rfl, rfl, nfw, s3 _ _ hfw, hw2, hne, small (by omega), ?_⟩
        refine ⟨_, rfl, pw, dkv al2, rfl, Rd.of (by rw [upd_ne (Ne.symm nfw)]; exact hw2), fun p3 bs3 hp3 ks3 => ?_⟩
        obtain ⟨F2, L2'⟩ := fnd_succ hm hl L Fd A
        rw [dkv_merge] at hp3 ⊢
        have n3 : pf ≠ p3 := fun z => by rw [← z, upd_same] at hp3; cases hp3
        refine ⟨n + 1, _, bs3, mergeV al al2, pf, p3, _, _, _, _, by omega, rfl, (same_mut (sHw.trans s3) hpf').trans (same_new hp3 _), hpf', ?_, upd_same, ?_, L2', F2⟩
        · rw [upd_ne n3, upd_same]
        · refine pmono (shAll_keys ks3) fun v c h => ?_
          rw [dkv_merge] at h
          exact same_new hp3 _ _ _ h
end
end GW
namespace GW
open PySem PySem.Spec PyProof.Rows L2 GR GS
section
variable {P : Program} {w : World} {K : PySem.W.Frag} {mg : Str → Option Value} {base : Heap} {f : Nat → Addr} {d : Nat → FuncData}

def spChains : Sp := fun vs H Q _ => ∃ (a b : Addr) (m l : List Nat), vs = [.ref a, .ref b] ∧ ShH H a m ∧ ShH H b l ∧ Bx 7 7 m ∧ Bx 7 7 l ∧ ∀ H', Same H H' → Q (vN (F m l)) H'
theorem sc36 : FnScope ["one", "other"] ["one", "other"] (defScope S36) := ⟨rfl, rfl, rfl, by decide +kernel, rfl, by decide +kernel, by decide +kernel⟩
theorem known_at {m l v : List Nat} (hm : Bx 7 7 m) (hl : Bx 7 7 l) {al : AL} (k : Known m l al) : (valV al m).getD (.int 0) = vN (F m l) := by
  rw [k m hm.sh]
  by_cases c : wi m l
  · rw [if_pos ⟨(wiB_iff hm.sh).mpr (wi.refl _), (wiB_iff hm.sh).mpr c⟩]
    rfl
  · rw [if_neg fun z => c ((wiB_iff hm.sh).mp z.2), F_not hm c]
    rfl
theorem ok36 (T : Txt K mg f d) : FnOk P w K mg base CX0 5 (f 36) (d 36) ["one", "other"] spChains := by
  refine T.chains_between.F.ok sc36 (fun vs H Q E h => ?_) (fun cdv A outer s H vs Q E hr h => ?_)
  · obtain ⟨a, b, m, l, rfl, _⟩ := h
    rfl
  obtain ⟨a, b, m, l, rfl, ha, hb, hm, hl, q⟩ := h
  refine ⟨_, pss_one (ps_ret (pe_dget2 (hu_of hr) (dcall T.ways_on (ok35 T) hr (pa_cons (pv 0) (pa_cons (pv 1) pa_nil))) (pv 0) pe_int ⟨rfl, rfl, rfl, rfl⟩)), ?_⟩
  refine ⟨_, rfl, _, rfl, a, b, m, l, rfl, ha, hb, hm, hl, fun p H1 al hp s1 h1 k => ?_⟩
  refine ⟨p, rfl, .inr ⟨_, Rd.of h1⟩, _, rfl, _, DGet.t h1 (key_sh (s1 _ _ ha)), ?_⟩
  rw [dkv_val, known_at (v := []) hm hl k]
  exact q H1 s1
/-! ### cells_in -/
def spCells : Sp := fun vs H Q _ => ∃ (a : Addr) (l : List Nat), vs = [.ref a] ∧ ShH H a l ∧ l.length ≤ 1000 ∧ Q (vN l.sum) H
theorem sc13 : FnScope ["share"] ["share"] (defScope S13) := ⟨rfl, rfl, rfl, by decide +kernel, rfl, by decide +kernel, by decide +kernel⟩
theorem ok13 (T : Txt K mg f d) : FnOk P w K mg base CX0 1 (f 13) (d 13) ["share"] spCells := by
  refine T.cells_in.F.ok sc13 (fun vs H Q E h => ?_) (fun cdv A outer s H vs Q E hr h => ?_)
  · obtain ⟨a, l, rfl, _⟩ := h
    rfl
  obtain ⟨a, l, rfl, ha, hl, q⟩ := h
  refine ⟨_, pss_one (ps_ret (pe_callB (cr_sumT rfl) (by rfl) T.b_sum (by decide +kernel) (pa_cons (pv 0) pa_nil))), ?_⟩
  refine ⟨_, rfl, a, l.map fun n : Nat => (n : Int), rfl, SqT.of (by rw [← tv_int]; exact ha), ?_⟩
  rw [← sum_cast l fun n => n, List.map_id']
  exact q
end
end GW
namespace GW
open PySem PySem.Spec PyProof.Rows L2 GR GS
theorem eqv_sh : ∀ u v : List Nat, PyData.eqv (shD u) (shD v) = decide (u = v)
  | [], [] => by simp [shD, PyData.eqv, PyData.eqvAll]
  | [], y :: v => by simp [shD, PyData.eqv, PyData.eqvAll]
  | x :: u, [] => by simp [shD, PyData.eqv, PyData.eqvAll]
  | x :: u, y :: v => by
    have ih := eqv_sh u v
    simp only [shD, PyData.eqv] at ih
    simp only [shD, PyData.eqv, PyData.eqvAll, List.map_cons, ih]
    by_cases c : x = y
    · subst c
      simp
    · have : ¬ (x : Int) = (y : Int) := by omega
      simp [c, this]
/-- a chain of rows on from a share to l -/
inductive Chn (l : List Nat) : List Nat → List Nat → Prop where
  | nil : Chn l l []
  | cons {m : List Nat} {r : Nat} {rs : List Nat} (h : r ∈ inRows m) (w : wi (more m r) l) (t : Chn l (more m r) rs) : Chn l m (r :: rs)
theorem Chn.sum {l m rs : List Nat} (c : Chn l m rs) : m.sum + rs.length = l.sum := by
  induction c with
  | nil => simp
  | cons h w t ih =>
    have := more_sum (mem_inRows.mp h).1
    rw [List.length_cons]
    omega
theorem Chn.bx {l m rs : List Nat} (hl : Bx 7 7 l) (hm : Bx 7 7 m) {r : Nat} (h : r ∈ inRows m) (w : wi (more m r) l) : Bx 7 7 (more m r) := hl.sub (more_sh hm.sh h) w
theorem bx_sum {l : List Nat} (h : Bx 7 7 l) : l.sum ≤ 49 := by
  have key : ∀ l : List Nat, (∀ i, row l i ≤ 7) → l.sum ≤ 7 * l.length := by
    intro l
    induction l with
    | nil => intro _; simp
    | cons x l ih =>
      intro h
      have h0 := h 0
      have h1 := ih fun i => by have := h (i + 1); rwa [row_succ] at this
      rw [row_zero] at h0
      rw [List.sum_cons, List.length_cons]
      omega
  have := key l h.wide
  have := h.len
  omega
section
variable {P : Program} {w : World} {K : PySem.W.Frag} {mg : Str → Option Value} {base : Heap} {f : Nat → Addr} {d : Nat → FuncData}

/-! ### chain_shares, is_chain, need_chain -/
def spRun : Sp := fun vs H Q _ => ∃ (a p : Addr) (m l rs : List Nat), vs = [.ref a, .ref p] ∧ ShH H a m ∧ H p = some (.lst (tv rs)) ∧ Bx 7 7 m ∧ Bx 7 7 l ∧ Chn l m rs ∧ ∀ (p2 : Addr) (H' : Hp) (bs : List V) (c : Addr), Same H H' → H' p2 = some (.lst (bs ++ [.ref c])) → ShH H' c l → Q (.ref p2) H'
theorem sc32 : FnScope ["one", "rows", "found", "row"] ["one", "rows"] (defScope S32) := ⟨rfl, rfl, rfl, by decide +kernel, rfl, by decide +kernel, by decide +kernel⟩
theorem ok32 (T : Txt K mg f d) : FnOk P w K mg base CX0 4 (f 32) (d 32) ["one", "rows"] spRun := by
  refine T.chain_shares.F.ok sc32 (fun vs H Q E h => ?_) (fun cdv A outer s H vs Q E hr h => ?_)
  · obtain ⟨a, p, m, l, rs, rfl, _⟩ := h
    rfl
  obtain ⟨a, p, m, l, rs, rfl, ha, hp, hm, hl, ch, q⟩ := h
  refine ⟨_, pss_cons (ps_set (i := 2) sc32.nd rfl (Or.inl rfl) (pe_lst (pa_cons (pv 0) pa_nil)))
    (pss_cons (ps_for PassesOwn.never rfl (pi_list (pv 1)) (pg_name (i := 3) sc32.nd rfl (Or.inl rfl))
      (pss_cons (ps_if (PW.pt (pw_or (pt_not (pt_val (dcall T.is_whole (ok11 T) hr (pa_cons (pv 3) pa_nil)))) (pw_or1 (pt_cmpR op_notIn_seq (pv 3) (dcall T.in_rows (ok25 T) hr (pa_cons (pe_ix ix_list (pv 2) (pe_un un_neg pe_int) (fun _ _ => rfl)) pa_nil)) (by rfl))))) (pss_one ps_never) pss_nil)
        (pss_one (ps_app (pv 2) (dcall T.put_in (ok27 T) hr (pa_cons (pe_ix ix_list (pv 2) (pe_un un_neg pe_int) (fun _ _ => rfl)) (pa_cons (pv 3) pa_nil)))))))
    (pss_one (ps_ret (pv 2)))), ?_⟩
  have hb := bx_sum hl
  have hsum := ch.sum
  refine ⟨_, rfl, (by show 1 ≤ sizeLine; decide), fun pf hpf => ?_⟩
  refine ⟨_, rfl, p, rfl, ⟨_, SqL.of (same_new hpf _ _ _ hp)⟩, ?_⟩
  refine for_it walk_lv (fun i σ H2 => ∃ (bs : List V) (c : Addr) (u : List Nat) (v3 : Option V), σ = [some (.ref a), some (.ref p), some (.ref pf), v3] ∧ Same H H2 ∧ H2 pf = some (.lst (bs ++ [.ref c])) ∧ bs.length = i ∧ ShH H2 c u ∧ Bx 7 7 u ∧ Chn l u (rs.drop i))
    ⟨[], a, m, none, rfl, same_new hpf _, upd_same, rfl, same_new hpf _ _ _ ha, hm, by rw [List.drop_zero]; exact ch⟩ (fun i σ H2 _ z => by obtain ⟨_, _, _, _, _, s1, _⟩ := z; exact s1 _ _ hp) ?_ ?_
  · rintro i x σ H2 H2' hi ⟨bs, c, u, v3, rfl, s2, hf2, hbs, hc, hu, cu⟩ ⟨rfl, hx⟩
    obtain ⟨r, hr2⟩ : ∃ r, rs[i]? = some r := ⟨_, List.getElem?_eq_getElem hi⟩
    obtain rfl := hx r hr2
    have ed : rs.drop i = r :: rs.drop (i + 1) := by
      rw [List.drop_eq_getElem_cons hi]
      rw [List.getElem?_eq_getElem hi] at hr2
      rw [Option.some.inj hr2]
    rw [ed] at cu
    cases cu with
    | cons hin hw ht =>
      have hul : u.length ≤ 1000 := by have := hu.len; omega
      refine ⟨_, rfl, (r : Int), rfl, true, rfl, ?_⟩
      refine iteF ⟨_, rfl, _, rfl, _, rfl, pf, _, _, _, rfl, rfl, SqL.of hf2, atI_last _ _, c, u, rfl, hc, hul, fun p3 H3 hp3 s3 h3 => ⟨p3, _, rfl, .inl (SqL.of h3), rfl, flat_tv _, _, rfl, ?_⟩⟩
      have e : (if true = true then !inV (vN r) (tv (inRows u)) else inV (vN r) (tv (inRows u))) = false := by
        rw [if_pos rfl, inV_tv, decide_eq_true hin]
        rfl
      rw [e]
      have hf3 := s3 _ _ hf2
      refine iteF ⟨_, rfl, .inl ⟨rfl, _, SqL.of hf3⟩, _, rfl, _, rfl, pf, _, _, _, rfl, rfl, SqL.of hf3, atI_last _ _, _, rfl, c, u, r, rfl, s3 _ _ hc, hul, hin, fun p4 H4 s4 h4 => ?_⟩
      have hf4 := s4 _ _ hf3
      refine ⟨pf, _, _, rfl, rfl, hf4, (by rw [List.length_append, List.length_singleton, hbs]; exact smallL (by omega)), bs ++ [.ref c], p4, more u r, _, rfl, same_mut ((s2.trans s3).trans s4) hpf, upd_same, by rw [List.length_append, List.length_singleton, hbs], ?_, Chn.bx (rs := rs) hl hu hin hw, ht⟩
      have : p4 ≠ pf := fun z => by
        have h4' : H4 p4 = some (.tup (tv (more u r))) := h4
        rw [z, hf4] at h4'
        cases h4'
      show upd _ _ _ _ = _
      rw [upd_ne this]
      exact h4
  · rintro σ H2 ⟨bs, c, u, v3, rfl, s2, hf2, hbs, hc, hu, cu⟩
    rw [List.drop_length] at cu
    cases cu
    exact ⟨_, rfl, q pf H2 bs c s2 hf2 hc⟩
def spIsChain : Sp := fun vs H Q _ => ∃ (a b p : Addr) (m l rs : List Nat), vs = [.ref a, .ref b, .ref p] ∧ ShH H a m ∧ ShH H b l ∧ H p = some (.lst (tv rs)) ∧ Bx 7 7 m ∧ Bx 7 7 l ∧ Chn l m rs ∧ ∀ H', Same H H' → Q (.bl true) H'
theorem sc33 : FnScope ["one", "other", "thing", "shares"] ["one", "other", "thing"] (defScope S33) := ⟨rfl, rfl, rfl, by decide +kernel, rfl, by decide +kernel, by decide +kernel⟩
theorem ok33 (T : Txt K mg f d) : FnOk P w K mg base CX0 5 (f 33) (d 33) ["one", "other", "thing"] spIsChain := by
  refine T.is_chain.F.ok sc33 (fun vs H Q E h => ?_) (fun cdv A outer s H vs Q E hr h => ?_)
  · obtain ⟨a, b, p, m, l, rs, rfl, _⟩ := h
    rfl
  obtain ⟨a, b, p, m, l, rs, rfl, ha, hb, hp, hm, hl, ch, q⟩ := h
  refine ⟨_, pss_cons (ps_if (pt_not (pt_val (pe_callB call_isi (by rfl) T.b_isinstance (by decide +kernel) (pa_cons (pv 2) (pa_cons (pe_bltn (v := .ty "list") (by rfl) T.b_list (by decide +kernel) rfl) pa_nil))))) (pss_one (ps_ret pe_bl)) pss_nil)
    (pss_cons (ps_set (i := 3) sc33.nd rfl (Or.inl rfl) (dcall T.chain_shares (ok32 T) hr (pa_cons (pv 0) (pa_cons (pv 2) pa_nil))))
    (pss_one (ps_ret (pe_and (pe_cmp (pc_notN (pv 3))) (pe_one (pe_cmpR (op_eqD hr.units) (pe_ix ix_list (pv 3) (pe_un un_neg pe_int) (fun _ _ => rfl)) (pv 1) (nomark _))))))), ?_⟩
  refine ⟨_, rfl, _, _, _, _, true, rfl, .ty "list", .base (.lst hp), kit_ty (by decide +kernel), true, rfl, ?_⟩
  refine iteF ⟨_, rfl, _, rfl, a, p, m, l, rs, rfl, ha, hp, hm, hl, ch, fun p2 H2 bs c s2 h2 hc => ?_⟩
  refine ⟨_, rfl, true, rfl, iteT ⟨_, rfl, _, rfl, _, _, _, _, rfl, rfl, SqL.of h2, atI_last _ _, _, rfl, shD l, shD l, dp_sh hc, dp_sh (s2 _ _ hb), shaped_sh l, shaped_sh l, ?_⟩⟩
  rw [eqv_sh, decide_eq_true rfl]
  exact q H2 s2
def spNeedChain : Sp := fun vs H Q _ => ∃ (a b p : Addr) (m l rs : List Nat), vs = [.ref a, .ref b, .ref p] ∧ ShH H a m ∧ ShH H b l ∧ H p = some (.lst (tv rs)) ∧ Bx 7 7 m ∧ Bx 7 7 l ∧ Chn l m rs ∧ ∀ H', Same H H' → Q .non H'
theorem sc34 : FnScope ["one", "other", "thing"] ["one", "other", "thing"] (defScope S34) := ⟨rfl, rfl, rfl, by decide +kernel, rfl, by decide +kernel, by decide +kernel⟩
theorem ok34 (T : Txt K mg f d) : FnOk P w K mg base CX0 6 (f 34) (d 34) ["one", "other", "thing"] spNeedChain := by
  refine T.need_chain.F.ok sc34 (fun vs H Q E h => ?_) (fun cdv A outer s H vs Q E hr h => ?_)
  · obtain ⟨a, b, p, m, l, rs, rfl, _⟩ := h
    rfl
  obtain ⟨a, b, p, m, l, rs, rfl, ha, hb, hp, hm, hl, ch, q⟩ := h
  refine ⟨_, pss_one (ps_if (pt_not (pt_val (dcall T.is_chain (ok33 T) hr (pa_cons (pv 0) (pa_cons (pv 1) (pa_cons (pv 2) pa_nil)))))) (pss_one ps_never) pss_nil), ?_⟩
  exact ⟨_, rfl, _, rfl, _, rfl, a, b, p, m, l, rs, rfl, ha, hb, hp, hm, hl, ch, fun H1 s1 => ⟨true, rfl, iteF (q H1 s1)⟩⟩
end
end GW
namespace GW
open PySem PySem.Spec PyProof.Rows L2 GR GS
/-! ### the steps on from a share, places of chains -/
def stp (l u : List Nat) : List Nat := (inRows u).filter fun r => wiB (more u r) l
theorem stp_sorted (l u : List Nat) : (stp l u).Pairwise (· < ·) := by
  unfold stp inRows
  exact (List.pairwise_lt_range.filter _).filter _
theorem take_filter : ∀ {s : List Nat} {i r : Nat}, s.Pairwise (· < ·) → s[i]? = some r → s.filter (fun q => decide (q < r)) = s.take i
  | [], i, r, _, h => by simp at h
  | x :: s, 0, r, hp, h => by
    simp at h
    subst h
    rw [List.take_zero, List.filter_eq_nil_iff]
    intro q hq
    rw [List.pairwise_cons] at hp
    rcases List.mem_cons.mp hq with rfl | hq
    · simp
    · have := hp.1 q hq
      simp
      omega
  | x :: s, i + 1, r, hp, h => by
    rw [List.pairwise_cons] at hp
    have h' : s[i]? = some r := by simpa using h
    have := hp.1 r (List.mem_of_getElem? h')
    rw [List.filter_cons, if_pos (by simpa using this), take_filter hp.2 h', List.take_succ_cons]
/-- how many chains lead on by the steps ahead of a row -/
def fore (l u : List Nat) (r : Nat) : Nat := (((stp l u).filter fun q => decide (q < r)).map fun q => F (more u q) l).sum
def plc (l : List Nat) : List Nat → List Nat → Nat
  | _, [] => 0
  | u, r :: rs => fore l u r + plc l (more u r) rs

/-- the steps at qs -/
abbrev StAll (H : Hp) (u : List Nat) (rs : List Nat) (qs : List Addr) : Prop := Paired (fun r q => ∃ c, H q = some (.tup [vN r, .ref c]) ∧ ShH H c (more u r)) rs qs
def StV (u : List Nat) (r : Nat) (v : V) (H : Hp) : Prop := ∃ q c, v = .ref q ∧ H q = some (.tup [vN r, .ref c]) ∧ ShH H c (more u r)
theorem StV.keep {u : List Nat} {r : Nat} {v : V} {H H' : Hp} {D : Addr} {acc : List V} (hD : H D = some (.lst acc)) (k : ∀ b o, b ≠ D → H b = some o → H' b = some o) (h : StV u r v H) : StV u r v H' := by
  obtain ⟨q, c, e, h1, h2⟩ := h
  refine ⟨q, c, e, k _ _ (fun z => ?_) h1, k _ _ (fun z => ?_) h2⟩
  · rw [z, hD] at h1; cases h1
  · have h2' : H c = some (.tup (tv (more u r))) := h2
    rw [z, hD] at h2'; cases h2'
theorem StV.same {u : List Nat} {r : Nat} {v : V} {H H' : Hp} (s : Same H H') (h : StV u r v H) : StV u r v H' := by
  obtain ⟨q, c, e, h1, h2⟩ := h
  exact ⟨q, c, e, s _ _ h1, s _ _ h2⟩
theorem stv_all {H : Hp} {u : List Nat} : ∀ {rs : List Nat} {vs : List V}, Paired (fun r v => StV u r v H) rs vs → ∃ qs : List Addr, vs = qs.map V.ref ∧ StAll H u rs qs
  | _, _, .nil => ⟨[], rfl, .nil⟩
  | _, _, .cons h t => by
    obtain ⟨q, c, e, h1, h2⟩ := h
    obtain ⟨qs, e2, h3⟩ := stv_all t
    exact ⟨q :: qs, by rw [e, e2]; rfl, .cons ⟨c, h1, h2⟩ h3⟩
theorem stAll_same {H H' : Hp} {u : List Nat} {rs : List Nat} {qs : List Addr} (s : Same H H') (h : StAll H u rs qs) : StAll H' u rs qs := pmono h fun r q ⟨c, h1, h2⟩ => ⟨c, s _ _ h1, s _ _ h2⟩
section
variable {P : Program} {w : World} {K : PySem.W.Frag} {mg : Str → Option Value} {base : Heap} {f : Nat → Addr} {d : Nat → FuncData}

def spSteps : Sp := fun vs H Q _ => ∃ (a k : Addr) (m l u : List Nat) (al : AL), vs = [.ref a, .ref k] ∧ ShH H a u ∧ H k = some (.dT (dkv al)) ∧ Known m l al ∧ Bx 7 7 m ∧ Bx 7 7 u ∧ wi m u ∧
  ∀ p H' qs, H p = none → Same H H' → H' p = some (.lst (qs.map V.ref)) → StAll H' u (stp l u) qs → Q (.ref p) H'
theorem sc48 : FnScope ["share", "known", "found", "row", "more"] ["share", "known"] (defScope S48) := ⟨rfl, rfl, rfl, by decide +kernel, rfl, by decide +kernel, by decide +kernel⟩
theorem ok48 (T : Txt K mg f d) : FnOk P w K mg base CX0 4 (f 48) (d 48) ["share", "known"] spSteps := by
  refine T.steps_on.F.ok sc48 (fun vs H Q E h => ?_) (fun cdv A outer s H vs Q E hr h => ?_)
  · obtain ⟨a, k, m, l, u, al, rfl, _⟩ := h
    rfl
  obtain ⟨a, k, m, l, u, al, rfl, ha, hk, kn, hm, hu, hw, q⟩ := h
  refine ⟨_, pss_cons (ps_setLc (i := 2) (own := [("row", 3)]) (g := gName 3) (by rfl) sc48.nd rfl rfl (sw_true rfl rfl rfl (by decide +kernel)) (pi_list (dcall T.in_rows (ok25 T) hr (pa_cons (pv 0) pa_nil))) (blkOk_by (N := ["share", "known", "found", "row", "more"]) (sc := defScope S48) (by decide +kernel))
      (fun _ _ _ _ _ => pg_name (i := 3) sc48.nd rfl (Or.inl rfl)) (fun _ _ _ _ _ => pts_nil) (fun _ _ _ _ _ => pe_tup (pa_cons (pv 3) (pa_cons (dcall T.put_in (ok27 T) hr (pa_cons (pv 0) (pa_cons (pv 3) pa_nil))) pa_nil))))
    (pss_one (ps_ret (pe_lc (own := [("row", 3), ("more", 4)]) (g := gTup K 2 (gCons (gName 3) (gCons (gName 4) gNil))) rfl sc48.nd (pi_list (pv 2)) (blkOk_by (N := ["share", "known", "found", "row", "more"]) (sc := defScope S48) (by decide +kernel))
      (fun _ _ _ _ _ => pg_tup rfl (pgs_cons (pg_name (i := 3) sc48.nd rfl (Or.inl rfl)) (pgs_cons (pg_name (i := 4) sc48.nd rfl (Or.inl rfl)) pgs_nil))) (fun _ _ _ _ _ => pts_one (pt_cmp (pc_din (hu_of hr) (pv 4) (pv 1))))
      (fun _ _ _ _ _ => pe_tup (pa_cons (pv 3) (pa_cons (pv 4) pa_nil)))))), ?_⟩
  have hul : u.length ≤ 1000 := by have := hu.len; omega
  have hil : (inRows u).length ≤ 1000 := by
    have : (inRows u).length ≤ min (u.length + 1) 20 := by
      unfold inRows
      refine Nat.le_trans (List.length_filter_le _ _) ?_
      rw [List.length_range]
      exact Nat.le_refl _
    omega
  refine ⟨_, rfl, a, u, rfl, ha, hul, fun p0 H0 hp0 s0 h0 => ⟨p0, rfl, ⟨_, SqL.of h0⟩, fun D hD => ?_⟩⟩
  refine lc_pure (src := inRows u) walk_lv hD (fun _ => true) (StV u) (smallL (by omega)) (fun r v H H' acc hD k h => h.keep hD k) (fun H' s' => s' _ _ h0) ?_ ?_
  · rintro i r hr2 H2 x H' acc s2 hacc ⟨rfl, hx⟩ A B h1 _
    obtain rfl := hx r hr2
    refine ⟨rfl, yes ⟨_, rfl, _, rfl, _, rfl, a, u, r, rfl, s2 _ _ (s0 _ _ ha), hul, List.mem_of_getElem? hr2, fun p3 H3 s3 h3 => ⟨(by show 2 ≤ sizeLine; decide), fun p4 hp4 => ?_⟩⟩⟩
    exact h1 rfl _ _ (s3.trans (same_new hp4 _)) ⟨p4, p3, rfl, upd_same, same_new hp4 _ _ _ h3⟩
  intro acc H1 s1 hacc hp1
  rw [filter_true] at hp1
  obtain ⟨qs1, rfl, st1⟩ := stv_all hp1
  refine ⟨_, rfl, D, rfl, ⟨_, SqL.of hacc⟩, fun D2 hD2 => ?_⟩
  have sH1 : Same H H1 := s0.trans s1
  have elen : (inRows u).length = (qs1.map V.ref).length := by rw [List.length_map]; exact plen st1
  have w2 : Walk (Itl K D) (inRows u).length (fun H => SqL K H D (qs1.map V.ref)) (YAt (qs1.map V.ref)) := by
    rw [elen]
    exact walk_list
  refine lc_pure (src := inRows u) w2 hD2 (fun r => wiB (more u r) l) (StV u) (smallL (by omega)) (fun r v H H' acc hD k h => h.keep hD k) (fun H' s' => SqL.of (s' _ _ hacc)) ?_ ?_
  · rintro i r hr2 H2 x H' acc2 s2 hacc2 ⟨rfl, hx⟩ A B h1 h2
    obtain ⟨q1, hq1, c, hc1, hc2⟩ := pget st1 hr2
    rw [List.getElem?_map, hq1] at hx
    obtain rfl := Option.some.inj hx
    have hin : r ∈ inRows u := List.mem_of_getElem? hr2
    have hms := more_sh hu.sh hin
    have g1 : DGet H' k (.ref c) (valV al (more u r)) := by
      have := DGet.t (s2 _ _ (sH1 _ _ hk)) (key_sh (s2 _ _ hc2))
      rwa [dkv_val] at this
    refine ⟨q1, _, rfl, SqT.of (s2 _ _ hc1), rfl, _, _, rfl, _, _, rfl, rfl, rfl, _, rfl, _, rfl, k, _, rfl, g1, _, rfl, ?_⟩
    rw [kn _ hms]
    have hmm : wiB m (more u r) = true := (wiB_iff hm.sh).mpr (hw.trans (more_wi hin))
    by_cases c3 : wiB (more u r) l = true
    · rw [if_pos ⟨hmm, c3⟩]
      refine iteT ⟨_, rfl, _, rfl, (by show 2 ≤ sizeLine; decide), fun p4 hp4 => ?_⟩
      exact h1 c3 _ _ (same_new hp4 _) ⟨p4, c, rfl, upd_same, same_new hp4 _ _ _ (s2 _ _ hc2)⟩
    · rw [if_neg fun z => c3 z.2]
      exact iteF (h2 (by simpa using c3) _ (Same.refl _))
  · intro acc2 H3 s3 hacc2 hp2
    obtain ⟨qs2, rfl, st2⟩ := stv_all hp2
    have n2 : H D2 = none := sH1.free (by cases e : H1 D2 with
      | none => rfl
      | some o => exact absurd e (by rw [hD2]; exact fun z => nomatch z))
    exact q D2 H3 qs2 n2 (sH1.trans s3) hacc2 st2
end
end GW
namespace GW
open PySem PySem.Spec PyProof.Rows L2 GR GS
/-- what the written part says of NoNumber, at C -/
structure NoN (K : PySem.W.Frag) (mg : Str → Option Value) (C : Addr) : Prop where
  gF : mg "NoNumber" = some (.ref C)
  xF : PySem.W.excIn K C [.type "ValueError", .type "Exception", .type "BaseException", .type "object"] "ValueError.__new__" = true
  kF : PySem.W.keepIn K (.ref C) = true
  bF : PySem.W.subIn K (.ref C) (.type "BaseException") = some true
  tF : PySem.W.typeIn K (.ref C) = some (.type "type")
  te : PySem.W.exmOne K (.ref C) (.ref C) = some true
theorem sub_v {x y : Nat} (h : y ≤ x) : V.int ((x : Int) - (y : Int)) = vN (x - y) := by
  show V.int _ = V.int _
  congr 1
  omega
theorem add_v {x y : Nat} : V.int ((x : Int) + (y : Int)) = vN (x + y) := by
  show V.int _ = V.int _
  congr 1
theorem mul_v {x y : Nat} : V.int ((x : Int) * (y : Int)) = vN (x * y) := by
  show V.int _ = V.int _
  congr 1
theorem fore_at {l u : List Nat} {i r : Nat} (h : (stp l u)[i]? = some r) : fore l u r = (((stp l u).take i).map fun q => F (more u q) l).sum := by
  unfold fore
  rw [take_filter (stp_sorted l u) h]
theorem stp_get {l u : List Nat} {i r : Nat} (hu : Bx 7 7 u) (hl : Bx 7 7 l) (h : (stp l u)[i]? = some r) : r ∈ inRows u ∧ wi (more u r) l ∧ Bx 7 7 (more u r) := by
  have h1 := List.mem_of_getElem? h
  unfold stp at h1
  obtain ⟨h2, h3⟩ := List.mem_filter.mp h1
  have hs := more_sh hu.sh h2
  have hw := (wiB_iff hs).mp h3
  exact ⟨h2, hw, hl.sub hs hw⟩
theorem stp_len {l u : List Nat} (hu : Bx 7 7 u) : (stp l u).length ≤ 20 := by
  unfold stp inRows
  refine Nat.le_trans (List.length_filter_le _ _) (Nat.le_trans (List.length_filter_le _ _) ?_)
  rw [List.length_range]
  omega
def CInv (H1 : Hp) (a b pk pf : Addr) (m l : List Nat) (n : Nat) (k : Nat) (σ : L2.St) (H' : Hp) : Prop := ∃ u c y rs v6 v7, k + u.sum = l.sum ∧ σ = [some (.ref a), some (.ref b), some (vN y), some (.ref pk), some (.ref pf), some (.ref c), v6, v7] ∧ Same H1 H' ∧ H' pf = some (.lst (tv rs)) ∧ ShH H' c u ∧ Bx 7 7 u ∧ wi m u ∧ wi u l ∧ y < F u l ∧ rs.length + m.sum = u.sum ∧
  ∀ ts, Chn l u ts → plc l u ts = y → Chn l m (rs ++ ts) ∧ plc l m (rs ++ ts) = n
section
variable {P : Program} {w : World} {K : PySem.W.Frag} {mg : Str → Option Value} {base : Heap} {f : Nat → Addr} {d : Nat → FuncData}

def spAt (C : Addr) : Sp := fun vs H Q E => ∃ (a b : Addr) (m l : List Nat) (n : Nat), vs = [.ref a, .ref b, vN n] ∧ ShH H a m ∧ ShH H b l ∧ Bx 7 7 m ∧ Bx 7 7 l ∧ wi m l ∧
  (n < F m l → ∀ p H' rs, H p = none → Same H H' → H' p = some (.lst (tv rs)) → Chn l m rs → plc l m rs = n → Q (.ref p) H') ∧ (F m l ≤ n → ∀ H', Same H H' → E (.ref C) none H')
theorem sc49 : FnScope ["one", "other", "number", "known", "found", "share", "row", "more"] ["one", "other", "number"] (defScope S49) := ⟨rfl, rfl, rfl, by decide +kernel, rfl, by decide +kernel, by decide +kernel⟩
theorem ok49 {C : Addr} (T : Txt K mg f d) (N : NoN K mg C) : FnOk P w K mg base (L2.CX P w) 5 (f 49) (d 49) ["one", "other", "number"] (spAt C) := by
  refine T.chain_at.F.okX sc49 (fun vs H Q E h => ?_) (fun cdv A outer s H vs Q E hr h => ?_)
  · obtain ⟨a, b, m, l, n, rfl, _⟩ := h
    rfl
  obtain ⟨a, b, m, l, n, rfl, ha, hb, hm, hl, hw, q, qe⟩ := h
  refine ⟨_, pss_cons (ps_set (i := 3) sc49.nd rfl (Or.inl rfl) (dcall T.ways_on (ok35 T) hr (pa_cons (pv 0) (pa_cons (pv 1) pa_nil))))
    (pss_cons (ps_if (PW.pt (pw_or (pt_not (pt_val (dcall T.is_whole (ok11 T) hr (pa_cons (pv 2) pa_nil)))) (pw_or1 (pt_not (pt_chain op_le op_lt pe_int (pv 2) (pe_dget2 (hu_of hr) (pv 3) (pv 0) pe_int ⟨rfl, rfl, rfl, rfl⟩))))))
      (pss_one (ps_raise rfl (takes_of rfl rfl rfl rfl) (pmk_own PySem.F.excBase_ValueError N.xF N.gF N.kF (raises_own N.bF N.tF) (by exact rfl)))) pss_nil)
    (PSs.nox (pss_cons (ps_set (i := 4) sc49.nd rfl (Or.inl rfl) (pe_lst pa_nil))
    (pss_cons (ps_set (i := 5) sc49.nd rfl (Or.inl rfl) (pv 0))
    (pss_cons (ps_while PassesOwn.never (pt_cmpR (op_neD hr.units) (pv 5) (pv 1) (nomark _))
      (pss_cons (ps_for PassesOwn.never rfl (pi_list (dcall T.steps_on (ok48 T) hr (pa_cons (pv 5) (pa_cons (pv 3) pa_nil)))) (pg_tup rfl (pgs_cons (pg_name (i := 6) sc49.nd rfl (Or.inl rfl)) (pgs_cons (pg_name (i := 7) sc49.nd rfl (Or.inl rfl)) pgs_nil)))
        (pss_cons (ps_if (pt_cmpR op_lt (pv 2) (pe_dget (hu_of hr) (pv 3) (pv 7) (fun _ _ => rfl)) (nomark _)) (pss_one ps_break) pss_nil)
        (pss_one (ps_set (i := 2) sc49.nd rfl (Or.inl rfl) (pe_op op_sub (pv 2) (pe_dget (hu_of hr) (pv 3) (pv 7) (fun _ _ => rfl)))))))
      (pss_cons (ps_app (pv 4) (pv 6)) (pss_one (ps_set (i := 5) sc49.nd rfl (Or.inl rfl) (pv 7))))))
    (pss_one (ps_ret (pv 4)))))))), ?_⟩
  refine ⟨_, rfl, _, rfl, a, b, m, l, rfl, ha, hb, hm, hl, fun pk H1 al hpk s1 hk kn => ?_⟩
  refine ⟨_, rfl, (n : Int), rfl, true, rfl, ?_⟩
  refine iteF ⟨_, rfl, _, _, rfl, rfl, _, rfl, ?_⟩
  rw [decide_eq_true (show (0 : Int) ≤ (n : Int) by omega)]
  have g0 := DGet.t hk (key_sh (s1 _ _ ha))
  rw [dkv_val] at g0
  refine iteT ⟨_, rfl, pk, rfl, .inr ⟨_, Rd.of hk⟩, _, rfl, _, g0, _, _, rfl, known_at (v := []) hm hl kn, _, rfl, ?_⟩
  by_cases hn : n < F m l
  · rw [decide_eq_true (show (n : Int) < (F m l : Int) by omega)]
    refine iteF ⟨(by show 0 ≤ sizeLine; decide), fun pf hpf => ⟨_, rfl, ?_⟩⟩
    refine ⟨CInv H1 a b pk pf m l n, ⟨l.sum - m.sum, m, a, n, [], none, none, by have := hw.sum_le; omega, rfl, same_new hpf _, upd_same, same_new hpf _ _ _ (s1 _ _ ha), hm, wi.refl _, hw, hn, by simp, fun ts h1 h2 => ⟨h1, h2⟩⟩, ?_⟩
    rintro k σ H' ⟨u, c, y, rs, v6, v7, hku, rfl, s', hf', hc, hu, hmu, hul, hy, hlen, conc⟩
    refine ⟨_, rfl, _, rfl, shD u, shD l, dp_sh hc, dp_sh (s' _ _ (s1 _ _ hb)), shaped_sh u, shaped_sh l, _, rfl, ?_⟩
    rw [eqv_sh]
    by_cases eu : u = l
    · subst eu
      rw [decide_eq_true rfl]
      rw [F_self] at hy
      obtain ⟨g1, g2⟩ := conc [] .nil (by show 0 = y; omega)
      rw [List.append_nil] at g1 g2
      exact iteF ⟨_, rfl, q hn pf H' rs (s1.free hpf) (s1.trans s') hf' g1 g2⟩
    · rw [decide_eq_false eu]
      have hsum := sum_lt_of_ne hu.sh hl.sh hul eu
      refine iteT ⟨CInv H1 a b pk pf m l n (k - 1), fun σ' H'' h => ⟨k - 1, by omega, h⟩, ?_⟩
      refine ⟨_, rfl, _, rfl, c, pk, m, l, u, al, rfl, hc, s' _ _ hk, kn, hm, hu, hmu, fun ps Hs qs hps ss hs st => ⟨ps, rfl, ⟨_, SqL.of hs⟩, ?_⟩⟩
      have hk2 := ss _ _ (s' _ _ hk)
      have elen : (stp l u).length = (qs.map V.ref).length := by rw [List.length_map]; exact plen st
      refine for_it (walk_list (xs := qs.map V.ref)) (fun i σ H2 => ∃ y' v6 v7, σ = [some (.ref a), some (.ref b), some (vN y'), some (.ref pk), some (.ref pf), some (.ref c), v6, v7] ∧ Same Hs H2 ∧ y' + (((stp l u).take i).map fun q => F (more u q) l).sum = y)
        ⟨y, v6, v7, rfl, Same.refl _, by simp⟩ (fun i σ H2 _ z => by obtain ⟨_, _, _, _, s2, _⟩ := z; exact SqL.of (s2 _ _ hs)) ?_ ?_
      · rintro i x σ H2 H2' hi ⟨y', w6, w7, rfl, s2, hsumy⟩ ⟨rfl, hx⟩
        rw [← elen] at hi
        obtain ⟨r, hr2⟩ : ∃ r, (stp l u)[i]? = some r := ⟨_, List.getElem?_eq_getElem hi⟩
        obtain ⟨q1, hq1, c1, hc1, hc2⟩ := pget st hr2
        rw [List.getElem?_map, hq1] at hx
        obtain rfl := Option.some.inj hx
        obtain ⟨hin, hwl, hbm⟩ := stp_get hu hl hr2
        have hk3 := s2 _ _ hk2
        have g1 : DGet H2' pk (.ref c1) (some (vN (F (more u r) l))) := by
          have := DGet.t hk3 (key_sh (s2 _ _ hc2))
          rw [dkv_val, kn _ hbm.sh, if_pos ⟨(wiB_iff hm.sh).mpr (hmu.trans (more_wi hin)), (wiB_iff hbm.sh).mpr hwl⟩] at this
          exact this
        refine ⟨q1, _, rfl, SqT.of (s2 _ _ hc1), rfl, _, _, rfl, _, _, rfl, rfl, ?_⟩
        refine ⟨_, rfl, _, rfl, _, rfl, pk, _, rfl, g1, _, _, rfl, rfl, _, rfl, ?_⟩
        by_cases cy : y' < F (more u r) l
        · rw [decide_eq_true (show (y' : Int) < (F (more u r) l : Int) by omega)]
          have hf2 := s2 _ _ (ss _ _ hf')
          have hbs := bx_sum hl
          refine iteT ⟨_, rfl, .inl ⟨rfl, _, SqL.of hf2⟩, _, rfl, pf, _, _, rfl, rfl, hf2, (by rw [tv_len]; exact smallL (by omega)), _, rfl, ?_⟩
          have hms := more_sum (mem_inRows.mp hin).1
          have ncf : c1 ≠ pf := fun z => by
            have h4' : H2' c1 = some (.tup (tv (more u r))) := s2 _ _ hc2
            rw [z, hf2] at h4'
            cases h4'
          refine ⟨more u r, c1, y', rs ++ [r], _, _, by omega, rfl, same_mut ((s'.trans ss).trans s2) hpf, by rw [upd_same, tv_append]; rfl, ?_, hbm, hmu.trans (more_wi hin), hwl, cy, by rw [List.length_append, List.length_singleton]; omega, fun ts h1 h2 => ?_⟩
          · show upd _ _ _ _ = _
            rw [upd_ne ncf]
            exact s2 _ _ hc2
          · rw [List.append_assoc]
            refine conc (r :: ts) (.cons hin hwl h1) ?_
            show fore l u r + plc l (more u r) ts = y
            rw [fore_at hr2, h2]
            omega
        · rw [decide_eq_false (show ¬ (y' : Int) < (F (more u r) l : Int) by omega)]
          refine iteF ⟨_, rfl, _, rfl, _, rfl, pk, _, rfl, g1, _, _, rfl, rfl, y' - F (more u r) l, some (vN r), some (.ref c1), ?_, s2, ?_⟩
          · show [some (V.ref a), some (.ref b), some (V.int ((y' : Int) - (F (more u r) l : Int))), some (.ref pk), some (.ref pf), some (.ref c), some (vN r), some (.ref c1)] = _
            rw [sub_v (by omega)]
          · rw [take_more hr2, List.map_append, List.sum_append]
            simp only [List.map_cons, List.map_nil, List.sum_cons, List.sum_nil]
            omega
      · rintro σ H2 ⟨y', w6, w7, rfl, s2, hsumy⟩
        rw [← elen, List.take_length] at hsumy
        have := F_in hu hl hul eu
        have e2 : (((inRows u).filter fun r => wiB (more u r) l).map fun r => F (more u r) l).sum = ((stp l u).map fun q => F (more u q) l).sum := rfl
        rw [e2] at this
        omega
  · rw [decide_eq_false (show ¬ (n : Int) < (F m l : Int) by omega)]
    exact iteT (qe (by omega) H1 s1)
def spPlace : Sp := fun vs H Q _ => ∃ (a b p : Addr) (m l rs : List Nat), vs = [.ref a, .ref b, .ref p] ∧ ShH H a m ∧ ShH H b l ∧ H p = some (.lst (tv rs)) ∧ Bx 7 7 m ∧ Bx 7 7 l ∧ Chn l m rs ∧ ∀ H', Same H H' → Q (vN (plc l m rs)) H'
theorem sc50 : FnScope ["one", "other", "rows", "known", "found", "share", "own", "row", "more"] ["one", "other", "rows"] (defScope S50) := ⟨rfl, rfl, rfl, by decide +kernel, rfl, by decide +kernel, by decide +kernel⟩
theorem ok50 (T : Txt K mg f d) : FnOk P w K mg base CX0 7 (f 50) (d 50) ["one", "other", "rows"] spPlace := by
  refine T.place_of_chain.F.ok sc50 (fun vs H Q E h => ?_) (fun cdv A outer s H vs Q E hr h => ?_)
  · obtain ⟨a, b, p, m, l, rs, rfl, _⟩ := h
    rfl
  obtain ⟨a, b, p, m, l, rs, rfl, ha, hb, hp, hm, hl, ch, q⟩ := h
  refine ⟨_, pss_cons (ps_expr (dcall T.need_chain (ok34 T) hr (pa_cons (pv 0) (pa_cons (pv 1) (pa_cons (pv 2) pa_nil)))))
    (pss_cons (ps_set (i := 3) sc50.nd rfl (Or.inr rfl) (dcall T.ways_on (ok35 T) hr (pa_cons (pv 0) (pa_cons (pv 1) pa_nil))))
    (pss_cons (ps_set (i := 4) sc50.nd rfl (Or.inl rfl) pe_int)
    (pss_cons (ps_set (i := 5) sc50.nd rfl (Or.inl rfl) (pv 0))
    (pss_cons (ps_for PassesOwn.never rfl (pi_list (pv 2)) (pg_name (i := 6) sc50.nd rfl (Or.inr rfl))
      (pss_cons (ps_set (i := 4) sc50.nd rfl (Or.inl rfl) (pe_op op_add (pv 4) (pe_callB (cr_sum rfl) (by rfl) T.b_sum (by decide +kernel) (pa_cons (pe_lc (own := [("row", 7), ("more", 8)]) (g := gTup K 2 (gCons (gName 7) (gCons (gName 8) gNil))) rfl sc50.nd
          (pi_list (dcall T.steps_on (ok48 T) hr (pa_cons (pv 5) (pa_cons (pv 3) pa_nil)))) (blkOk_by (N := ["one", "other", "rows", "known", "found", "share", "own", "row", "more"]) (sc := defScope S50) (by decide +kernel))
          (fun _ _ _ _ _ => pg_tup rfl (pgs_cons (pg_name (i := 7) sc50.nd rfl (Or.inl rfl)) (pgs_cons (pg_name (i := 8) sc50.nd rfl (Or.inl rfl)) pgs_nil))) (fun _ _ _ _ _ => pts_one (pt_cmpR op_lt (pv 7) (pv 6) (nomark _)))
          (fun _ _ _ _ _ => pe_dget (hu_of hr) (pv 3) (pv 8) (fun _ _ => rfl))) pa_nil))))
      (pss_one (ps_set (i := 5) sc50.nd rfl (Or.inl rfl) (dcall T.put_in (ok27 T) hr (pa_cons (pv 5) (pa_cons (pv 6) pa_nil)))))))
    (pss_one (ps_ret (pv 4))))))), ?_⟩
  refine ⟨_, rfl, _, rfl, _, rfl, a, b, p, m, l, rs, rfl, ha, hb, hp, hm, hl, ch, fun H0 s0 => ?_⟩
  refine ⟨_, rfl, _, rfl, a, b, m, l, rfl, s0 _ _ ha, s0 _ _ hb, hm, hl, fun pk H1 al hpk s1 hk kn => ⟨_, rfl, _, rfl, p, rfl, ⟨_, SqL.of (s1 _ _ (s0 _ _ hp))⟩, ?_⟩⟩
  have hb7 := bx_sum hl
  have hcs := ch.sum
  refine for_it walk_lv (fun i σ H2 => ∃ y c u v6 v7 v8, σ = [some (.ref a), some (.ref b), some (.ref p), some (.ref pk), some (vN y), some (.ref c), v6, v7, v8] ∧ Same H1 H2 ∧ ShH H2 c u ∧ Bx 7 7 u ∧ wi m u ∧ Chn l u (rs.drop i) ∧ y + plc l u (rs.drop i) = plc l m rs)
    ⟨0, a, m, none, none, none, rfl, Same.refl _, s1 _ _ (s0 _ _ ha), hm, wi.refl _, by rw [List.drop_zero]; exact ch, by rw [List.drop_zero]; omega⟩ (fun i σ H2 _ z => by obtain ⟨_, _, _, _, _, _, _, s2, _⟩ := z; exact s2 _ _ (s1 _ _ (s0 _ _ hp))) ?_ ?_
  · rintro i x σ H2 H2' hi ⟨y, c, u, v6, v7, v8, rfl, s2, hc, hu, hmu, cu, hy⟩ ⟨rfl, hx⟩
    obtain ⟨r, hr2⟩ : ∃ r, rs[i]? = some r := ⟨_, List.getElem?_eq_getElem hi⟩
    obtain rfl := hx r hr2
    have ed : rs.drop i = r :: rs.drop (i + 1) := by
      rw [List.drop_eq_getElem_cons hi]
      rw [List.getElem?_eq_getElem hi] at hr2
      rw [Option.some.inj hr2]
    rw [ed] at cu hy
    cases cu with
    | cons hin hwl ht =>
      have hul : u.length ≤ 1000 := by have := hu.len; omega
      refine ⟨_, rfl, ?_⟩
      refine ⟨_, rfl, _, rfl, c, pk, m, l, u, al, rfl, hc, s2 _ _ hk, kn, hm, hu, hmu, fun ps Hs qs hps ss hs st => ⟨ps, rfl, ⟨_, SqL.of hs⟩, fun D hD => ?_⟩⟩
      have hk2 := ss _ _ (s2 _ _ hk)
      have elen : (stp l u).length = (qs.map V.ref).length := by rw [List.length_map]; exact plen st
      have w2 : Walk (Itl K ps) (stp l u).length (fun H => SqL K H ps (qs.map V.ref)) (YAt (qs.map V.ref)) := by
        rw [elen]
        exact walk_list
      refine lc_vals (src := stp l u) w2 hD (fun q => decide (q < r)) (fun q => vN (F (more u q) l)) (by have := stp_len (l := l) hu; exact smallL (by omega)) (fun H' s' => SqL.of (s' _ _ hs)) ?_ ?_
      · rintro j r2 hj H3 x H3' acc s3 hacc ⟨rfl, hx⟩ A B h1 h2
        obtain ⟨q1, hq1, c1, hc1, hc2⟩ := pget st hj
        rw [List.getElem?_map, hq1] at hx
        obtain rfl := Option.some.inj hx
        obtain ⟨hin2, hwl2, hbm2⟩ := stp_get hu hl hj
        have g1 : DGet H3' pk (.ref c1) (some (vN (F (more u r2) l))) := by
          have := DGet.t (s3 _ _ hk2) (key_sh (s3 _ _ hc2))
          rw [dkv_val, kn _ hbm2.sh, if_pos ⟨(wiB_iff hm.sh).mpr (hmu.trans (more_wi hin2)), (wiB_iff hbm2.sh).mpr hwl2⟩] at this
          exact this
        refine ⟨q1, _, rfl, SqT.of (s3 _ _ hc1), rfl, _, _, rfl, _, _, rfl, rfl, rfl, _, rfl, _, rfl, _, _, rfl, rfl, _, rfl, ?_⟩
        by_cases c3 : r2 < r
        · rw [decide_eq_true (show (r2 : Int) < (r : Int) by omega)]
          exact iteT ⟨_, rfl, _, rfl, pk, _, rfl, g1, h1 (decide_eq_true c3) _ (Same.refl _)⟩
        · rw [decide_eq_false (show ¬ (r2 : Int) < (r : Int) by omega)]
          exact iteF (h2 (decide_eq_false c3) _ (Same.refl _))
      · intro H3 s3 hD3
        refine ⟨D, ((stp l u).filter fun q => decide (q < r)).map fun q => (F (more u q) l : Int), rfl, SqL.of (by rw [hD3, List.map_map]; rfl), _, _, rfl, rfl, ?_⟩
        rw [← sum_cast]
        have sH3 := (s2.trans ss).trans s3
        refine ⟨_, rfl, _, rfl, c, u, r, rfl, s3 _ _ (ss _ _ hc), hul, hin, fun p4 H4 s4 h4 => ?_⟩
        refine ⟨y + fore l u r, p4, more u r, some (vN r), v7, v8, ?_, sH3.trans s4, h4, Chn.bx (rs := rs) hl hu hin hwl, hmu.trans (more_wi hin), ht, ?_⟩
        · show [some (V.ref a), some (.ref b), some (.ref p), some (.ref pk), some (V.int ((y : Int) + (fore l u r : Nat))), some (.ref p4), some (vN r), v7, v8] = _
          rw [add_v]
        · have e3 : plc l u (r :: rs.drop (i + 1)) = fore l u r + plc l (more u r) (rs.drop (i + 1)) := rfl
          rw [e3] at hy
          omega
  · rintro σ H2 ⟨y, c, u, v6, v7, v8, rfl, s2, hc, hu, hmu, cu, hy⟩
    rw [List.drop_length] at cu hy
    have : y = plc l m rs := hy
    rw [this]
    exact ⟨_, rfl, q H2 ((s0.trans s1).trans s2)⟩
end
end GW
namespace GW
open PySem PySem.Spec PyProof.Rows L2 GR GS
theorem cutT (xs : List V) {r : Nat} (hr : r ≤ xs.length) : cutV xs none (some (r : Int)) = xs.take r := by
  unfold cutV
  rw [HT.sIx_none, HT.sIx_nat, Nat.min_eq_left hr, List.drop_zero, Nat.sub_zero]
theorem cutD (xs : List V) {r : Nat} : cutV xs (some (r : Int)) none = xs.drop r := by
  unfold cutV
  rw [HT.sIx_none, HT.sIx_nat]
  rcases Nat.lt_or_ge r xs.length with c | c
  · rw [Nat.min_eq_left (by omega)]
    refine List.take_of_length_le ?_
    rw [List.length_drop]
    omega
  · rw [Nat.min_eq_right c, List.drop_eq_nil_of_le c, Nat.sub_self, List.take_zero]
def sgn (i : Nat) : Int := if i % 2 = 0 then 1 else -1
theorem sgn_succ (i : Nat) : sgn (i + 1) = - sgn i := by
  unfold sgn
  by_cases c : i % 2 = 0
  · rw [if_pos c, if_neg (by omega)]
  · rw [if_neg c, if_pos (by omega)]
    rfl
/-- the expansion by the part not yet gone through -/
theorem E_turn {cols : List Nat} {g : Nat → List Nat → Int} {i b : Nat} (h : cols[i]? = some b) (x : Int) :
    x + sgn i * E (cols.drop i) (fun y r => g y (cols.take i ++ r)) = (x + sgn i * g b (cols.take i ++ cols.drop (i + 1))) + sgn (i + 1) * E (cols.drop (i + 1)) (fun y r => g y (cols.take (i + 1) ++ r)) := by
  obtain ⟨hi, hb⟩ := List.getElem?_eq_some_iff.mp h
  have ed : cols.drop i = b :: cols.drop (i + 1) := by rw [List.drop_eq_getElem_cons hi, hb]
  rw [ed, E, sgn_succ, take_more h]
  have e2 : (fun x r => g x (cols.take i ++ b :: r)) = fun y r => g y (cols.take i ++ [b] ++ r) := by
    funext y r
    rw [List.append_assoc]
    rfl
  rw [e2, Int.mul_sub, Int.neg_mul]
  omega
/-- rows of numbers by N columns -/
def rowV (N : Nat) (g : Nat → Int) : List V := (List.range N).map fun c => V.int (g c)
theorem rowV_get {N c : Nat} {g : Nat → Int} (h : c < N) : (rowV N g)[c]? = some (.int (g c)) := by
  unfold rowV
  rw [List.getElem?_map, List.getElem?_range h]
  rfl
abbrev RowsH (N : Nat) (H : Hp) (fs : List (Nat → Int)) (rs : List Addr) : Prop := Paired (fun g r => H r = some (.lst (rowV N g))) fs rs
theorem rows_same {N : Nat} {H H' : Hp} {fs : List (Nat → Int)} {rs : List Addr} (s : Same H H') (h : RowsH N H fs rs) : RowsH N H' fs rs := pmono h fun _ _ q => s _ _ q
theorem eqv_cols (l : List Nat) : PyData.eqv (.list (l.map fun n : Nat => PyData.int (n : Int))) (.list []) = l.isEmpty := by
  cases l with
  | nil => simp [PyData.eqv, PyData.eqvAll]
  | cons x l => simp [PyData.eqv, PyData.eqvAll]
theorem shaped_cols (l : List Nat) : SeqAt.shaped (.list (l.map fun n : Nat => PyData.int (n : Int))) = true := by
  unfold SeqAt.shaped
  rw [PyData.canLay0, lay_ints, PyData.depth, dep_ints]
  rfl
theorem pick_sgn {i : Nat} {x y : Int} : atI [V.int x, V.int y] ((i : Int) % 2) = some (if i % 2 = 0 then V.int x else V.int y) := by
  by_cases c : i % 2 = 0
  · have : (i : Int) % 2 = 0 := by omega
    rw [if_pos c, this]
    rfl
  · have : (i : Int) % 2 = 1 := by omega
    rw [if_neg c, this]
    rfl
section
variable {P : Program} {w : World} {K : PySem.W.Frag} {mg : Str → Option Value} {base : Heap} {f : Nat → Addr} {d : Nat → FuncData}

/-! ### choices_of -/
def spChoice : Sp := fun vs H Q _ => ∃ a b : Int, vs = [.int a, .int b] ∧ a ≤ 60 ∧ Q (.int (chI a b)) H
theorem sc42 : FnScope ["a", "b", "found", "k"] ["a", "b"] (defScope S42) := ⟨rfl, rfl, rfl, by decide +kernel, rfl, by decide +kernel, by decide +kernel⟩
theorem ok42 (T : Txt K mg f d) : FnOk P w K mg base CX0 1 (f 42) (d 42) ["a", "b"] spChoice := by
  refine T.choices_of.F.ok sc42 (fun vs H Q E h => ?_) (fun cdv A outer s H vs Q E hr h => ?_)
  · obtain ⟨a, b, rfl, _⟩ := h
    rfl
  obtain ⟨a, b, rfl, ha, q⟩ := h
  refine ⟨_, pss_cons (ps_if (PW.pt (pw_or (pt_cmpR op_lt (pv 1) pe_int (nomark _)) (pw_or1 (pt_cmpR op_gt (pv 1) (pv 0) (nomark _))))) (pss_one (ps_ret pe_int)) pss_nil)
    (pss_cons (ps_set (i := 2) sc42.nd rfl (Or.inl rfl) pe_int)
    (pss_cons (ps_for PassesOwn.never rfl (pi_range1 (by rfl) T.b_range (pa_cons (pv 1) pa_nil)) (pg_name (i := 3) sc42.nd rfl (Or.inl rfl))
      (pss_one (ps_set (i := 2) sc42.nd rfl (Or.inl rfl) (pe_op op_fdiv (pe_op op_mul (pv 2) (pe_op op_sub (pv 0) (pv 3))) (pe_op op_add (pv 3) pe_int)))))
    (pss_one (ps_ret (pv 2))))), ?_⟩
  refine ⟨_, rfl, _, _, rfl, rfl, _, rfl, ?_⟩
  by_cases c1 : b < 0
  · rw [decide_eq_true c1]
    refine iteT (iteT ?_)
    rw [chI_neg c1] at q
    exact q
  rw [decide_eq_false c1]
  refine iteF ⟨_, rfl, _, rfl, _, _, rfl, rfl, _, rfl, ?_⟩
  by_cases c2 : a < b
  · rw [decide_eq_true c2]
    refine iteT ?_
    rw [chI_gt c2] at q
    exact q
  rw [decide_eq_false c2]
  obtain ⟨n, rfl⟩ := Int.eq_ofNat_of_zero_le (show 0 ≤ a by omega)
  obtain ⟨k, rfl⟩ := Int.eq_ofNat_of_zero_le (show 0 ≤ b by omega)
  refine iteF ⟨_, rfl, _, rfl, by omega, by omega, ?_⟩
  rw [Int.toNat_natCast]
  refine for_it walk_rv (fun i σ H2 => ∃ v3, σ = [some (.int n), some (.int k), some (vN (ch n i)), v3] ∧ H2 = H) ⟨none, by rw [ch_zero]; rfl, rfl⟩ (fun _ _ _ _ _ => trivial) ?_ ?_
  · rintro i x σ H2 H2' hi ⟨v3, rfl, rfl⟩ ⟨rfl, rfl⟩
    have hin : i < n := by omega
    refine ⟨_, rfl, _, rfl, _, rfl, _, _, rfl, rfl, (ch n i : Int), _, rfl, rfl, .inr ⟨by omega, by omega⟩, _, rfl, _, _, rfl, rfl, _, _, rfl, rfl, ⟨by omega, by omega⟩, some (vN i), ?_, rfl⟩
    have e : (ch n i : Int) * ((n : Int) - (i : Int)) / ((i : Int) + 1) = (ch n (i + 1) : Nat) := by
      have h := ch_step hin
      have h2 : (ch n i : Int) * ((n : Int) - (i : Int)) = (ch n (i + 1) : Int) * ((i : Int) + 1) := by
        have : ((ch n (i + 1) * (i + 1) : Nat) : Int) = ((ch n i * (n - i) : Nat) : Int) := by rw [h]
        rw [Int.natCast_mul, Int.natCast_mul] at this
        rw [show ((n - i : Nat) : Int) = (n : Int) - (i : Int) by omega] at this
        rw [← this]
        rfl
      rw [h2]
      exact Int.mul_ediv_cancel _ (by omega)
    show [some (V.int n), some (.int k), some (V.int ((ch n i : Int) * ((n : Int) - (i : Int)) / ((i : Int) + 1))), some (vN i)] = _
    rw [e]
    rfl
  · rintro σ H2 ⟨v3, rfl, rfl⟩
    rw [chI_nat] at q
    exact ⟨_, rfl, q⟩

/-! ### the worth of a square -/
def spWorth (N n : Nat) : Sp := fun vs H Q _ => ∃ (p c : Addr) (fs : List (Nat → Int)) (rs : List Addr) (cols : List Nat), vs = [.ref p, .ref c] ∧ H p = some (.lst (rs.map V.ref)) ∧ RowsH N H fs rs ∧ H c = some (.lst (tv cols)) ∧
  fs.length = n ∧ cols.length = n ∧ (∀ y ∈ cols, y < N) ∧ n ≤ 1000 ∧ (∀ g ∈ fs, ∀ y, y < N → -(2 ^ 64) < g y ∧ g y < 2 ^ 64) ∧ ∀ H', Same H H' → Q (.int (WR fs cols)) H'
theorem sc40 : FnScope ["rows", "columns", "found", "at", "column", "number", "part"] ["rows", "columns"] (defScope S40) := ⟨rfl, rfl, rfl, by decide +kernel, rfl, by decide +kernel, by decide +kernel⟩
theorem take_drop_mem {cols : List Nat} {i y : Nat} (h : y ∈ cols.take i ++ cols.drop (i + 1)) : y ∈ cols := by
  rcases List.mem_append.mp h with h | h
  · exact List.mem_of_mem_take h
  · exact List.mem_of_mem_drop h
theorem ok40 (T : Txt K mg f d) (N : Nat) : ∀ n : Nat, FnOk P w K mg base CX0 (n + 2) (f 40) (d 40) ["rows", "columns"] (spWorth N n)
  | 0 => by
    refine T.worth_of.F.ok sc40 (fun vs H Q E h => ?_) (fun cdv A outer s H vs Q E hr h => ?_)
    · obtain ⟨p, c, fs, rs, cols, rfl, _⟩ := h
      rfl
    obtain ⟨p, c, fs, rs, cols, rfl, hp, hrs, hc, hf, hl, hy, hn, hb, q⟩ := h
    refine ⟨_, pss_cons (ps_if (pt_cmpR (op_eqD hr.units) (pv 1) (pe_lst pa_nil) (nomark _)) (pss_one (ps_ret pe_int)) pss_nil) pss_never, ?_⟩
    cases fs with
    | cons g fs => simp at hf
    | nil =>
      cases cols with
      | cons y cols => simp at hl
      | nil =>
        refine ⟨_, rfl, (by show 0 ≤ sizeLine; decide), fun pe hpe => ⟨.list [], .list [], .lst (SqL.of (same_new hpe _ _ _ hc)) .nil, .lst (SqL.of upd_same) .nil, rfl, rfl, true, ?_, iteT (q _ (same_new hpe _))⟩⟩
        simp [PyData.eqv, PyData.eqvAll]
  | n + 1 => by
    have IH := ok40 T N n
    refine T.worth_of.F.ok sc40 (fun vs H Q E h => ?_) (fun cdv A outer s H vs Q E hr h => ?_)
    · obtain ⟨p, c, fs, rs, cols, rfl, _⟩ := h
      rfl
    obtain ⟨p, c, fs, rs, cols, rfl, hp, hrs, hc, hf, hl, hy, hn, hb, q⟩ := h
    refine ⟨_, pss_cons (ps_if (pt_cmpR (op_eqD hr.units) (pv 1) (pe_lst pa_nil) (nomark _)) (pss_one (ps_ret pe_int)) pss_nil)
      (pss_cons (ps_set (i := 2) sc40.nd rfl (Or.inl rfl) pe_int)
      (pss_cons (ps_for PassesOwn.never rfl (pi_enum (by rfl) T.b_enumerate (pa_cons (pv 1) pa_nil)) (pg_tup rfl (pgs_cons (pg_name (i := 3) sc40.nd rfl (Or.inl rfl)) (pgs_cons (pg_name (i := 4) sc40.nd rfl (Or.inl rfl)) pgs_nil)))
        (pss_cons (ps_set (i := 5) sc40.nd rfl (Or.inl rfl) (pe_ix ix_list (pe_ix ix_list (pv 0) pe_int (fun _ _ => rfl)) (pv 4) (fun _ _ => rfl)))
        (pss_one (ps_if (pt_cmpR op_ne (pv 5) pe_int (nomark _))
          (pss_cons (ps_set (i := 6) sc40.nd rfl (Or.inl rfl) (pe_op op_mul (pv 5) (dcall T.worth_of IH hr (pa_cons (pe_slice sl_list (pv 0) (po_some pe_int) po_none) (pa_cons (pe_op op_cat (pe_slice sl_list (pv 1) po_none (po_some (pv 3))) (pe_slice sl_list (pv 1) (po_some (pe_op op_add (pv 3) pe_int)) po_none)) pa_nil)) (Nat.le_refl _))))
          (pss_one (ps_set (i := 2) sc40.nd rfl (Or.inl rfl) (pe_op op_add (pv 2) (pe_ix ix_list (pe_lst (pa_cons (pv 6) (pa_cons (pe_op op_sub pe_int (pv 6)) pa_nil))) (pe_op op_mod (pv 3) pe_int) (fun _ _ => rfl))))))
          pss_nil))))
      (pss_one (ps_ret (pv 2))))), ?_⟩
    cases fs with
    | nil => simp at hf
    | cons g fs =>
      cases hrs with
      | @cons _ r0 _ rs h0 ht =>
      refine ⟨_, rfl, (by show 0 ≤ sizeLine; decide), fun pe hpe => ⟨.list (cols.map fun n : Nat => PyData.int (n : Int)), .list [], .lst (SqL.of (same_new hpe _ _ _ hc)) (dp_ints cols), .lst (SqL.of upd_same) .nil, shaped_cols cols, rfl, _, rfl, ?_⟩⟩
      have e0 : cols.isEmpty = false := by cases cols with
        | nil => simp at hl
        | cons y cols => rfl
      rw [eqv_cols, e0]
      have sE := same_new hpe (.lst [])
      refine iteF ⟨_, rfl, c, _, rfl, SqL.of (sE _ _ hc), ?_⟩
      have hfl : fs.length = n := by simpa using hf
      have w2 : Walk (Ite K c) cols.length (fun H => SqL K H c (tv cols)) (YPair (fun i => some (.int (i : Nat))) (fun i => (tv cols)[i]?)) := by
        have := walk_enum (K := K) (a := c) (xs := tv cols)
        rwa [tv_len] at this
      refine for_it w2 (fun i σ H2 => ∃ x v3 v4 v5 v6, σ = [some (.ref p), some (.ref c), some (.int x), v3, v4, v5, v6] ∧ Same H H2 ∧ x + sgn i * GS.E (cols.drop i) (fun y r => g y * WR fs (cols.take i ++ r)) = WR (g :: fs) cols)
        ⟨0, none, none, none, none, rfl, sE, ?_⟩ (fun i σ H2 _ z => by obtain ⟨_, _, _, _, _, _, s2, _⟩ := z; exact SqL.of (s2 _ _ hc)) ?_ ?_
      · rw [List.drop_zero, List.take_zero, WR_cons]
        show 0 + 1 * _ = _
        rw [Int.zero_add, Int.one_mul]
        rfl
      · rintro i x σ H2 H2' hi ⟨t, v3, v4, v5, v6, rfl, s2, ht2⟩ ⟨tp, x1, x2, rfl, htp, rfl, hx1, hx2⟩
        cases hx1
        obtain ⟨b, hb2⟩ : ∃ b, cols[i]? = some b := ⟨_, List.getElem?_eq_getElem hi⟩
        have hx3 : x2 = vN b := by
          have hx2' : (tv cols)[i]? = some x2 := hx2
          unfold tv at hx2'
          rw [List.getElem?_map, hb2] at hx2'
          exact (Option.some.inj hx2').symm
        subst hx3
        have hbN : b < N := hy b (List.mem_of_getElem? hb2)
        have s3 := s2.trans (same_new htp (.tup [V.int (i : Nat), vN b]))
        have hp3 := s3 _ _ hp
        have h03 := s3 _ _ h0
        have hgb := hb g List.mem_cons_self b hbN
        refine ⟨tp, _, rfl, SqT.of upd_same, rfl, _, _, rfl, _, _, rfl, rfl, ?_⟩
        refine ⟨_, rfl, p, _, _, _, rfl, rfl, SqL.of hp3, (show atI (V.ref r0 :: rs.map V.ref) ((0 : Nat) : Int) = some (.ref r0) from atI_nat rfl), _, rfl, r0, _, _, _, rfl, rfl, SqL.of h03, atI_nat (rowV_get hbN), ?_⟩
        refine ⟨_, rfl, rfl, _, rfl, ?_⟩
        rw [E_turn (g := fun y r => g y * WR fs r) hb2 t] at ht2
        by_cases cz : g b = 0
        · have e1 : decide (V.int (g b) = V.int 0) = true := decide_eq_true (by rw [cz])
          rw [e1]
          refine iteF ⟨t, some (.int (i : Nat)), some (vN b), some (.int (g b)), v6, rfl, s3, ?_⟩
          rw [cz, Int.zero_mul, Int.mul_zero, Int.add_zero] at ht2
          exact ht2
        · have e1 : decide (V.int (g b) = V.int 0) = false := decide_eq_false fun z => cz (by injection z)
          rw [e1]
          refine iteT ⟨_, rfl, _, rfl, 1, rfl, ?_⟩
          unfold tNoPart
          refine ⟨p, _, rfl, SqL.of hp3, fun p1 hp1 => ?_⟩
          have ec1 : cutV (List.map V.ref (r0 :: rs)) (some 1) none = rs.map V.ref := cutD _ (r := 1)
          rw [ec1]
          have s4 := s3.trans (same_new hp1 (.lst (rs.map V.ref)))
          have g1 : upd (upd H2 tp (.tup [V.int (i : Nat), vN b])) p1 (.lst (rs.map V.ref)) p1 = some (.lst (rs.map V.ref)) := upd_same
          generalize upd (upd H2 tp (.tup [V.int (i : Nat), vN b])) p1 (.lst (rs.map V.ref)) = Ha at s4 g1 ⊢
          refine ⟨_, rfl, _, rfl, (i : Int), rfl, c, _, rfl, SqL.of (s4 _ _ hc), fun p2 hp2 => ?_⟩
          rw [cut_to (Nat.le_of_lt hi)]
          have s5 := s4.trans (same_new hp2 (.lst (tv (cols.take i))))
          have g12 := same_new hp2 (.lst (tv (cols.take i))) _ _ g1
          have g2 : upd Ha p2 (.lst (tv (cols.take i))) p2 = some (.lst (tv (cols.take i))) := upd_same
          generalize upd Ha p2 (.lst (tv (cols.take i))) = Hb at s5 g12 g2 ⊢
          refine ⟨_, rfl, _, rfl, _, _, rfl, rfl, (i : Int) + 1, rfl, ?_⟩
          refine ⟨c, _, rfl, SqL.of (s5 _ _ hc), fun p3 hp3' => ?_⟩
          have ei : (i : Int) + 1 = ((i + 1 : Nat) : Int) := by omega
          rw [ei, cut_from]
          have s6 := s5.trans (same_new hp3' (.lst (tv (cols.drop (i + 1)))))
          have g13 := same_new hp3' (.lst (tv (cols.drop (i + 1)))) _ _ g12
          have g23 := same_new hp3' (.lst (tv (cols.drop (i + 1)))) _ _ g2
          have g3 : upd Hb p3 (.lst (tv (cols.drop (i + 1)))) p3 = some (.lst (tv (cols.drop (i + 1)))) := upd_same
          generalize upd Hb p3 (.lst (tv (cols.drop (i + 1)))) = Hc at s6 g13 g23 g3 ⊢
          refine ⟨p2, p3, _, _, rfl, rfl, g23, g3, (by rw [tv_len, tv_len, List.length_take, List.length_drop]; exact small (by omega)), fun p4 hp4 => ?_⟩
          rw [← tv_append]
          have s7 := s6.trans (same_new hp4 (.lst (tv (cols.take i ++ cols.drop (i + 1)))))
          refine ⟨p1, p4, fs, rs, cols.take i ++ cols.drop (i + 1), rfl, same_new hp4 _ _ _ g13, rows_same s7 ht, upd_same, hfl, ?_, fun y hy2 => hy y (take_drop_mem hy2), by omega, fun g2 hg2 => hb g2 (List.mem_cons_of_mem _ hg2), fun H8 s8 => ?_⟩
          · rw [List.length_append, List.length_take, List.length_drop]
            omega
          refine ⟨_, _, rfl, rfl, .inl hgb, ?_⟩
          refine ⟨_, rfl, _, rfl, _, rfl, _, _, rfl, rfl, (by show 2 ≤ sizeLine; decide), fun p5 hp5 => ⟨_, rfl, (i : Int), 2, rfl, rfl, (show (0 : Int) < 2 by decide), p5, _, _, _, rfl, rfl, SqL.of upd_same, pick_sgn, ?_⟩⟩
          have s9 := (s7.trans s8).trans (same_new hp5 (.lst [.int (g b * WR fs (cols.take i ++ cols.drop (i + 1))), .int (0 - g b * WR fs (cols.take i ++ cols.drop (i + 1)))]))
          refine ⟨t, (if i % 2 = 0 then g b * WR fs (cols.take i ++ cols.drop (i + 1)) else 0 - g b * WR fs (cols.take i ++ cols.drop (i + 1))), rfl, ?_, t + sgn i * (g b * WR fs (cols.take i ++ cols.drop (i + 1))), some (.int (i : Nat)), some (vN b), some (.int (g b)), some (.int (g b * WR fs (cols.take i ++ cols.drop (i + 1)))), ?_, s9, ht2⟩
          · split <;> rfl
          · show [some (V.ref p), some (.ref c), some (.int (t + (if i % 2 = 0 then g b * WR fs (cols.take i ++ cols.drop (i + 1)) else 0 - g b * WR fs (cols.take i ++ cols.drop (i + 1))))), some (.int (i : Nat)), some (vN b), some (.int (g b)), some (.int (g b * WR fs (cols.take i ++ cols.drop (i + 1))))] = _
            have : (if i % 2 = 0 then g b * WR fs (cols.take i ++ cols.drop (i + 1)) else 0 - g b * WR fs (cols.take i ++ cols.drop (i + 1))) = sgn i * (g b * WR fs (cols.take i ++ cols.drop (i + 1))) := by
              unfold sgn
              split
              · rw [Int.one_mul]
              · rw [Int.neg_mul, Int.one_mul, Int.zero_sub]
            rw [this]
      · rintro σ H2 ⟨t, v3, v4, v5, v6, rfl, s2, ht2⟩
        rw [List.drop_length, GS.E, Int.mul_zero, Int.add_zero] at ht2
        rw [ht2]
        exact ⟨_, rfl, q H2 s2⟩
end
end GW
namespace GW
open PySem PySem.Spec PyProof.Rows L2 GR GS
section
variable {P : Program} {w : World} {K : PySem.W.Frag} {mg : Str → Option Value} {base : Heap} {f : Nat → Addr} {d : Nat → FuncData}
theorem sgn_pick {i : Nat} {x : Int} : (if i % 2 = 0 then x else 0 - x) = sgn i * x := by
  unfold sgn
  split
  · rw [Int.one_mul]
  · rw [Int.neg_mul, Int.one_mul, Int.zero_sub]
theorem pick_v {i : Nat} {x y : Int} : (if i % 2 = 0 then V.int x else V.int y) = V.int (if i % 2 = 0 then x else y) := by split <;> rfl

/-! ### ways_by -/
def spWB (N n : Nat) : Sp := fun vs H Q _ => ∃ (p c : Addr) (L : Int) (fs : List (Nat → Int)) (rs : List Addr) (cols : List Nat), vs = [.ref p, .ref c, .int L] ∧ H p = some (.lst (rs.map V.ref)) ∧ RowsH N H fs rs ∧ H c = some (.lst (tv cols)) ∧
  fs.length = n ∧ cols.length = n ∧ (∀ y ∈ cols, y < N) ∧ n ≤ 1000 ∧ L ≤ 60 ∧ ∀ H', Same H H' → Q (.int (WB fs cols L)) H'
theorem sc44 : FnScope ["rows", "columns", "left", "found", "at", "column", "many", "part"] ["rows", "columns", "left"] (defScope S44) := ⟨rfl, rfl, rfl, by decide +kernel, rfl, by decide +kernel, by decide +kernel⟩
theorem ok44 (T : Txt K mg f d) (N : Nat) : ∀ n : Nat, FnOk P w K mg base CX0 (n + 2) (f 44) (d 44) ["rows", "columns", "left"] (spWB N n)
  | 0 => by
    refine T.ways_by.F.ok sc44 (fun vs H Q E h => ?_) (fun cdv A outer s H vs Q E hr h => ?_)
    · obtain ⟨p, c, L, fs, rs, cols, rfl, _⟩ := h
      rfl
    obtain ⟨p, c, L, fs, rs, cols, rfl, hp, hrs, hc, hf, hl, hy, hn, hL, q⟩ := h
    refine ⟨_, pss_cons (ps_if (pt_cmpR (op_eqD hr.units) (pv 1) (pe_lst pa_nil) (nomark _)) (pss_one (ps_ret pe_int)) pss_nil) pss_never, ?_⟩
    cases fs with
    | cons g fs => simp at hf
    | nil =>
      cases cols with
      | cons y cols => simp at hl
      | nil =>
        refine ⟨_, rfl, (by show 0 ≤ sizeLine; decide), fun pe hpe => ⟨.list [], .list [], .lst (SqL.of (same_new hpe _ _ _ hc)) .nil, .lst (SqL.of upd_same) .nil, rfl, rfl, true, ?_, iteT (q _ (same_new hpe _))⟩⟩
        simp [PyData.eqv, PyData.eqvAll]
  | n + 1 => by
    have IH := ok44 T N n
    refine T.ways_by.F.ok sc44 (fun vs H Q E h => ?_) (fun cdv A outer s H vs Q E hr h => ?_)
    · obtain ⟨p, c, L, fs, rs, cols, rfl, _⟩ := h
      rfl
    obtain ⟨p, c, L, fs, rs, cols, rfl, hp, hrs, hc, hf, hl, hy, hn, hL, q⟩ := h
    refine ⟨_, pss_cons (ps_if (pt_cmpR (op_eqD hr.units) (pv 1) (pe_lst pa_nil) (nomark _)) (pss_one (ps_ret pe_int)) pss_nil)
      (pss_cons (ps_set (i := 3) sc44.nd rfl (Or.inl rfl) pe_int)
      (pss_cons (ps_for PassesOwn.never rfl (pi_enum (by rfl) T.b_enumerate (pa_cons (pv 1) pa_nil)) (pg_tup rfl (pgs_cons (pg_name (i := 4) sc44.nd rfl (Or.inl rfl)) (pgs_cons (pg_name (i := 5) sc44.nd rfl (Or.inl rfl)) pgs_nil)))
        (pss_cons (ps_set (i := 6) sc44.nd rfl (Or.inl rfl) (dcall T.choices_of (ok42 T) hr (pa_cons (pv 2) (pa_cons (pe_ix ix_list (pe_ix ix_list (pv 0) pe_int (fun _ _ => rfl)) (pv 5) (fun _ _ => rfl)) pa_nil)) (Nat.le_add_left 1 (n + 1))))
        (pss_one (ps_if (pt_cmpR op_gt (pv 6) pe_int (nomark _))
          (pss_cons (ps_set (i := 7) sc44.nd rfl (Or.inl rfl) (pe_op op_mul (pv 6) (dcall T.ways_by IH hr (pa_cons (pe_slice sl_list (pv 0) (po_some pe_int) po_none) (pa_cons (pe_op op_cat (pe_slice sl_list (pv 1) po_none (po_some (pv 4))) (pe_slice sl_list (pv 1) (po_some (pe_op op_add (pv 4) pe_int)) po_none)) (pa_cons (pe_op op_sub (pv 2) (pe_ix ix_list (pe_ix ix_list (pv 0) pe_int (fun _ _ => rfl)) (pv 5) (fun _ _ => rfl))) pa_nil))) (Nat.le_refl _))))
          (pss_one (ps_set (i := 3) sc44.nd rfl (Or.inl rfl) (pe_op op_add (pv 3) (pe_ix ix_list (pe_lst (pa_cons (pv 7) (pa_cons (pe_op op_sub pe_int (pv 7)) pa_nil))) (pe_op op_mod (pv 4) pe_int) (fun _ _ => rfl))))))
          pss_nil))))
      (pss_one (ps_ret (pv 3))))), ?_⟩
    cases fs with
    | nil => simp at hf
    | cons g fs =>
      cases hrs with
      | @cons _ r0 _ rs h0 ht =>
      refine ⟨_, rfl, (by show 0 ≤ sizeLine; decide), fun pe hpe => ⟨.list (cols.map fun n : Nat => PyData.int (n : Int)), .list [], .lst (SqL.of (same_new hpe _ _ _ hc)) (dp_ints cols), .lst (SqL.of upd_same) .nil, shaped_cols cols, rfl, _, rfl, ?_⟩⟩
      have e0 : cols.isEmpty = false := by cases cols with
        | nil => simp at hl
        | cons y cols => rfl
      rw [eqv_cols, e0]
      have sE := same_new hpe (.lst [])
      refine iteF ⟨_, rfl, c, _, rfl, SqL.of (sE _ _ hc), ?_⟩
      have hfl : fs.length = n := by simpa using hf
      have w2 : Walk (Ite K c) cols.length (fun H => SqL K H c (tv cols)) (YPair (fun i => some (.int (i : Nat))) (fun i => (tv cols)[i]?)) := by
        have := walk_enum (K := K) (a := c) (xs := tv cols)
        rwa [tv_len] at this
      refine for_it w2 (fun i σ H2 => ∃ x v4 v5 v6 v7, σ = [some (.ref p), some (.ref c), some (.int L), some (.int x), v4, v5, v6, v7] ∧ Same H H2 ∧ x + sgn i * GS.E (cols.drop i) (fun y r => chI L (g y) * WB fs (cols.take i ++ r) (L - g y)) = WB (g :: fs) cols L)
        ⟨0, none, none, none, none, rfl, sE, ?_⟩ (fun i σ H2 _ z => by obtain ⟨_, _, _, _, _, _, s2, _⟩ := z; exact SqL.of (s2 _ _ hc)) ?_ ?_
      · rw [List.drop_zero, List.take_zero]
        show 0 + 1 * _ = _
        rw [Int.zero_add, Int.one_mul]
        rfl
      · rintro i x σ H2 H2' hi ⟨t, v4, v5, v6, v7, rfl, s2, ht2⟩ ⟨tp, x1, x2, rfl, htp, rfl, hx1, hx2⟩
        cases hx1
        obtain ⟨b, hb2⟩ : ∃ b, cols[i]? = some b := ⟨_, List.getElem?_eq_getElem hi⟩
        have hx3 : x2 = vN b := by
          have hx2' : (tv cols)[i]? = some x2 := hx2
          unfold tv at hx2'
          rw [List.getElem?_map, hb2] at hx2'
          exact (Option.some.inj hx2').symm
        subst hx3
        have hbN : b < N := hy b (List.mem_of_getElem? hb2)
        have s3 := s2.trans (same_new htp (.tup [V.int (i : Nat), vN b]))
        have hp3 := s3 _ _ hp
        have h03 := s3 _ _ h0
        refine ⟨tp, _, rfl, SqT.of upd_same, rfl, _, _, rfl, _, _, rfl, rfl, ?_⟩
        refine ⟨_, rfl, _, rfl, p, _, _, _, rfl, rfl, SqL.of hp3, (show atI (V.ref r0 :: rs.map V.ref) ((0 : Nat) : Int) = some (.ref r0) from atI_nat rfl), _, rfl, r0, _, _, _, rfl, rfl, SqL.of h03, atI_nat (rowV_get hbN), ?_⟩
        refine ⟨L, g b, rfl, hL, ?_⟩
        refine ⟨_, rfl, _, _, rfl, rfl, _, rfl, ?_⟩
        rw [E_turn (g := fun y r => chI L (g y) * WB fs r (L - g y)) hb2 t] at ht2
        by_cases cz : 0 < chI L (g b)
        · rw [decide_eq_true cz]
          have hg0 : 0 ≤ g b := by
            rcases ilg (g b) 0 with z | z
            · rw [chI_neg z] at cz; omega
            · exact z
          refine iteT ⟨_, rfl, _, rfl, 1, rfl, ?_⟩
          unfold tNoPart
          refine ⟨p, _, rfl, SqL.of hp3, fun p1 hp1 => ?_⟩
          have ec1 : cutV (List.map V.ref (r0 :: rs)) (some 1) none = rs.map V.ref := cutD _ (r := 1)
          rw [ec1]
          have s4 := s3.trans (same_new hp1 (.lst (rs.map V.ref)))
          have g1 : upd (upd H2 tp (.tup [V.int (i : Nat), vN b])) p1 (.lst (rs.map V.ref)) p1 = some (.lst (rs.map V.ref)) := upd_same
          generalize upd (upd H2 tp (.tup [V.int (i : Nat), vN b])) p1 (.lst (rs.map V.ref)) = Ha at s4 g1 ⊢
          refine ⟨_, rfl, _, rfl, (i : Int), rfl, c, _, rfl, SqL.of (s4 _ _ hc), fun p2 hp2 => ?_⟩
          rw [cut_to (Nat.le_of_lt hi)]
          have s5 := s4.trans (same_new hp2 (.lst (tv (cols.take i))))
          have g12 := same_new hp2 (.lst (tv (cols.take i))) _ _ g1
          have g2 : upd Ha p2 (.lst (tv (cols.take i))) p2 = some (.lst (tv (cols.take i))) := upd_same
          generalize upd Ha p2 (.lst (tv (cols.take i))) = Hb at s5 g12 g2 ⊢
          refine ⟨_, rfl, _, rfl, _, _, rfl, rfl, (i : Int) + 1, rfl, ?_⟩
          refine ⟨c, _, rfl, SqL.of (s5 _ _ hc), fun p3 hp3' => ?_⟩
          have ei : (i : Int) + 1 = ((i + 1 : Nat) : Int) := by omega
          rw [ei, cut_from]
          have s6 := s5.trans (same_new hp3' (.lst (tv (cols.drop (i + 1)))))
          have g13 := same_new hp3' (.lst (tv (cols.drop (i + 1)))) _ _ g12
          have g23 := same_new hp3' (.lst (tv (cols.drop (i + 1)))) _ _ g2
          have g3 : upd Hb p3 (.lst (tv (cols.drop (i + 1)))) p3 = some (.lst (tv (cols.drop (i + 1)))) := upd_same
          generalize upd Hb p3 (.lst (tv (cols.drop (i + 1)))) = Hc at s6 g13 g23 g3 ⊢
          refine ⟨p2, p3, _, _, rfl, rfl, g23, g3, (by rw [tv_len, tv_len, List.length_take, List.length_drop]; exact small (by omega)), fun p4 hp4 => ?_⟩
          rw [← tv_append]
          have s7 := s6.trans (same_new hp4 (.lst (tv (cols.take i ++ cols.drop (i + 1)))))
          have hp7 := s7 _ _ hp
          have h07 := s7 _ _ h0
          refine ⟨_, rfl, _, rfl, p, _, _, _, rfl, rfl, SqL.of hp7, (show atI (V.ref r0 :: rs.map V.ref) ((0 : Nat) : Int) = some (.ref r0) from atI_nat rfl), _, rfl, r0, _, _, _, rfl, rfl, SqL.of h07, atI_nat (rowV_get hbN), _, _, rfl, rfl, ?_⟩
          refine ⟨p1, p4, L - g b, fs, rs, cols.take i ++ cols.drop (i + 1), rfl, same_new hp4 _ _ _ g13, rows_same s7 ht, upd_same, hfl, ?_, fun y hy2 => hy y (take_drop_mem hy2), by omega, by omega, fun H8 s8 => ?_⟩
          · rw [List.length_append, List.length_take, List.length_drop]
            omega
          have hch : chI L (g b) ≤ 2 ^ 60 := chI_le (n := 60) hL
          have hch2 : (2 : Int) ^ 60 < 2 ^ 64 := by decide
          refine ⟨_, _, rfl, rfl, .inl ⟨by omega, by omega⟩, ?_⟩
          refine ⟨_, rfl, _, rfl, _, rfl, _, _, rfl, rfl, (by show 2 ≤ sizeLine; decide), fun p5 hp5 => ⟨_, rfl, (i : Int), 2, rfl, rfl, (show (0 : Int) < 2 by decide), p5, _, _, _, rfl, rfl, SqL.of upd_same, pick_sgn, ?_⟩⟩
          have s9 := (s7.trans s8).trans (same_new hp5 (.lst [.int (chI L (g b) * WB fs (cols.take i ++ cols.drop (i + 1)) (L - g b)), .int (0 - chI L (g b) * WB fs (cols.take i ++ cols.drop (i + 1)) (L - g b))]))
          refine ⟨t, (if i % 2 = 0 then chI L (g b) * WB fs (cols.take i ++ cols.drop (i + 1)) (L - g b) else 0 - chI L (g b) * WB fs (cols.take i ++ cols.drop (i + 1)) (L - g b)), rfl, pick_v, t + sgn i * (chI L (g b) * WB fs (cols.take i ++ cols.drop (i + 1)) (L - g b)), some (.int (i : Nat)), some (vN b), some (.int (chI L (g b))), some (.int (chI L (g b) * WB fs (cols.take i ++ cols.drop (i + 1)) (L - g b))), ?_, s9, ht2⟩
          rw [← sgn_pick]
          rfl
        · rw [decide_eq_false cz]
          have e1 : chI L (g b) = 0 := by have := chI_nonneg L (g b); omega
          refine iteF ⟨t, some (.int (i : Nat)), some (vN b), some (.int (chI L (g b))), v7, rfl, s3, ?_⟩
          rw [e1, Int.zero_mul, Int.mul_zero, Int.add_zero] at ht2
          exact ht2
      · rintro σ H2 ⟨t, v4, v5, v6, v7, rfl, s2, ht2⟩
        rw [List.drop_length, GS.E, Int.mul_zero, Int.add_zero] at ht2
        rw [ht2]
        exact ⟨_, rfl, q H2 s2⟩
end
end GW
namespace GW
open PySem PySem.Spec PyProof.Rows L2 GR GS
theorem rgV_tv (n : Nat) : rgV 0 (n : Int) = tv (List.range n) := by
  unfold rgV tv
  rw [show ((n : Int) - 0).toNat = n by omega]
  refine List.map_congr_left fun i _ => ?_
  show V.int _ = V.int _
  rw [Int.zero_add]
theorem rg_ok {n : Nat} (h : n ≤ 1000) : RgOk 0 (n : Int) := RgOk.of_le (by omega) (by omega) (by omega) (by omega)
/-- a row of a square, not the list that is being filled -/
def RowV (N : Nat) (D : Addr) (g : Nat → Int) (v : V) (H : Hp) : Prop := ∃ r, v = .ref r ∧ r ≠ D ∧ H r = some (.lst (rowV N g))
theorem RowV.keep {N : Nat} {D : Addr} {g : Nat → Int} {v : V} {H H' : Hp} (k : ∀ b o, b ≠ D → H b = some o → H' b = some o) (h : RowV N D g v H) : RowV N D g v H' := by
  obtain ⟨r, e, hn, h1⟩ := h
  exact ⟨r, e, hn, k _ _ hn h1⟩
theorem rows_all {N : Nat} {D : Addr} {H : Hp} {G : Nat → Nat → Int} : ∀ {is : List Nat} {vs : List V}, Paired (fun i v => RowV N D (G i) v H) is vs → ∃ rs : List Addr, vs = rs.map V.ref ∧ RowsH N H (is.map G) rs
  | _, _, .nil => ⟨[], rfl, .nil⟩
  | _, _, .cons h t => by
    obtain ⟨r, e, hn, h1⟩ := h
    obtain ⟨rs, e2, h3⟩ := rows_all t
    exact ⟨r :: rs, by rw [e, e2]; rfl, .cons h1 h3⟩
theorem new_ne {H : Hp} {a p : Addr} {o : HO} (h : H a = some o) (hp : H p = none) : p ≠ a := fun z => by rw [z, h] at hp; cases hp
section
variable {P : Program} {w : World} {K : PySem.W.Frag} {mg : Str → Option Value} {base : Heap} {f : Nat → Addr} {d : Nat → FuncData}

/-! ### chains_by_square -/
def spBySq : Sp := fun vs H Q _ => ∃ (a b : Addr) (m l : List Nat), vs = [.ref a, .ref b] ∧ ShH H a m ∧ ShH H b l ∧ Bx 7 7 m ∧ Bx 7 7 l ∧ ∀ H', Same H H' → Q (vN (F m l)) H'
theorem sc45 : FnScope ["one", "other", "sides", "square", "i", "j"] ["one", "other"] (defScope S45) := ⟨rfl, rfl, rfl, by decide +kernel, rfl, by decide +kernel, by decide +kernel⟩
def sqF (m l : List Nat) (i : Nat) : Nat → Int := fun j => (row l i : Int) - (i : Int) - (row m j : Int) + (j : Int)
theorem adet_is (m l : List Nat) (L : Int) : Adet l.length m l L = WB ((List.range l.length).map (sqF m l)) (List.range l.length) L := by
  unfold Adet D
  rw [List.map_map]
  congr 1
  refine List.map_congr_left fun i _ => ?_
  funext j
  show aOf l i - aOf m j = _
  unfold aOf sqF
  omega
theorem ok45 (T : Txt K mg f d) : FnOk P w K mg base CX0 10 (f 45) (d 45) ["one", "other"] spBySq := by
  refine T.chains_by_square.F.ok sc45 (fun vs H Q E h => ?_) (fun cdv A outer s H vs Q E hr h => ?_)
  · obtain ⟨a, b, m, l, rfl, _⟩ := h
    rfl
  obtain ⟨a, b, m, l, rfl, ha, hb, hm, hl, q⟩ := h
  have hl7 := hl.len
  refine ⟨_, pss_cons (ps_if (pt_not (pt_val (dcall T.lies_within (ok30 T) hr (pa_cons (pv 0) (pa_cons (pv 1) pa_nil))))) (pss_one (ps_ret pe_int)) pss_nil)
    (pss_cons (ps_set (i := 2) sc45.nd rfl (Or.inr rfl) (pe_listRg rfl (by rfl) T.b_list (prg_1 (by rfl) T.b_range (pe_callB call_len' (by rfl) T.b_len PySem.boot_len (pa_cons (pv 1) pa_nil)))))
    (pss_cons (ps_setLc (i := 3) (own := [("i", 4)]) (g := gName 4) (by rfl) sc45.nd rfl rfl (sw_true rfl rfl rfl (by decide +kernel)) (pi_list (pv 2)) (blkOk_by (N := ["one", "other", "sides", "square", "i", "j"]) (sc := defScope S45) (by decide +kernel))
      (fun _ _ _ _ _ => pg_name (i := 4) sc45.nd rfl (Or.inr rfl)) (fun _ _ _ _ _ => pts_nil)
      (fun _ _ _ _ _ => pe_lc (own := [("j", 5)]) (g := gName 5) rfl sc45.nd (show PI _ _ _ (iList K (tVar 2)) from pi_list (pv 2)) (blkOk_by (N := ["one", "other", "sides", "square", "i", "j"]) (sc := relS _ (defScope S45)) (by decide +kernel)) (fun _ _ _ _ _ => pg_name (i := 5) sc45.nd rfl (Or.inl rfl)) (fun _ _ _ _ _ => pts_nil)
        (fun _ _ _ _ _ => pe_op op_add (pe_op op_sub (pe_op op_sub (pe_ix (show IxR _ (rIxT K) from ix_tup) (pv 1) (pv 4) (fun _ _ => rfl)) (pv 4)) (dcall T.row_of (ok12 T) hr (pa_cons (pv 0) (pa_cons (pv 5) pa_nil)))) (pv 5))))
    (pss_one (ps_ret (dcall T.ways_by (ok44 T l.length l.length) hr (pa_cons (pv 3) (pa_cons (pv 2) (pa_cons (pe_op op_sub (dcall T.cells_in (ok13 T) hr (pa_cons (pv 1) pa_nil)) (dcall T.cells_in (ok13 T) hr (pa_cons (pv 0) pa_nil))) pa_nil))) (by omega)))))), ?_⟩
  have hm1 : m.length ≤ 1000 := by have := hm.len; omega
  have hl1 : l.length ≤ 1000 := by omega
  refine ⟨_, rfl, _, rfl, a, b, m, l, rfl, ha, hb, hm1, fun H1 s1 => ⟨wiB m l, rfl, ?_⟩⟩
  cases e : wiB m l with
  | false =>
    have z := F_not (m := m) (l := l) hm fun h => by rw [(wiB_iff hm.sh).mpr h] at e; cases e
    rw [z] at q
    exact iteT (q H1 s1)
  | true =>
    have hw := (wiB_iff hm.sh).mp e
    have hb1 := s1 _ _ hb
    refine iteF ⟨_, rfl, b, _, rfl, .inr (SqT.of hb1), _, rfl, ?_⟩
    rw [tv_len]
    refine ⟨rg_ok hl1, fun ps hps => ?_⟩
    rw [rgV_tv]
    have s2 := s1.trans (same_new hps (.lst (tv (List.range l.length))))
    have hs2 : upd H1 ps (.lst (tv (List.range l.length))) ps = some (.lst (tv (List.range l.length))) := upd_same
    generalize upd H1 ps (.lst (tv (List.range l.length))) = H2 at s2 hs2 ⊢
    refine ⟨_, rfl, ps, rfl, ⟨_, SqL.of hs2⟩, fun D hD => ?_⟩
    refine lc_pure (src := List.range l.length) walk_lv hD (fun _ => true) (fun i => RowV l.length D (sqF m l i)) (by rw [List.length_range]; exact smallL (by omega)) (fun i v H H' acc hD k h => h.keep k) (fun H' s' => s' _ _ hs2) ?_ ?_
    · rintro i i' hi2 H3 x H3' acc s3 hacc ⟨rfl, hx⟩ A B h1 _
      obtain rfl := hx i' hi2
      obtain ⟨hi, rfl⟩ := mem_rng hi2
      refine ⟨rfl, yes ⟨_, rfl, ps, rfl, ⟨_, SqL.of (s3 _ _ hs2)⟩, fun D2 hD2 => ?_⟩⟩
      refine lc_vals (src := List.range l.length) walk_lv hD2 (fun _ => true) (fun j => .int (sqF m l i j)) (by rw [List.length_range]; exact smallL (by omega)) (fun H' s' => s' _ _ (s3 _ _ hs2)) ?_ ?_
      · rintro j j' hj2 H4 x H4' acc2 s4 hacc2 ⟨rfl, hx⟩ A2 B2 k1 _
        obtain rfl := hx j' hj2
        obtain ⟨hj, rfl⟩ := mem_rng hj2
        have s24 := s2.trans (s3.trans s4)
        exact ⟨rfl, yes ⟨_, rfl, _, rfl, b, _, _, _, rfl, rfl, SqT.of (s24 _ _ hb), atI_nat (tv_get hi), _, rfl, _, _, rfl, rfl, _, rfl, _, rfl, a, m, j, rfl, s24 _ _ ha, _, _, rfl, rfl, _, rfl, _, _, rfl, rfl, k1 rfl _ (Same.refl _)⟩⟩
      · intro H5 s5 hD5
        rw [filter_true] at hD5
        refine h1 rfl _ _ s5 ⟨D2, rfl, new_ne hacc hD2, hD5⟩
    · intro acc H3 s3 hacc hp3
      rw [filter_true] at hp3
      obtain ⟨rs, rfl, hrs⟩ := rows_all hp3
      have s4 := s2.trans s3
      have hbs := bx_sum hl
      refine ⟨_, rfl, _, rfl, _, rfl, b, l, rfl, s4 _ _ hb, hl1, _, rfl, a, m, rfl, s4 _ _ ha, hm1, _, _, rfl, rfl, ?_⟩
      refine ⟨D, ps, _, (List.range l.length).map (sqF m l), rs, List.range l.length, rfl, hacc, hrs, s3 _ _ hs2, by simp, by simp, fun y hy => List.mem_range.mp hy, hl1, by omega, fun H5 s5 => ?_⟩
      rw [← adet_is, ← F_square hm hl hw]
      exact q H5 (s4.trans s5)
end
end GW
namespace GW
open PySem PySem.Spec PyProof.Rows L2 GR GS
theorem filter_true' {α : Type} (l : List α) : l.filter (fun _ => true) = l := filter_true l
section
variable {P : Program} {w : World} {K : PySem.W.Frag} {mg : Str → Option Value} {base : Heap} {f : Nat → Addr} {d : Nat → FuncData}
def spIsSq : Sp := fun vs H Q _ => ∃ (p : Addr) (fs : List (Nat → Int)) (rs : List Addr), vs = [.ref p] ∧ H p = some (.lst (rs.map V.ref)) ∧ RowsH fs.length H fs rs ∧ fs.length ≤ 6 ∧ ∀ H', Same H H' → Q (.bl true) H'
theorem sc39 : FnScope ["thing", "row", "number"] ["thing"] (defScope S39) := ⟨rfl, rfl, rfl, by decide +kernel, rfl, by decide +kernel, by decide +kernel⟩
theorem ok39 (T : Txt K mg f d) : FnOk P w K mg base CX0 2 (f 39) (d 39) ["thing"] spIsSq := by
  refine T.is_square.F.ok sc39 (fun vs H Q E h => ?_) (fun cdv A outer s H vs Q E hr h => ?_)
  · obtain ⟨p, fs, rs, rfl, _⟩ := h
    rfl
  obtain ⟨p, fs, rs, rfl, hp, hrs, h6, q⟩ := h
  obtain ⟨t6, hs6⟩ := T.side
  refine ⟨_, pss_cons (ps_if (PW.pt (pw_or (pt_not (pt_val (pe_callB call_isi (by rfl) T.b_isinstance (by decide +kernel) (pa_cons (pv 0) (pa_cons (pe_bltn (v := .ty "list") (by rfl) T.b_list (by decide +kernel) rfl) pa_nil))))) (pw_or1 (pt_cmpR op_gt (pe_callB call_len' (by rfl) T.b_len PySem.boot_len (pa_cons (pv 0) pa_nil)) (pe_glob (v := .int 6) (by rfl) hs6 ⟨_, rfl⟩) (nomark _))))) (pss_one (ps_ret pe_bl)) pss_nil)
    (pss_cons (ps_for PassesOwn.never rfl (pi_list (pv 0)) (pg_name (i := 1) sc39.nd rfl (Or.inl rfl))
      (pss_one (ps_if (PW.pt (pw_or (pt_not (pt_val (pe_callB call_isi (by rfl) T.b_isinstance (by decide +kernel) (pa_cons (pv 1) (pa_cons (pe_bltn (v := .ty "list") (by rfl) T.b_list (by decide +kernel) rfl) pa_nil))))) (pw_or (pt_cmpR op_ne (pe_callB call_len' (by rfl) T.b_len PySem.boot_len (pa_cons (pv 1) pa_nil)) (pe_callB call_len' (by rfl) T.b_len PySem.boot_len (pa_cons (pv 0) pa_nil)) (nomark _))
        (pw_or1 (pt_not (pt_val (pe_callB (cr_all rfl) (by rfl) T.b_all (by decide +kernel) (pa_cons (pe_lc (own := [("number", 2)]) (g := gName 2) rfl sc39.nd (pi_list (pv 1)) (blkOk_by (N := ["thing", "row", "number"]) (sc := defScope S39) (by decide +kernel)) (fun _ _ _ _ _ => pg_name (i := 2) sc39.nd rfl (Or.inl rfl)) (fun _ _ _ _ _ => pts_nil)
          (fun _ _ _ _ _ => dcall T.is_whole (ok11 T) hr (pa_cons (pv 2) pa_nil))) pa_nil)))))))) (pss_one (ps_ret pe_bl)) pss_nil)))
    (pss_one (ps_ret pe_bl))), ?_⟩
  have hlen : rs.length = fs.length := (plen hrs).symm
  refine ⟨_, rfl, _, _, _, _, true, rfl, .ty "list", .base (.lst hp), kit_ty (by decide +kernel), true, rfl, ?_⟩
  refine iteF ⟨_, rfl, p, _, rfl, .inl (SqL.of hp), _, _, rfl, rfl, false, ?_, iteF ?_⟩
  · show V.bl (decide ((6 : Int) < ((rs.map V.ref).length : Nat))) = V.bl false
    rw [List.length_map, hlen, decide_eq_false (by omega)]
  refine ⟨_, rfl, p, rfl, ⟨_, SqL.of hp⟩, ?_⟩
  refine for_it (walk_list (xs := rs.map V.ref)) (fun i σ H2 => ∃ v1 v2, σ = [some (.ref p), v1, v2] ∧ Same H H2) ⟨none, none, rfl, Same.refl _⟩ (fun i σ H2 _ z => by obtain ⟨_, _, _, s2⟩ := z; exact SqL.of (s2 _ _ hp)) ?_ ?_
  · rintro i x σ H2 H2' hi ⟨v1, v2, rfl, s2⟩ ⟨rfl, hx⟩
    rw [List.length_map, hlen] at hi
    obtain ⟨g, hg⟩ : ∃ g, fs[i]? = some g := ⟨_, List.getElem?_eq_getElem hi⟩
    obtain ⟨r, hr2, hrow⟩ := pget hrs hg
    rw [List.getElem?_map, hr2] at hx
    obtain rfl := Option.some.inj hx
    have hrow2 := s2 _ _ hrow
    refine ⟨_, rfl, _, _, _, _, true, rfl, .ty "list", .base (.lst hrow2), kit_ty (by decide +kernel), true, rfl, ?_⟩
    refine iteF ⟨_, rfl, r, _, rfl, .inl (SqL.of hrow2), _, rfl, p, _, rfl, .inl (SqL.of (s2 _ _ hp)), rfl, false, ?_, iteF ?_⟩
    · show V.bl (!decide (V.int ((rowV fs.length g).length : Nat) = V.int ((rs.map V.ref).length : Nat))) = V.bl false
      have : (rowV fs.length g).length = (rs.map V.ref).length := by
        unfold rowV
        rw [List.length_map, List.length_map, List.length_range, hlen]
      rw [this, decide_eq_true rfl]
      rfl
    refine ⟨_, rfl, r, rfl, ⟨_, SqL.of hrow2⟩, fun D hD => ?_⟩
    have w2 : Walk (Itl K r) (List.range fs.length).length (fun H => SqL K H r (rowV fs.length g)) (YAt (rowV fs.length g)) := by
      have := walk_list (K := K) (a := r) (xs := rowV fs.length g)
      unfold rowV at this ⊢
      rwa [List.length_map] at this
    refine lc_vals (src := List.range fs.length) w2 hD (fun _ => true) (fun _ => .bl true) (by rw [List.length_range]; exact smallL (by omega)) (fun H' s' => SqL.of (s' _ _ hrow2)) ?_ ?_
    · rintro j j' hj2 H3 x H3' acc s3 hacc ⟨rfl, hx⟩ A B h1 _
      obtain ⟨hj, rfl⟩ := mem_rng hj2
      rw [rowV_get hj] at hx
      obtain rfl := Option.some.inj hx
      exact ⟨rfl, yes ⟨_, rfl, g j, rfl, h1 rfl _ (Same.refl _)⟩⟩
    · intro H3 s3 hD3
      rw [filter_true] at hD3
      refine ⟨D, (List.range fs.length).map fun _ => true, rfl, SqL.of (by rw [hD3, List.map_map]; rfl), true, ?_, iteF ⟨some (.ref r), v2, rfl, s2.trans s3⟩⟩
      have : ((List.range fs.length).map fun _ => true).all id = true := by simp
      rw [this]
  · rintro σ H2 ⟨v1, v2, rfl, s2⟩
    exact q H2 s2
def spSqW : Sp := fun vs H Q _ => ∃ (p : Addr) (fs : List (Nat → Int)) (rs : List Addr), vs = [.ref p] ∧ H p = some (.lst (rs.map V.ref)) ∧ RowsH fs.length H fs rs ∧ fs.length ≤ 6 ∧ (∀ g ∈ fs, ∀ y, y < fs.length → -(2 ^ 64) < g y ∧ g y < 2 ^ 64) ∧ ∀ H', Same H H' → Q (.int (WR fs (List.range fs.length))) H'
theorem sc41 : FnScope ["square"] ["square"] (defScope S41) := ⟨rfl, rfl, rfl, by decide +kernel, rfl, by decide +kernel, by decide +kernel⟩
theorem ok41 (T : Txt K mg f d) : FnOk P w K mg base CX0 10 (f 41) (d 41) ["square"] spSqW := by
  refine T.square_worth.F.ok sc41 (fun vs H Q E h => ?_) (fun cdv A outer s H vs Q E hr h => ?_)
  · obtain ⟨p, fs, rs, rfl, _⟩ := h
    rfl
  obtain ⟨p, fs, rs, rfl, hp, hrs, h6, hb, q⟩ := h
  refine ⟨_, pss_cons (ps_if (pt_not (pt_val (dcall T.is_square (ok39 T) hr (pa_cons (pv 0) pa_nil)))) (pss_one ps_never) pss_nil)
    (pss_one (ps_ret (dcall T.worth_of (ok40 T fs.length fs.length) hr (pa_cons (pv 0) (pa_cons (pe_listRg rfl (by rfl) T.b_list (prg_1 (by rfl) T.b_range (pe_callB call_len' (by rfl) T.b_len PySem.boot_len (pa_cons (pv 0) pa_nil)))) pa_nil)) (by omega)))), ?_⟩
  refine ⟨_, rfl, p, fs, rs, rfl, hp, hrs, h6, fun H1 s1 => ⟨true, rfl, iteF ?_⟩⟩
  have hp1 := s1 _ _ hp
  have hlen : rs.length = fs.length := (plen hrs).symm
  refine ⟨_, rfl, _, rfl, p, _, rfl, .inl (SqL.of hp1), _, rfl, ?_⟩
  rw [List.length_map, hlen]
  refine ⟨rg_ok (by omega), fun ps hps => ?_⟩
  rw [rgV_tv]
  have s2 := s1.trans (same_new hps (.lst (tv (List.range fs.length))))
  exact ⟨p, ps, fs, rs, List.range fs.length, rfl, s2 _ _ hp, rows_same s2 hrs, upd_same, rfl, by simp, fun y hy => List.mem_range.mp hy, by omega, hb, fun H3 s3 => q H3 (s2.trans s3)⟩
/-! ### stacks_by_square -/
def spStSq : Sp := fun vs H Q _ => ∃ (a b : Addr) (m l : List Nat) (k : Nat), vs = [.ref a, .ref b, vN k] ∧ ShH H a m ∧ ShH H b l ∧ Bx 6 6 m ∧ Bx 6 6 l ∧ wi m l ∧ k ≤ 10 ∧ ∀ H', Same H H' → Q (.int (dtN l.length k m l)) H'
theorem sc46 : FnScope ["one", "other", "k", "sides", "i", "j"] ["one", "other", "k"] (defScope S46) := ⟨rfl, rfl, rfl, by decide +kernel, rfl, by decide +kernel, by decide +kernel⟩
theorem ok46 (T : Txt K mg f d) : FnOk P w K mg base CX0 11 (f 46) (d 46) ["one", "other", "k"] spStSq := by
  refine T.stacks_by_square.F.ok sc46 (fun vs H Q E h => ?_) (fun cdv A outer s H vs Q E hr h => ?_)
  · obtain ⟨a, b, m, l, k, rfl, _⟩ := h
    rfl
  obtain ⟨a, b, m, l, k, rfl, ha, hb, hm, hl, hw, hk, q⟩ := h
  have hl6 := hl.len
  refine ⟨_, pss_cons (ps_if (pt_not (pt_val (dcall T.lies_within (ok30 T) hr (pa_cons (pv 0) (pa_cons (pv 1) pa_nil))))) (pss_one (ps_ret pe_int)) pss_nil)
    (pss_cons (ps_set (i := 3) sc46.nd rfl (Or.inr rfl) (pe_listRg rfl (by rfl) T.b_list (prg_1 (by rfl) T.b_range (pe_callB call_len' (by rfl) T.b_len PySem.boot_len (pa_cons (pv 1) pa_nil)))))
    (pss_one (ps_ret (dcall T.square_worth (ok41 T) hr (pa_cons (pe_lc (own := [("i", 4)]) (g := gName 4) rfl sc46.nd (pi_list (pv 3)) (blkOk_by (N := ["one", "other", "k", "sides", "i", "j"]) (sc := defScope S46) (by decide +kernel))
      (fun _ _ _ _ _ => pg_name (i := 4) sc46.nd rfl (Or.inr rfl)) (fun _ _ _ _ _ => pts_nil)
      (fun _ _ _ _ _ => pe_lc (own := [("j", 5)]) (g := gName 5) rfl sc46.nd (show PI _ _ _ (iList K (tVar 3)) from pi_list (pv 3)) (blkOk_by (N := ["one", "other", "k", "sides", "i", "j"]) (sc := relS _ (defScope S46)) (by decide +kernel)) (fun _ _ _ _ _ => pg_name (i := 5) sc46.nd rfl (Or.inl rfl)) (fun _ _ _ _ _ => pts_nil)
        (fun _ _ _ _ _ => dcall T.choices_of (ok42 T) hr (pa_cons (pe_op op_add (pe_op op_sub (pe_ix (show IxR _ (rIxT K) from ix_tup) (pv 1) (pv 4) (fun _ _ => rfl)) (dcall T.row_of (ok12 T) hr (pa_cons (pv 0) (pa_cons (pv 5) pa_nil)))) (pv 2)) (pa_cons (pe_op op_add (pe_op op_sub (pv 4) (pv 5)) (pv 2)) pa_nil))))) pa_nil))))), ?_⟩
  have hm1 : m.length ≤ 1000 := by have := hm.len; omega
  have hl1 : l.length ≤ 1000 := by omega
  refine ⟨_, rfl, _, rfl, a, b, m, l, rfl, ha, hb, hm1, fun H1 s1 => ⟨wiB m l, rfl, ?_⟩⟩
  have e := (wiB_iff (m := l) hm.sh).mpr hw
  rw [e]
  have hb1 := s1 _ _ hb
  refine iteF ⟨_, rfl, b, _, rfl, .inr (SqT.of hb1), _, rfl, ?_⟩
  rw [tv_len]
  refine ⟨rg_ok hl1, fun ps hps => ?_⟩
  rw [rgV_tv]
  have s2 := s1.trans (same_new hps (.lst (tv (List.range l.length))))
  have hs2 : upd H1 ps (.lst (tv (List.range l.length))) ps = some (.lst (tv (List.range l.length))) := upd_same
  generalize upd H1 ps (.lst (tv (List.range l.length))) = H2 at s2 hs2 ⊢
  refine ⟨_, rfl, ps, rfl, ⟨_, SqL.of hs2⟩, fun D hD => ?_⟩
  refine lc_pure (src := List.range l.length) walk_lv hD (fun _ => true) (fun i => RowV l.length D (rS m k i (row l i))) (by rw [List.length_range]; exact smallL (by omega)) (fun i v H H' acc hD k h => h.keep k) (fun H' s' => s' _ _ hs2) ?_ ?_
  · rintro i i' hi2 H3 x H3' acc s3 hacc ⟨rfl, hx⟩ A B h1 _
    obtain rfl := hx i' hi2
    obtain ⟨hi, rfl⟩ := mem_rng hi2
    refine ⟨rfl, yes ⟨_, rfl, ps, rfl, ⟨_, SqL.of (s3 _ _ hs2)⟩, fun D2 hD2 => ?_⟩⟩
    refine lc_vals (src := List.range l.length) walk_lv hD2 (fun _ => true) (fun j => .int (rS m k i (row l i) j)) (by rw [List.length_range]; exact smallL (by omega)) (fun H' s' => s' _ _ (s3 _ _ hs2)) ?_ ?_
    · rintro j j' hj2 H4 x H4' acc2 s4 hacc2 ⟨rfl, hx⟩ A2 B2 k1 _
      obtain rfl := hx j' hj2
      obtain ⟨hj, rfl⟩ := mem_rng hj2
      have s24 := s2.trans (s3.trans s4)
      have hwd := hl.wide i
      refine ⟨rfl, yes ⟨_, rfl, _, rfl, b, _, _, _, rfl, rfl, SqT.of (s24 _ _ hb), atI_nat (tv_get hi), _, rfl, _, rfl, a, m, j, rfl, s24 _ _ ha, _, _, rfl, rfl, _, rfl, _, _, rfl, rfl, _, rfl, _, rfl, _, _, rfl, rfl, _, rfl, _, _, rfl, rfl, _, _, rfl, ?_, k1 rfl _ (Same.refl _)⟩⟩
      show (row l i : Int) - (row m j : Int) + (k : Int) ≤ 60
      omega
    · intro H5 s5 hD5
      rw [filter_true] at hD5
      refine h1 rfl _ _ s5 ⟨D2, rfl, new_ne hacc hD2, hD5⟩
  · intro acc H3 s3 hacc hp3
    rw [filter_true] at hp3
    obtain ⟨rs, rfl, hrs⟩ := rows_all hp3
    have s4 := s2.trans s3
    have hfl : ((List.range l.length).map fun i => rS m k i (row l i)).length = l.length := by simp
    refine ⟨D, (List.range l.length).map fun i => rS m k i (row l i), rs, rfl, hacc, ?_, by omega, ?_, fun H5 s5 => ?_⟩
    · rw [hfl]; exact hrs
    · intro g hg y _
      obtain ⟨i, hi, rfl⟩ := List.mem_map.mp hg
      have h1 := chI_nonneg ((row l i : Int) - (row m y : Int) + (k : Int)) ((i : Int) - (y : Int) + (k : Int))
      have hwd := hl.wide i
      have h2 := chI_le (n := 60) (b := (i : Int) - (y : Int) + (k : Int)) (show (row l i : Int) - (row m y : Int) + (k : Int) ≤ (60 : Nat) by omega)
      have hch2 : (2 : Int) ^ 60 < 2 ^ 64 := by decide
      show -(2 ^ 64) < chI _ _ ∧ chI _ _ < 2 ^ 64
      constructor <;> omega
    · rw [hfl]
      exact q H5 (s4.trans s5)
end
end GW
namespace GW
open PySem PySem.Spec PyProof.Rows L2 GR GS
/-- a share as a value -/
def ShV (u : List Nat) (v : V) (H : Hp) : Prop := ∃ c, v = .ref c ∧ ShH H c u
theorem ShV.keep {u : List Nat} {v : V} {H H' : Hp} {D : Addr} {acc : List V} (hD : H D = some (.lst acc)) (k : ∀ b o, b ≠ D → H b = some o → H' b = some o) (h : ShV u v H) : ShV u v H' := by
  obtain ⟨c, e, h2⟩ := h
  refine ⟨c, e, k _ _ (fun z => ?_) h2⟩
  have h2' : H c = some (.tup (tv u)) := h2
  rw [z, hD] at h2'; cases h2'
theorem shv_all {H : Hp} {α : Type} {G : α → List Nat} : ∀ {us : List α} {vs : List V}, Paired (fun a v => ShV (G a) v H) us vs → ∃ bs : List Addr, vs = bs.map V.ref ∧ ShAll H (us.map G) bs
  | _, _, .nil => ⟨[], rfl, .nil⟩
  | _, _, .cons h t => by
    obtain ⟨c, e, h2⟩ := h
    obtain ⟨bs, e2, h3⟩ := shv_all t
    exact ⟨c :: bs, by rw [e, e2]; rfl, .cons h2 h3⟩
theorem shAll_same {H H' : Hp} {Ls : List (List Nat)} {bs : List Addr} (s : Same H H') (h : ShAll H Ls bs) : ShAll H' Ls bs := pmono h fun _ _ q => s _ _ q
theorem shAll_app {H : Hp} : ∀ {Ls Ms : List (List Nat)} {bs cs : List Addr}, ShAll H Ls bs → ShAll H Ms cs → ShAll H (Ls ++ Ms) (bs ++ cs)
  | _, _, _, _, .nil, h => h
  | _, _, _, _, .cons h t, k => .cons h (shAll_app t k)
theorem shAll_upd {H : Hp} {Ls : List (List Nat)} {bs : List Addr} {p : Addr} {acc : List V} {o : HO} (hp : H p = some (.lst acc)) (h : ShAll H Ls bs) : ShAll (upd H p o) Ls bs := pmono h fun u c q => by
  have q' : H c = some (.tup (tv u)) := q
  have : c ≠ p := fun z => by rw [z, hp] at q'; cases q'
  show upd _ _ _ _ = _
  rw [upd_ne this]
  exact q
def boxUp (h i : Nat) : List (List Nat) := [] :: (List.range i).flatMap fun r => (boxS h (r + 1)).map ((r + 1) :: ·)
theorem boxUp_succ (h i : Nat) : boxUp h (i + 1) = boxUp h i ++ (boxS h (i + 1)).map ((i + 1) :: ·) := by
  unfold boxUp
  rw [List.range_succ, List.flatMap_append]
  simp
theorem box_len {h w : Nat} (hh : h ≤ 7) (hw : w ≤ 7) : (boxS h w).length ≤ 3432 := by
  have := (nodup_boxS h w).length_le_of_subset (l₂ := boxS 7 7) fun v hv => Bx.mono (l := v) hv hh hw
  rw [box7_len] at this
  exact this
theorem boxUp_len {h i : Nat} (hh : h ≤ 6) (hi : i ≤ 7) : (boxUp h i).length ≤ 3432 := box_len (h := h + 1) (w := i) (by omega) hi
section
variable {P : Program} {w : World} {K : PySem.W.Frag} {mg : Str → Option Value} {base : Heap} {f : Nat → Addr} {d : Nat → FuncData}
def spUpTo (h : Nat) : Sp := fun vs H Q _ => ∃ w : Nat, vs = [vN h, vN w] ∧ h ≤ 7 ∧ w ≤ 7 ∧ ∀ p H' bs, H p = none → Same H H' → H' p = some (.lst (bs.map V.ref)) → ShAll H' (boxS h w) bs → Q (.ref p) H'
theorem sc52 : FnScope ["high", "wide", "found", "row", "rest"] ["high", "wide"] (defScope S52) := ⟨rfl, rfl, rfl, by decide +kernel, rfl, by decide +kernel, by decide +kernel⟩
theorem ok52 (T : Txt K mg f d) : ∀ h : Nat, FnOk P w K mg base CX0 (h + 1) (f 52) (d 52) ["high", "wide"] (spUpTo h)
  | 0 => by
    refine T.shares_up_to.F.ok sc52 (fun vs H Q E h => ?_) (fun cdv A outer s H vs Q E hr h => ?_)
    · obtain ⟨w, rfl, _⟩ := h
      rfl
    obtain ⟨w, rfl, hh, hw, q⟩ := h
    refine ⟨_, pss_cons (ps_set (i := 2) sc52.nd rfl (Or.inl rfl) (pe_lst (pa_cons (pe_tup pa_nil) pa_nil))) (pss_cons (ps_if (pt_cmpR op_gt (pv 0) pe_int (nomark _)) pss_never pss_nil) (pss_one (ps_ret (pv 2)))), ?_⟩
    refine ⟨(by show 0 ≤ sizeLine; decide), fun p0 hp0 => ⟨(by show 1 ≤ sizeLine; decide), fun pf hpf => ?_⟩⟩
    refine ⟨_, rfl, _, _, rfl, rfl, false, rfl, iteF ⟨_, rfl, ?_⟩⟩
    have s1 := same_new hp0 (.tup [])
    exact q pf _ [p0] (s1.free hpf) (s1.trans (same_new hpf _)) upd_same (.cons (same_new hpf _ _ _ upd_same) .nil)
  | n + 1 => by
    have IH := ok52 T n
    refine T.shares_up_to.F.ok sc52 (fun vs H Q E h => ?_) (fun cdv A outer s H vs Q E hr h => ?_)
    · obtain ⟨w, rfl, _⟩ := h
      rfl
    obtain ⟨w, rfl, hh, hw, q⟩ := h
    refine ⟨_, pss_cons (ps_set (i := 2) sc52.nd rfl (Or.inl rfl) (pe_lst (pa_cons (pe_tup pa_nil) pa_nil))) (pss_cons (ps_if (pt_cmpR op_gt (pv 0) pe_int (nomark _))
      (pss_one (ps_for PassesOwn.never rfl (pi_range2 (by rfl) T.b_range (pa_cons pe_int (pa_cons (pe_op op_add (pv 1) pe_int) pa_nil))) (pg_name (i := 3) sc52.nd rfl (Or.inr rfl))
        (pss_one (ps_expr (pe_bm PySem.F.plainAttrs_list PySem.F.slot_list_extend PySem.F.type_list_extend mt_extend (pv 2) (pa_cons (pe_lc (own := [("rest", 4)]) (g := gName 4) rfl sc52.nd
          (pi_list (dcall T.shares_up_to IH hr (pa_cons (pe_op op_sub (pv 0) pe_int) (pa_cons (pv 3) pa_nil)) (Nat.le_refl _))) (blkOk_by (N := ["high", "wide", "found", "row", "rest"]) (sc := defScope S52) (by decide +kernel)) (fun _ _ _ _ _ => pg_name (i := 4) sc52.nd rfl (Or.inl rfl)) (fun _ _ _ _ _ => pts_nil)
          (fun _ _ _ _ _ => pe_op (show OpR _ _ (rCatA K) from op_catA) (pe_tup (pa_cons (pv 3) pa_nil)) (pv 4))) pa_nil)))))) pss_nil) (pss_one (ps_ret (pv 2)))), ?_⟩
    refine ⟨(by show 0 ≤ sizeLine; decide), fun p0 hp0 => ⟨(by show 1 ≤ sizeLine; decide), fun pf hpf => ?_⟩⟩
    refine ⟨_, rfl, _, _, rfl, rfl, true, ?_, ?_⟩
    · show V.bl (decide ((0 : Int) < ((n + 1 : Nat) : Int))) = V.bl true
      rw [decide_eq_true (by omega)]
    have s0 := same_new hp0 (.tup [])
    have g0 : upd H p0 (.tup []) p0 = some (.tup []) := upd_same
    have hHf := s0.free hpf
    have s1 := s0.trans (same_new hpf (.lst [V.ref p0]))
    have g1 := same_new hpf (.lst [V.ref p0]) _ _ g0
    have g2 : upd (upd H p0 (.tup [])) pf (.lst [V.ref p0]) pf = some (.lst [V.ref p0]) := upd_same
    generalize upd (upd H p0 (.tup [])) pf (.lst [V.ref p0]) = H1 at s1 g1 g2 ⊢
    refine iteT ?_
    refine ⟨_, rfl, _, _, rfl, rfl, 1, (w : Int) + 1, rfl, ⟨by omega, by omega, by omega, by omega⟩, ?_⟩
    rw [show ((w : Int) + 1 - 1).toNat = w by omega]
    refine for_it walk_range (fun i σ H2 => ∃ bs v3 v4, σ = [some (vN (n + 1)), some (vN w), some (.ref pf), v3, v4] ∧ Same H H2 ∧ H2 pf = some (.lst (bs.map V.ref)) ∧ ShAll H2 (boxUp n i) bs)
      ⟨[p0], none, none, rfl, s1, g2, .cons g1 .nil⟩ (fun _ _ _ _ _ => trivial) ?_ ?_
    · rintro i x σ H2 H2' hi ⟨bs, v3, v4, rfl, s2, hf2, hbs⟩ ⟨rfl, ex0⟩
      have ex : x = vN (i + 1) := by
        rw [ex0]
        show V.int (1 + (i : Int)) = V.int _
        congr 1
        omega
      subst ex
      refine ⟨_, rfl, .inl ⟨rfl, _, SqL.of hf2⟩, ?_⟩
      refine ⟨_, rfl, _, _, rfl, rfl, _, rfl, i + 1, ?_, by omega, by omega, fun ps H3 cs hps s3 h3 hcs => ⟨ps, rfl, ⟨_, SqL.of h3⟩, fun D hD => ?_⟩⟩
      · show [V.int (((n + 1 : Nat) : Int) - 1), vN (i + 1)] = [vN n, vN (i + 1)]
        have : V.int (((n + 1 : Nat) : Int) - 1) = vN n := by
          show V.int _ = V.int _
          congr 1
          omega
        rw [this]
      have elen : (boxS n (i + 1)).length = (cs.map V.ref).length := by rw [List.length_map]; exact plen hcs
      have hlb : (boxS n (i + 1)).length ≤ 3432 := box_len (by omega) (by omega)
      have w2 : Walk (Itl K ps) (boxS n (i + 1)).length (fun H => SqL K H ps (cs.map V.ref)) (YAt (cs.map V.ref)) := by
        rw [elen]
        exact walk_list
      refine lc_pure (src := boxS n (i + 1)) w2 hD (fun _ => true) (fun u v H => ShV ((i + 1) :: u) v H) (smallL (by omega)) (fun r v H H' acc hD k h => h.keep hD k) (fun H' s' => SqL.of (s' _ _ h3)) ?_ ?_
      · rintro j u hj H4 x H4' acc s4 hacc ⟨rfl, hx⟩ A B k1 _
        obtain ⟨c, hc, hcu⟩ := pget hcs hj
        rw [List.getElem?_map, hc] at hx
        obtain rfl := Option.some.inj hx
        have hub : Bx n (i + 1) u := List.mem_of_getElem? hj
        have hul := hub.len
        refine ⟨rfl, yes ⟨_, rfl, (by show 1 ≤ sizeLine; decide), fun p4 hp4 => ⟨_, rfl, ?_⟩⟩⟩
        have s5 := same_new hp4 (.tup [vN (i + 1)])
        refine cat_ok (upd_same (o := .tup [vN (i + 1)])) (s5 _ _ (s4 _ _ hcu)) (by rw [tv_len]; show 1 + u.length ≤ 10000; omega) fun p5 H5 s6 h5 => ?_
        exact k1 rfl _ _ (s5.trans s6) ⟨p5, rfl, h5⟩
      · intro acc H4 s4 hacc hp4
        rw [filter_true] at hp4
        obtain ⟨ds, rfl, hds⟩ := shv_all (G := fun u => (i + 1) :: u) hp4
        have hf4 := s4 _ _ (s3 _ _ hf2)
        have l1 : bs.length ≤ 3432 := by rw [← plen hbs]; exact boxUp_len (by omega) (by omega)
        have l2 : ds.length ≤ 3432 := by rw [← plen hds, List.length_map]; exact hlb
        refine ⟨pf, D, _, _, rfl, rfl, hf4, hacc, by rw [List.length_map, List.length_map]; exact small (by omega), ?_⟩
        refine ⟨bs ++ ds, some (vN (i + 1)), v4, rfl, same_mut ((s2.trans s3).trans s4) hHf, by rw [upd_same, List.map_append], ?_⟩
        rw [boxUp_succ]
        exact shAll_upd hf4 (shAll_app (shAll_same (s3.trans s4) hbs) hds)
    · rintro σ H2 ⟨bs, v3, v4, rfl, s2, hf2, hbs⟩
      exact ⟨_, rfl, q pf H2 bs hHf s2 hf2 hbs⟩
/-! ### shares_in, shares_of -/
def spIn : Sp := fun vs H Q _ => ∃ (a : Addr) (h w : Nat), vs = [.ref a] ∧ BxH H a h w ∧ h ≤ 7 ∧ w ≤ 7 ∧ ∀ p H' bs, H p = none → Same H H' → H' p = some (.lst (bs.map V.ref)) → ShAll H' (boxS h w) bs → Q (.ref p) H'
theorem sc53 : FnScope ["box"] ["box"] (defScope S53) := ⟨rfl, rfl, rfl, by decide +kernel, rfl, by decide +kernel, by decide +kernel⟩
theorem ok53 (T : Txt K mg f d) : FnOk P w K mg base CX0 9 (f 53) (d 53) ["box"] spIn := by
  refine T.shares_in.F.ok sc53 (fun vs H Q E h => ?_) (fun cdv A outer s H vs Q E hr h => ?_)
  · obtain ⟨a, h, w, rfl, _⟩ := h
    rfl
  obtain ⟨a, h, w, rfl, ha, hh, hw, q⟩ := h
  refine ⟨_, pss_cons (ps_expr (dcall T.need_box (ok17 T) hr (pa_cons (pv 0) pa_nil))) (pss_one (ps_ret (dcall T.shares_up_to (ok52 T h) hr (pa_cons (pe_ix ix_tup (pv 0) pe_int (fun _ _ => rfl)) (pa_cons (pe_ix ix_tup (pv 0) pe_int (fun _ _ => rfl)) pa_nil)) (by omega)))), ?_⟩
  refine ⟨_, rfl, a, h, w, rfl, ha, by omega, by omega, fun H1 s1 => ?_⟩
  have ha1 := s1 _ _ ha
  refine ⟨_, rfl, a, _, _, _, rfl, rfl, SqT.of ha1, (show atI [vN h, vN w] 0 = some (vN h) from rfl), _, rfl, a, _, _, _, rfl, rfl, SqT.of ha1, (show atI [vN h, vN w] 1 = some (vN w) from rfl), w, rfl, hh, hw, fun p H2 bs hp s2 h2 hbs => q p H2 bs (s1.free hp) (s1.trans s2) h2 hbs⟩
def boxN (h w n : Nat) : List (List Nat) := (boxS h w).filter fun u => decide (u.sum = n)
def spOf : Sp := fun vs H Q _ => ∃ (a : Addr) (h w n : Nat), vs = [.ref a, vN n] ∧ BxH H a h w ∧ h ≤ 7 ∧ w ≤ 7 ∧ ∀ p H' bs, H p = none → Same H H' → H' p = some (.lst (bs.map V.ref)) → ShAll H' (boxN h w n) bs → Q (.ref p) H'
theorem sc54 : FnScope ["box", "n", "share"] ["box", "n"] (defScope S54) := ⟨rfl, rfl, rfl, by decide +kernel, rfl, by decide +kernel, by decide +kernel⟩
theorem ok54 (T : Txt K mg f d) : FnOk P w K mg base CX0 10 (f 54) (d 54) ["box", "n"] spOf := by
  refine T.shares_of.F.ok sc54 (fun vs H Q E h => ?_) (fun cdv A outer s H vs Q E hr h => ?_)
  · obtain ⟨a, h, w, n, rfl, _⟩ := h
    rfl
  obtain ⟨a, h, w, n, rfl, ha, hh, hw, q⟩ := h
  refine ⟨_, pss_one (ps_ret (pe_lc (own := [("share", 2)]) (g := gName 2) rfl sc54.nd (pi_list (dcall T.shares_in (ok53 T) hr (pa_cons (pv 0) pa_nil))) (blkOk_by (N := ["box", "n", "share"]) (sc := defScope S54) (by decide +kernel)) (fun _ _ _ _ _ => pg_name (i := 2) sc54.nd rfl (Or.inl rfl))
    (fun _ _ _ _ _ => pts_one (pt_cmpR op_eq (pe_callB (show CallR _ (.builtin "sum") (rSumT K) from cr_sumT rfl) (by rfl) T.b_sum (by decide +kernel) (pa_cons (pv 2) pa_nil)) (pv 1) (nomark _))) (fun _ _ _ _ _ => pv 2))), ?_⟩
  refine ⟨_, rfl, a, h, w, rfl, ha, hh, hw, fun ps H1 bs hps s1 h1 hbs => ⟨ps, rfl, ⟨_, SqL.of h1⟩, fun D hD => ?_⟩⟩
  have elen : (boxS h w).length = (bs.map V.ref).length := by rw [List.length_map]; exact plen hbs
  have w2 : Walk (Itl K ps) (boxS h w).length (fun H => SqL K H ps (bs.map V.ref)) (YAt (bs.map V.ref)) := by
    rw [elen]
    exact walk_list
  refine lc_pure (src := boxS h w) w2 hD (fun u => decide (u.sum = n)) ShV (by have := box_len hh hw; exact smallL (by omega)) (fun r v H H' acc hD k h => h.keep hD k) (fun H' s' => SqL.of (s' _ _ h1)) ?_ ?_
  · rintro j u hj H4 x H4' acc s4 hacc ⟨rfl, hx⟩ A B k1 k2
    obtain ⟨c, hc, hcu⟩ := pget hbs hj
    rw [List.getElem?_map, hc] at hx
    obtain rfl := Option.some.inj hx
    have hcu4 := s4 _ _ hcu
    refine ⟨rfl, _, rfl, c, u.map fun n : Nat => (n : Int), rfl, SqT.of (by rw [← tv_int]; exact hcu4), ?_⟩
    have es : (u.map fun n : Nat => (n : Int)).sum = (u.sum : Int) := by
      have := sum_cast u fun n => n
      rw [List.map_id'] at this
      exact this.symm
    rw [es]
    refine ⟨_, rfl, rfl, _, rfl, ?_⟩
    by_cases c3 : u.sum = n
    · have : decide (V.int (u.sum : Int) = vN n) = true := decide_eq_true (by rw [c3]; rfl)
      rw [this]
      exact iteT ⟨_, rfl, k1 (decide_eq_true c3) _ _ (Same.refl _) ⟨c, rfl, hcu4⟩⟩
    · have : decide (V.int (u.sum : Int) = vN n) = false := decide_eq_false fun z => c3 (by
        have z' : V.int (u.sum : Int) = V.int (n : Int) := z
        injection z' with z'
        omega)
      rw [this]
      exact iteF (k2 (decide_eq_false c3) _ (Same.refl _))
  · intro acc H4 s4 hacc hp4
    obtain ⟨ds, rfl, hds⟩ := shv_all (G := fun u => u) hp4
    rw [List.map_id'] at hds
    exact q D H4 ds (s1.free hD) (s1.trans s4) hacc hds
end
end GW
namespace GW
open PySem PySem.Spec PyProof.Rows L2 GR GS
theorem cnt_le (l : List Nat) (c : Nat) : cnt l c ≤ l.length := List.length_filter_le _ _
theorem prL_bound {a : Nat} : ∀ {L : List Nat}, (∀ x ∈ L, x < 2 ^ a) → prL L ≤ 2 ^ (a * L.length)
  | [], _ => by simp [prL]
  | x :: L, h => by
    have h1 := prL_bound (L := L) fun y hy => h y (List.mem_cons_of_mem _ hy)
    have h2 := h x List.mem_cons_self
    have e : prL (x :: L) = x * prL L := by
      unfold prL
      rw [List.foldl_cons, foldl_mul, Nat.one_mul]
      rfl
    rw [e, List.length_cons, Nat.mul_succ, Nat.add_comm, Nat.pow_add]
    exact Nat.mul_le_mul (Nat.le_of_lt h2) h1
theorem hook_small {l : List Nat} (h : Bx 7 7 l) (r c : Nat) : hook l r c < 2 ^ 4 := by
  have h1 := h.wide r
  have h2 := cnt_le (l.drop (r + 1)) c
  rw [List.length_drop] at h2
  have h3 := h.len
  unfold hook
  have : (2 : Nat) ^ 4 = 16 := rfl
  omega
theorem hrow_small {l : List Nat} (h : Bx 7 7 l) (r : Nat) : prL ((List.range (row l r)).map (hook l r)) < 2 ^ 29 := by
  have h1 := prL_bound (a := 4) (L := (List.range (row l r)).map (hook l r)) fun x hx => by
    obtain ⟨c, _, rfl⟩ := List.mem_map.mp hx
    exact hook_small h r c
  rw [List.length_map, List.length_range] at h1
  have h2 := h.wide r
  refine Nat.lt_of_le_of_lt h1 (Nat.pow_lt_pow_right (by decide) (by omega))
theorem Hk_small {l : List Nat} (h : Bx 7 7 l) : Hk l < 2 ^ 210 := by
  rw [Hk_eq]
  have h1 := prL_bound (a := 29) (L := (hooksL l).map prL) fun x hx => by
    obtain ⟨y, hy, rfl⟩ := List.mem_map.mp hx
    unfold hooksL at hy
    obtain ⟨r, _, rfl⟩ := List.mem_map.mp hy
    exact hrow_small h r
  have h2 : ((hooksL l).map prL).length = l.length := by simp [hooksL]
  rw [h2] at h1
  have h3 := h.len
  exact Nat.lt_of_le_of_lt h1 (Nat.pow_lt_pow_right (by decide) (by omega))
theorem fact_prL : ∀ n, prL ((List.range n).map (· + 1)) = fact n
  | 0 => rfl
  | n + 1 => by
    rw [List.range_succ, List.map_append, List.map_cons, List.map_nil, prL_append, fact_prL n, fact, Nat.mul_comm]
theorem rgV_one (n : Nat) : rgV 1 ((n : Int) + 1) = tv ((List.range n).map (· + 1)) := by
  unfold rgV tv
  rw [show ((n : Int) + 1 - 1).toNat = n by omega, List.map_map]
  refine List.map_congr_left fun i _ => ?_
  show V.int (1 + (i : Int)) = V.int ((i + 1 : Nat) : Int)
  congr 1
  omega
section
variable {P : Program} {w : World} {K : PySem.W.Frag} {mg : Str → Option Value} {base : Heap} {f : Nat → Addr} {d : Nat → FuncData}

/-! ### hooks -/
def spLong : Sp := fun vs H Q _ => ∃ (a : Addr) (l : List Nat) (c : Nat), vs = [.ref a, vN c] ∧ ShH H a l ∧ l.length ≤ 1000 ∧ ∀ H', Same H H' → Q (vN (cnt l c)) H'
theorem sc56 : FnScope ["share", "column", "row"] ["share", "column"] (defScope S56) := ⟨rfl, rfl, rfl, by decide +kernel, rfl, by decide +kernel, by decide +kernel⟩
theorem ok56 (T : Txt K mg f d) : FnOk P w K mg base CX0 1 (f 56) (d 56) ["share", "column"] spLong := by
  refine T.long_column.F.ok sc56 (fun vs H Q E h => ?_) (fun cdv A outer s H vs Q E hr h => ?_)
  · obtain ⟨a, l, c, rfl, _⟩ := h
    rfl
  obtain ⟨a, l, c, rfl, ha, hl, q⟩ := h
  refine ⟨_, pss_one (ps_ret (pe_callB call_len' (by rfl) T.b_len PySem.boot_len (pa_cons (pe_lc (own := [("row", 2)]) (g := gName 2) rfl sc56.nd (pi_tup (pv 0)) (blkOk_by (N := ["share", "column", "row"]) (sc := defScope S56) (by decide +kernel)) (fun _ _ _ _ _ => pg_name (i := 2) sc56.nd rfl (Or.inl rfl)) (fun _ _ _ _ _ => pts_one (pt_cmpR op_gt (pv 2) (pv 1) (nomark _)))
    (fun _ _ _ _ _ => pv 2)) pa_nil))), ?_⟩
  refine ⟨_, rfl, a, rfl, ⟨_, SqT.of ha⟩, fun D hD => ?_⟩
  refine lc_vals (src := l) walk_tv hD (fun n => decide (c < n)) vN (smallL (by omega)) (fun H' s' => s' _ _ ha) ?_ ?_
  · rintro j n hn H3 x H4 acc2 s3 hacc2 ⟨rfl, hx⟩ A2 B2 k1 k2
    obtain rfl := hx n hn
    refine ⟨rfl, _, rfl, _, rfl, _, _, rfl, rfl, _, rfl, ?_⟩
    by_cases c3 : c < n
    · rw [decide_eq_true (show (c : Int) < (n : Int) by omega)]
      exact iteT ⟨_, rfl, k1 (decide_eq_true c3) _ (Same.refl _)⟩
    · rw [decide_eq_false (show ¬ (c : Int) < (n : Int) by omega)]
      exact iteF (k2 (decide_eq_false c3) _ (Same.refl _))
  · intro H5 s5 hD5
    refine ⟨D, _, rfl, .inl (SqL.of hD5), ?_⟩
    rw [List.length_map]
    exact q _ s5
def spCell : Sp := fun vs H Q _ => ∃ (a b : Addr) (l : List Nat) (r c : Nat), vs = [.ref a, .ref b] ∧ ShH H a l ∧ BxH H b r c ∧ r < l.length ∧ c < row l r ∧ Q (.bl true) H
theorem sc57 : FnScope ["share", "cell"] ["share", "cell"] (defScope S57) := ⟨rfl, rfl, rfl, by decide +kernel, rfl, by decide +kernel, by decide +kernel⟩
theorem ok57 (T : Txt K mg f d) : FnOk P w K mg base CX0 2 (f 57) (d 57) ["share", "cell"] spCell := by
  refine T.is_cell.F.ok sc57 (fun vs H Q E h => ?_) (fun cdv A outer s H vs Q E hr h => ?_)
  · obtain ⟨a, b, l, r, c, rfl, _⟩ := h
    rfl
  obtain ⟨a, b, l, r, c, rfl, ha, hb, h1, h2, q⟩ := h
  refine ⟨_, pss_cons (ps_if (PW.pt (pw_or (pt_not (pt_val (pe_callB call_isi (by rfl) T.b_isinstance (by decide +kernel) (pa_cons (pv 1) (pa_cons (pe_bltn (v := .ty "tuple") (by rfl) T.b_tuple (by decide +kernel) rfl) pa_nil)))))
      (pw_or (pt_cmpR op_ne (pe_callB call_len' (by rfl) T.b_len PySem.boot_len (pa_cons (pv 1) pa_nil)) pe_int (nomark _))
      (pw_or (pt_not (pt_val (dcall T.is_whole (ok11 T) hr (pa_cons (pe_ix ix_tup (pv 1) pe_int (fun _ _ => rfl)) pa_nil))))
      (pw_or1 (pt_not (pt_val (dcall T.is_whole (ok11 T) hr (pa_cons (pe_ix ix_tup (pv 1) pe_int (fun _ _ => rfl)) pa_nil)))))))))
      (pss_one (ps_ret pe_bl)) pss_nil)
    (pss_one (ps_ret (pe_and (pe_chain op_le op_lt pe_int (pe_ix ix_tup (pv 1) pe_int (fun _ _ => rfl)) (pe_callB call_len' (by rfl) T.b_len PySem.boot_len (pa_cons (pv 0) pa_nil)))
      (pe_one (pe_chain op_le op_lt pe_int (pe_ix ix_tup (pv 1) pe_int (fun _ _ => rfl)) (pe_ix ix_tup (pv 0) (pe_ix ix_tup (pv 1) pe_int (fun _ _ => rfl)) (fun _ _ => rfl))))))), ?_⟩
  have g0 : atI [vN r, vN c] 0 = some (vN r) := rfl
  have g1 : atI [vN r, vN c] 1 = some (vN c) := rfl
  refine ⟨_, rfl, _, _, _, _, true, rfl, .ty "tuple", .base (.tup hb), kit_ty (by decide +kernel), true, rfl, ?_⟩
  refine iteF ⟨_, rfl, b, _, rfl, .inr (SqT.of hb), rfl, false, rfl, iteF ⟨_, rfl, b, _, _, _, rfl, rfl, SqT.of hb, g0, (r : Int), rfl, true, rfl, iteF ⟨_, rfl, b, _, _, _, rfl, rfl, SqT.of hb, g1, (c : Int), rfl, true, rfl, iteF ?_⟩⟩⟩
  refine ⟨_, rfl, b, _, _, _, rfl, rfl, SqT.of hb, g0, _, _, rfl, rfl, true, ?_, iteT ⟨_, rfl, a, _, rfl, .inr (SqT.of ha), _, _, rfl, rfl, true, ?_, iteT ?_⟩⟩
  · show V.bl (decide ((0 : Int) ≤ (r : Int))) = V.bl true
    rw [decide_eq_true (by omega)]
  · show V.bl (decide ((r : Int) < ((tv l).length : Nat))) = V.bl true
    rw [tv_len, decide_eq_true (by omega)]
  refine ⟨_, rfl, b, _, _, _, rfl, rfl, SqT.of hb, g1, _, _, rfl, rfl, true, ?_, iteT ⟨_, rfl, _, rfl, b, _, _, _, rfl, rfl, SqT.of hb, g0, a, _, _, _, rfl, rfl, SqT.of ha, atI_nat (tv_get h1), _, _, rfl, rfl, ?_⟩⟩
  · show V.bl (decide ((0 : Int) ≤ (c : Int))) = V.bl true
    rw [decide_eq_true (by omega)]
  · show Q (V.bl (decide ((c : Int) < (row l r : Int)))) H
    rw [decide_eq_true (by omega)]
    exact q
def spHook : Sp := fun vs H Q _ => ∃ (a b : Addr) (l : List Nat) (r c : Nat), vs = [.ref a, .ref b] ∧ ShH H a l ∧ BxH H b r c ∧ IsSh l ∧ l.length ≤ 1000 ∧ r < l.length ∧ c < row l r ∧ ∀ H', Same H H' → Q (vN (hook l r c)) H'
theorem sc58 : FnScope ["share", "cell", "row", "column", "right", "below"] ["share", "cell"] (defScope S58) := ⟨rfl, rfl, rfl, by decide +kernel, rfl, by decide +kernel, by decide +kernel⟩
theorem ok58 (T : Txt K mg f d) : FnOk P w K mg base CX0 3 (f 58) (d 58) ["share", "cell"] spHook := by
  refine T.hook_of.F.ok sc58 (fun vs H Q E h => ?_) (fun cdv A outer s H vs Q E hr h => ?_)
  · obtain ⟨a, b, l, r, c, rfl, _⟩ := h
    rfl
  obtain ⟨a, b, l, r, c, rfl, ha, hb, hs, hl, h1, h2, q⟩ := h
  refine ⟨_, pss_cons (ps_if (pt_not (pt_val (dcall T.is_cell (ok57 T) hr (pa_cons (pv 0) (pa_cons (pv 1) pa_nil))))) (pss_one ps_never) pss_nil)
    (pss_cons (ps_asg (pv 1) (pg_tup rfl (pgs_cons (pg_name (i := 2) sc58.nd rfl (Or.inl rfl)) (pgs_cons (pg_name (i := 3) sc58.nd rfl (Or.inl rfl)) pgs_nil))))
    (pss_cons (ps_set (i := 4) sc58.nd rfl (Or.inl rfl) (pe_op op_sub (pe_op op_sub (pe_ix ix_tup (pv 0) (pv 2) (fun _ _ => rfl)) (pv 3)) pe_int))
    (pss_cons (ps_set (i := 5) sc58.nd rfl (Or.inl rfl) (pe_op op_sub (pe_op op_sub (dcall T.long_column (ok56 T) hr (pa_cons (pv 0) (pa_cons (pv 3) pa_nil))) (pv 2)) pe_int))
    (pss_one (ps_ret (pe_op op_add (pe_op op_add (pv 4) (pv 5)) pe_int)))))), ?_⟩
  refine ⟨_, rfl, _, rfl, a, b, l, r, c, rfl, ha, hb, h1, h2, true, rfl, iteF ?_⟩
  refine ⟨_, rfl, b, _, rfl, SqT.of hb, rfl, _, _, rfl, _, _, rfl, rfl, ?_⟩
  refine ⟨_, rfl, _, rfl, a, _, _, _, rfl, rfl, SqT.of ha, atI_nat (tv_get h1), _, rfl, _, _, rfl, rfl, _, _, rfl, rfl, ?_⟩
  refine ⟨_, rfl, _, rfl, a, l, c, rfl, ha, hl, fun H1 s1 => ⟨_, rfl, _, _, rfl, rfl, _, _, rfl, rfl, ?_⟩⟩
  refine ⟨_, rfl, _, rfl, _, _, rfl, rfl, _, _, rfl, rfl, ?_⟩
  have := hook_prog hs h2
  show Q (V.int (((row l r : Int) - c - 1) + ((cnt l c : Int) - r - 1) + 1)) H1
  rw [this]
  exact q H1 s1
end
end GW
namespace GW
open PySem PySem.Spec PyProof.Rows L2 GR GS
def rTupOf (K : PySem.W.Frag) : List V → Hp → VK → Prop := fun xs H Q => ∃ p ys, xs = [.ref p] ∧ ((SqL K H p ys ∧ ∀ l, H l = none → Q (.ref l) (upd H l (.tup ys))) ∨ (SqT K H p ys ∧ Q (.ref p) H))
theorem call_tuple' {X : Cx} : CallR X (.type "tuple") (rTupOf X.K) := call_tuple_of
theorem sc_bits {l : List Nat} : True := trivial
theorem prL_take {l : List Nat} {i x : Nat} (h : l[i]? = some x) : prL (l.take (i + 1)) = prL (l.take i) * x := by rw [take_more h, prL_append]
section
variable {P : Program} {w : World} {K : PySem.W.Frag} {mg : Str → Option Value} {base : Heap} {f : Nat → Addr} {d : Nat → FuncData}
def spHooks : Sp := fun vs H Q _ => ∃ (a : Addr) (l : List Nat), vs = [.ref a] ∧ ShH H a l ∧ Bx 7 7 l ∧ ∀ p H' bs, Same H H' → H' p = some (.tup (bs.map V.ref)) → ShAll H' (hooksL l) bs → Q (.ref p) H'
theorem sc59 : FnScope ["share", "row", "column"] ["share"] (defScope S59) := ⟨rfl, rfl, rfl, by decide +kernel, rfl, by decide +kernel, by decide +kernel⟩
theorem ok59 (T : Txt K mg f d) : FnOk P w K mg base CX0 4 (f 59) (d 59) ["share"] spHooks := by
  refine T.hooks_of.F.ok sc59 (fun vs H Q E h => ?_) (fun cdv A outer s H vs Q E hr h => ?_)
  · obtain ⟨a, l, rfl, _⟩ := h
    rfl
  obtain ⟨a, l, rfl, ha, hl, q⟩ := h
  refine ⟨_, pss_one (ps_ret (pe_callTy call_tuple_of (by rfl) T.b_tuple (by decide +kernel) (pa_cons (pe_lc (own := [("row", 1)]) (g := gName 1) rfl sc59.nd (pi_range1 (by rfl) T.b_range (pa_cons (pe_callB call_len' (by rfl) T.b_len PySem.boot_len (pa_cons (pv 0) pa_nil)) pa_nil))
    (blkOk_by (N := ["share", "row", "column"]) (sc := defScope S59) (by decide +kernel)) (fun _ _ _ _ _ => pg_name (i := 1) sc59.nd rfl (Or.inr rfl)) (fun _ _ _ _ _ => pts_nil)
    (fun _ _ _ _ _ => pe_callTy (show CallR _ (.type "tuple") (rTupOf K) from call_tuple') (by rfl) T.b_tuple (by decide +kernel) (pa_cons (pe_lc (own := [("column", 2)]) (g := gName 2) rfl sc59.nd
      (pi_range1 (by rfl) T.b_range (pa_cons (pe_ix (show IxR _ (rIxT K) from ix_tup) (pv 0) (pv 1) (fun _ _ => rfl)) pa_nil)) (blkOk_by (N := ["share", "row", "column"]) (sc := relS _ (defScope S59)) (by decide +kernel)) (fun _ _ _ _ _ => pg_name (i := 2) sc59.nd rfl (Or.inl rfl)) (fun _ _ _ _ _ => pts_nil)
      (fun _ _ _ _ _ => dcall T.hook_of (ok58 T) hr (pa_cons (pv 0) (pa_cons (pe_tup (pa_cons (pv 1) (pa_cons (pv 2) pa_nil))) pa_nil)))) pa_nil))) pa_nil))), ?_⟩
  have hl7 := hl.len
  refine ⟨_, rfl, a, _, rfl, .inr (SqT.of ha), _, rfl, by rw [tv_len]; omega, by rw [tv_len]; omega, fun D hD => ?_⟩
  rw [tv_len, Int.toNat_natCast]
  refine lc_pure (src := List.range l.length) (by rw [List.length_range]; exact walk_rv) hD (fun _ => true) (fun r v H => ShV ((List.range (row l r)).map (hook l r)) v H) (by rw [List.length_range]; exact smallL (by omega)) (fun r v H H' acc hD k h => h.keep hD k) (fun _ _ => trivial) ?_ ?_
  · rintro r r' hr2 H2 x H2' acc s2 hacc ⟨rfl, rfl⟩ A B h1 _
    obtain ⟨hrl, rfl⟩ := mem_rng hr2
    have hwd := hl.wide r
    refine ⟨rfl, yes ⟨_, rfl, _, rfl, a, _, _, _, rfl, rfl, SqT.of (s2 _ _ ha), atI_nat (tv_get hrl), _, rfl, by omega, by omega, fun D2 hD2 => ?_⟩⟩
    rw [Int.toNat_natCast]
    refine lc_vals (src := List.range (row l r)) (by rw [List.length_range]; exact walk_rv) hD2 (fun _ => true) (fun c => vN (hook l r c)) (by rw [List.length_range]; exact smallL (by omega)) (fun _ _ => trivial) ?_ ?_
    · rintro c c' hc2 H3 x H3' acc2 s3 hacc2 ⟨rfl, rfl⟩ A2 B2 k1 _
      obtain ⟨hcl, rfl⟩ := mem_rng hc2
      refine ⟨rfl, yes ⟨_, rfl, _, rfl, _, rfl, (by show 2 ≤ sizeLine; decide), fun p4 hp4 => ?_⟩⟩
      have s4 := same_new hp4 (.tup [vN r, vN c])
      exact ⟨a, p4, l, r, c, rfl, s4 _ _ (s3 _ _ (s2 _ _ ha)), upd_same, hl.sh, by omega, hrl, hcl, fun H5 s5 => k1 rfl _ (s4.trans s5)⟩
    · intro H4 s4 hD4
      rw [filter_true] at hD4
      refine ⟨D2, _, rfl, .inl ⟨SqL.of hD4, fun p5 hp5 => ?_⟩⟩
      refine h1 rfl _ _ (s4.trans (same_new hp5 _)) ⟨p5, rfl, ?_⟩
      rw [ShH, upd_same]
      unfold tv
      rw [List.map_map]
      rfl
  · intro acc H2 s2 hacc hp2
    rw [filter_true] at hp2
    obtain ⟨bs, rfl, hbs⟩ := shv_all (G := fun r => (List.range (row l r)).map (hook l r)) hp2
    exact ⟨D, _, rfl, .inl ⟨SqL.of hacc, fun p3 hp3 => q p3 _ bs (s2.trans (same_new hp3 _)) upd_same (shAll_same (same_new hp3 _) hbs)⟩⟩
/-! ### products -/
def spProdT : Sp := fun vs H Q _ => ∃ (a : Addr) (l : List Nat), vs = [.ref a] ∧ ShH H a l ∧ (∀ x ∈ l, x < 2 ^ 60) ∧ Q (vN (prL l)) H
def spProdL : Sp := fun vs H Q _ => ∃ (a : Addr) (l : List Nat), vs = [.ref a] ∧ H a = some (.lst (tv l)) ∧ (∀ x ∈ l, x < 2 ^ 60) ∧ Q (vN (prL l)) H
theorem sc61 : FnScope ["numbers", "found", "number"] ["numbers"] (defScope S61) := ⟨rfl, rfl, rfl, by decide +kernel, rfl, by decide +kernel, by decide +kernel⟩
theorem p60 {x : Nat} (h : x < 2 ^ 60) : -(2 ^ 64) < (x : Int) ∧ (x : Int) < 2 ^ 64 := by
  have e : (2 : Nat) ^ 60 = 1152921504606846976 := rfl
  have e2 : (2 : Int) ^ 64 = 18446744073709551616 := rfl
  omega
theorem ok61T (T : Txt K mg f d) : FnOk P w K mg base CX0 1 (f 61) (d 61) ["numbers"] spProdT := by
  refine T.product_of.F.ok sc61 (fun vs H Q E h => ?_) (fun cdv A outer s H vs Q E hr h => ?_)
  · obtain ⟨a, l, rfl, _⟩ := h
    rfl
  obtain ⟨a, l, rfl, ha, hs, q⟩ := h
  refine ⟨_, pss_cons (ps_set (i := 1) sc61.nd rfl (Or.inl rfl) pe_int) (pss_cons (ps_for PassesOwn.never rfl (pi_tup (pv 0)) (pg_name (i := 2) sc61.nd rfl (Or.inl rfl)) (pss_one (ps_set (i := 1) sc61.nd rfl (Or.inl rfl) (pe_op op_mul (pv 1) (pv 2))))) (pss_one (ps_ret (pv 1)))), ?_⟩
  refine ⟨_, rfl, a, rfl, ⟨_, SqT.of ha⟩, ?_⟩
  refine for_it walk_tv (fun i σ H2 => ∃ v2, σ = [some (.ref a), some (vN (prL (l.take i))), v2] ∧ H2 = H) ⟨none, rfl, rfl⟩ (fun i σ H2 _ z => by obtain ⟨_, _, rfl⟩ := z; exact ha) ?_ ?_
  · rintro i x σ H2 H2' hi ⟨v2, rfl, rfl⟩ ⟨rfl, hx⟩
    obtain ⟨n, hn⟩ : ∃ n, l[i]? = some n := ⟨_, List.getElem?_eq_getElem hi⟩
    obtain rfl := hx n hn
    refine ⟨_, rfl, _, rfl, (prL (l.take i) : Int), (n : Int), rfl, rfl, .inr (p60 (hs n (List.mem_of_getElem? hn))), some (vN n), ?_, rfl⟩
    show [some (V.ref a), some (V.int ((prL (l.take i) : Int) * (n : Int))), some (vN n)] = _
    rw [mul_v, prL_take hn]
  · rintro σ H2 ⟨v2, rfl, rfl⟩
    rw [List.take_length]
    exact ⟨_, rfl, q⟩
theorem ok61L (T : Txt K mg f d) : FnOk P w K mg base CX0 1 (f 61) (d 61) ["numbers"] spProdL := by
  refine T.product_of.F.ok sc61 (fun vs H Q E h => ?_) (fun cdv A outer s H vs Q E hr h => ?_)
  · obtain ⟨a, l, rfl, _⟩ := h
    rfl
  obtain ⟨a, l, rfl, ha, hs, q⟩ := h
  refine ⟨_, pss_cons (ps_set (i := 1) sc61.nd rfl (Or.inl rfl) pe_int) (pss_cons (ps_for PassesOwn.never rfl (pi_list (pv 0)) (pg_name (i := 2) sc61.nd rfl (Or.inl rfl)) (pss_one (ps_set (i := 1) sc61.nd rfl (Or.inl rfl) (pe_op op_mul (pv 1) (pv 2))))) (pss_one (ps_ret (pv 1)))), ?_⟩
  refine ⟨_, rfl, a, rfl, ⟨_, SqL.of ha⟩, ?_⟩
  refine for_it walk_lv (fun i σ H2 => ∃ v2, σ = [some (.ref a), some (vN (prL (l.take i))), v2] ∧ H2 = H) ⟨none, rfl, rfl⟩ (fun i σ H2 _ z => by obtain ⟨_, _, rfl⟩ := z; exact ha) ?_ ?_
  · rintro i x σ H2 H2' hi ⟨v2, rfl, rfl⟩ ⟨rfl, hx⟩
    obtain ⟨n, hn⟩ : ∃ n, l[i]? = some n := ⟨_, List.getElem?_eq_getElem hi⟩
    obtain rfl := hx n hn
    refine ⟨_, rfl, _, rfl, (prL (l.take i) : Int), (n : Int), rfl, rfl, .inr (p60 (hs n (List.mem_of_getElem? hn))), some (vN n), ?_, rfl⟩
    show [some (V.ref a), some (V.int ((prL (l.take i) : Int) * (n : Int))), some (vN n)] = _
    rw [mul_v, prL_take hn]
  · rintro σ H2 ⟨v2, rfl, rfl⟩
    rw [List.take_length]
    exact ⟨_, rfl, q⟩
def spUp : Sp := fun vs H Q _ => ∃ n : Nat, vs = [vN n] ∧ n ≤ 1000 ∧ ∀ H', Same H H' → Q (vN (fact n)) H'
theorem sc62 : FnScope ["n"] ["n"] (defScope S62) := ⟨rfl, rfl, rfl, by decide +kernel, rfl, by decide +kernel, by decide +kernel⟩
theorem ok62 (T : Txt K mg f d) : FnOk P w K mg base CX0 2 (f 62) (d 62) ["n"] spUp := by
  refine T.up_to.F.ok sc62 (fun vs H Q E h => ?_) (fun cdv A outer s H vs Q E hr h => ?_)
  · obtain ⟨n, rfl, _⟩ := h
    rfl
  obtain ⟨n, rfl, hn, q⟩ := h
  refine ⟨_, pss_one (ps_ret (dcall T.product_of (ok61L T) hr (pa_cons (pe_listRg rfl (by rfl) T.b_list (prg_2 (by rfl) T.b_range pe_int (pe_op op_add (pv 0) pe_int))) pa_nil))), ?_⟩
  refine ⟨_, rfl, _, _, rfl, rfl, 1, (n : Int) + 1, rfl, rfl, RgOk.of_le (by omega) (by omega) (by omega) (by omega), fun ps hps => ?_⟩
  rw [rgV_one]
  refine ⟨ps, _, rfl, upd_same, fun x hx => ?_, ?_⟩
  · obtain ⟨i, hi, rfl⟩ := List.mem_map.mp hx
    have := List.mem_range.mp hi
    have e : (2 : Nat) ^ 60 = 1152921504606846976 := rfl
    show i + 1 < _
    omega
  · rw [fact_prL]
    exact q _ (same_new hps _)
def spTo : Sp := fun vs H Q _ => ∃ (a : Addr) (l : List Nat), vs = [.ref a] ∧ ShH H a l ∧ Bx 7 7 l ∧ ∀ H', Same H H' → Q (vN (hk l)) H'
theorem sc63 : FnScope ["share", "rows", "row"] ["share"] (defScope S63) := ⟨rfl, rfl, rfl, by decide +kernel, rfl, by decide +kernel, by decide +kernel⟩
theorem ok63 (T : Txt K mg f d) : FnOk P w K mg base CX0 5 (f 63) (d 63) ["share"] spTo := by
  refine T.chains_to.F.ok sc63 (fun vs H Q E h => ?_) (fun cdv A outer s H vs Q E hr h => ?_)
  · obtain ⟨a, l, rfl, _⟩ := h
    rfl
  obtain ⟨a, l, rfl, ha, hl, q⟩ := h
  refine ⟨_, pss_cons (ps_setLc (i := 1) (own := [("row", 2)]) (g := gName 2) (by rfl) sc63.nd rfl rfl (sw_true rfl rfl rfl (by decide +kernel)) (pi_tup (dcall T.hooks_of (ok59 T) hr (pa_cons (pv 0) pa_nil))) (blkOk_by (N := ["share", "rows", "row"]) (sc := defScope S63) (by decide +kernel))
      (fun _ _ _ _ _ => pg_name (i := 2) sc63.nd rfl (Or.inl rfl)) (fun _ _ _ _ _ => pts_nil) (fun _ _ _ _ _ => dcall T.product_of (ok61T T) hr (pa_cons (pv 2) pa_nil)))
    (pss_one (ps_ret (pe_op op_fdivW (dcall T.up_to (ok62 T) hr (pa_cons (dcall T.cells_in (ok13 T) hr (pa_cons (pv 0) pa_nil)) pa_nil)) (dcall T.product_of (ok61L T) hr (pa_cons (pv 1) pa_nil))))), ?_⟩
  have hl7 := hl.len
  have hbs := bx_sum hl
  refine ⟨_, rfl, a, l, rfl, ha, hl, fun p H1 bs s1 h1 hbs1 => ⟨p, rfl, ⟨_, SqT.of h1⟩, fun D hD => ?_⟩⟩
  have hhl : (hooksL l).length = l.length := by simp [hooksL]
  have elen : (hooksL l).length = (bs.map V.ref).length := by rw [List.length_map]; exact plen hbs1
  have w2 : Walk (Itt K p) (hooksL l).length (fun H => SqT K H p (bs.map V.ref)) (YAt (bs.map V.ref)) := by
    rw [elen]
    exact walk_tup
  refine lc_vals (src := hooksL l) w2 hD (fun _ => true) (fun hs => vN (prL hs)) (by rw [hhl]; exact smallL (by omega)) (fun H' s' => SqT.of (s' _ _ h1)) ?_ ?_
  · rintro j hs hj H4 x H4' acc s4 hacc ⟨rfl, hx⟩ A B k1 _
    obtain ⟨c, hc, hcu⟩ := pget hbs1 hj
    rw [List.getElem?_map, hc] at hx
    obtain rfl := Option.some.inj hx
    refine ⟨rfl, yes ⟨_, rfl, c, hs, rfl, s4 _ _ hcu, fun x hx2 => ?_, k1 rfl _ (Same.refl _)⟩⟩
    have hm := List.mem_of_getElem? hj
    unfold hooksL at hm
    obtain ⟨r, _, rfl⟩ := List.mem_map.mp hm
    obtain ⟨c2, _, rfl⟩ := List.mem_map.mp hx2
    exact Nat.lt_trans (hook_small hl r c2) (by decide)
  · intro H4 s4 hD4
    rw [filter_true] at hD4
    have hD5 : H4 D = some (.lst (tv ((hooksL l).map prL))) := by
      rw [hD4]
      unfold tv
      rw [List.map_map]
      rfl
    refine ⟨_, rfl, a, l, rfl, s4 _ _ (s1 _ _ ha), by omega, l.sum, rfl, by omega, fun H5 s5 => ?_⟩
    refine ⟨_, rfl, D, (hooksL l).map prL, rfl, s5 _ _ hD5, fun x hx2 => ?_, ?_⟩
    · obtain ⟨y, hy, rfl⟩ := List.mem_map.mp hx2
      unfold hooksL at hy
      obtain ⟨r, _, rfl⟩ := List.mem_map.mp hy
      exact Nat.lt_trans (hrow_small hl r) (by decide)
    · rw [← Hk_eq]
      have hp := Hk_pos l
      have hsm := Hk_small hl
      refine ⟨(fact l.sum : Int), (Hk l : Int), rfl, rfl, wide_div (b := 210) (by omega) (by rw [Int.natAbs_natCast]; exact hsm) (by decide) (by decide), ?_⟩
      have e : (fact l.sum : Int) / (Hk l : Int) = (hk l : Nat) := by
        unfold hk
        rw [Int.natCast_ediv]
      show Q (V.int ((fact l.sum : Int) / (Hk l : Int))) H5
      rw [e]
      exact q H5 ((s1.trans s4).trans s5)
end
end GW
namespace GW
open PySem PySem.Spec PyProof.Rows L2 GR GS
theorem last_tv {a : Nat} {u : List Nat} : atI (tv (a :: u)) (-1) = some (vN (if u.length = 0 then a else row u (u.length - 1))) := by
  obtain ⟨ys, y, e⟩ : ∃ ys y, a :: u = ys ++ [y] := ⟨(a :: u).dropLast, (a :: u).getLast (by simp), (List.dropLast_concat_getLast (by simp)).symm⟩
  have hl : ys.length = u.length := by
    have := congrArg List.length e
    simp at this
    omega
  have hy : y = if u.length = 0 then a else row u (u.length - 1) := by
    have h1 : row (a :: u) u.length = y := by
      rw [e, row_snoc, if_neg (by omega), if_pos (by omega)]
    rw [← h1]
    split
    · next z => rw [z]; rfl
    · next z =>
      obtain ⟨n, hn⟩ : ∃ n, u.length = n + 1 := ⟨u.length - 1, by omega⟩
      rw [hn, row_succ]
      rfl
  rw [e, tv_append, ← hy]
  exact atI_last _ _
theorem pad_row {m : List Nat} {n k : Nat} (hk : k < n) : (tv m ++ tv (List.replicate n 0))[k]? = some (vN (row m k)) := by
  rw [← tv_append]
  have h1 : k < (m ++ List.replicate n 0).length := by simp; omega
  rw [tv_get h1, row_append]
  split
  · rfl
  · next c =>
    rw [row_ge (l := m) (by omega)]
    congr 2
    unfold row
    rw [List.getD_eq_getElem?_getD, List.getElem?_replicate]
    split <;> rfl
theorem rep_flat : ∀ n : Nat, (List.replicate n [V.int 0]).flatten = tv (List.replicate n 0)
  | 0 => rfl
  | n + 1 => by
    rw [List.replicate_succ, List.flatten_cons, List.replicate_succ, rep_flat n]
    rfl
theorem rep_ok {K : PySem.W.Frag} {p : Addr} {n : Nat} {H : Hp} {Q : VK} (h : H p = some (.tup [.int 0])) (hn : 1 ≤ n) (hn2 : n ≤ 1000) (k : ∀ p' H', Same H H' → H' p' = some (.tup (tv (List.replicate n 0))) → Q (.ref p') H') :
    rRep1 K (.ref p) (.int (n : Int)) H Q ∨ rRepT K (.ref p) (.int (n : Int)) H Q := by
  rcases Nat.lt_or_ge 1 n with c | c
  · refine .inr ⟨p, (n : Int), _, rfl, rfl, SqT.of h, by simp, by omega, by omega, by show 1 ≤ 1000; omega, fun p2 hp2 => k p2 _ (same_new hp2 _) ?_⟩
    rw [upd_same, Int.toNat_natCast]
    rw [rep_flat]
  · have : n = 1 := by omega
    subst this
    exact .inl ⟨p, _, rfl, rfl, SqT.of h, k p H (Same.refl _) h⟩
def natV : V → Nat
  | .int i => i.toNat
  | _ => 0
def shOf (H : Hp) (t : Addr) : List Nat := match H t with
  | some (.tup xs) => xs.map natV
  | _ => []
theorem shOf_is {H : Hp} {t : Addr} {v : List Nat} (h : ShH H t v) : shOf H t = v := by
  have h' : H t = some (.tup (tv v)) := h
  unfold shOf
  rw [h']
  show (tv v).map natV = v
  unfold tv
  rw [List.map_map]
  have : (natV ∘ vN) = id := by funext n; rfl
  rw [this, List.map_id]
theorem shAll_of {H : Hp} : ∀ {ts : List Addr}, (∀ t ∈ ts, ShH H t (shOf H t)) → ShAll H (ts.map (shOf H)) ts
  | [], _ => .nil
  | t :: ts, h => .cons (h t List.mem_cons_self) (shAll_of fun x hx => h x (List.mem_cons_of_mem _ hx))
theorem shAll_each {H : Hp} : ∀ {Ls : List (List Nat)} {ts : List Addr}, ShAll H Ls ts → (∀ t ∈ ts, ShH H t (shOf H t)) ∧ ts.map (shOf H) = Ls
  | _, _, .nil => ⟨fun _ h => (by cases h), rfl⟩
  | _, _, .cons (a := v) (b := t) h r => by
    obtain ⟨h1, h2⟩ := shAll_each r
    have e := shOf_is h
    refine ⟨fun x hx => ?_, by rw [List.map_cons, h2, e]⟩
    rcases List.mem_cons.mp hx with rfl | hx
    · rw [e]; exact h
    · exact h1 x hx
theorem take_flat_le {α β : Type} (xs : List α) (g : α → List β) (j : Nat) : ((xs.take j).flatMap g).length ≤ (xs.flatMap g).length := by
  have e : xs.flatMap g = (xs.take j).flatMap g ++ (xs.drop j).flatMap g := by rw [← List.flatMap_append, List.take_append_drop]
  rw [e, List.length_append]
  omega
section
variable {P : Program} {w : World} {K : PySem.W.Frag} {mg : Str → Option Value} {base : Heap} {f : Nat → Addr} {d : Nat → FuncData}
def spBtw : Sp := fun vs H Q _ => ∃ (a b : Addr) (m l : List Nat), vs = [.ref a, .ref b] ∧ ShH H a m ∧ ShH H b l ∧ Bx 7 7 m ∧ Bx 7 7 l ∧ wi m l ∧ ∀ p H' bs Ls, H p = none → Same H H' → H' p = some (.lst (bs.map V.ref)) → ShAll H' Ls bs → Ls.Perm (btw 7 7 m l) → Q (.ref p) H'
theorem sc65 : FnScope ["one", "other", "found", "k", "most", "least", "longer", "rows", "ahead", "length"] ["one", "other"] (defScope S65) := ⟨rfl, rfl, rfl, by decide +kernel, rfl, by decide +kernel, by decide +kernel⟩
theorem ok65 (T : Txt K mg f d) : FnOk P w K mg base CX0 1 (f 65) (d 65) ["one", "other"] spBtw := by
  refine T.shares_between.F.ok sc65 (fun vs H Q E h => ?_) (fun cdv A outer s H vs Q E hr h => ?_)
  · obtain ⟨a, b, m, l, rfl, _⟩ := h
    rfl
  obtain ⟨a, b, m, l, rfl, ha, hb, hm, hl, hw, q⟩ := h
  refine ⟨_, pss_cons (ps_if (pt_cmpR op_gt (pe_callB call_len' (by rfl) T.b_len PySem.boot_len (pa_cons (pv 0) pa_nil)) (pe_callB call_len' (by rfl) T.b_len PySem.boot_len (pa_cons (pv 1) pa_nil)) (nomark _)) (pss_one (ps_ret (pe_lst pa_nil))) pss_nil)
    (pss_cons (ps_set (i := 2) sc65.nd rfl (Or.inl rfl) (pe_lst (pa_cons (pe_tup pa_nil) pa_nil)))
    (pss_cons (ps_for PassesOwn.never rfl (pi_enumT (by rfl) T.b_enumerate (pa_cons (pv 1) pa_nil)) (pg_tup rfl (pgs_cons (pg_name (i := 3) sc65.nd rfl (Or.inl rfl)) (pgs_cons (pg_name (i := 4) sc65.nd rfl (Or.inl rfl)) pgs_nil)))
      (pss_cons (ps_set (i := 5) sc65.nd rfl (Or.inl rfl) (pe_ix ix_tup (pe_op op_catA (pv 0) (pe_op (op_rep1.or op_repT) (pe_tup (pa_cons pe_int pa_nil)) (pe_callB call_len' (by rfl) T.b_len PySem.boot_len (pa_cons (pv 1) pa_nil)))) (pv 3) (fun _ _ => rfl)))
      (pss_cons (ps_set (i := 6) sc65.nd rfl (Or.inl rfl) (pe_lst pa_nil))
      (pss_cons (ps_for PassesOwn.never rfl (pi_list (pv 2)) (pg_name (i := 7) sc65.nd rfl (Or.inr rfl))
        (pss_cons (ps_set (i := 8) sc65.nd rfl (Or.inl rfl) (pe_op op_catA (pe_tup (pa_cons (pv 4) pa_nil)) (pv 7)))
        (pss_one (ps_expr (pe_bm PySem.F.plainAttrs_list PySem.F.slot_list_extend PySem.F.type_list_extend mt_extend (pv 6) (pa_cons (pe_lc (own := [("length", 9)]) (g := gName 9) rfl sc65.nd
          (pi_range2 (by rfl) T.b_range (pa_cons (pv 5) (pa_cons (pe_op op_add (pe_callB (call_min2 rfl) (by rfl) T.b_min (by decide +kernel) (pa_cons (pv 4) (pa_cons (pe_ix ix_tup (pv 8) (pe_un un_neg pe_int) (fun _ _ => rfl)) pa_nil))) pe_int) pa_nil)))
          (blkOk_by (N := ["one", "other", "found", "k", "most", "least", "longer", "rows", "ahead", "length"]) (sc := defScope S65) (by decide +kernel)) (fun _ _ _ _ _ => pg_name (i := 9) sc65.nd rfl (Or.inl rfl)) (fun _ _ _ _ _ => pts_nil)
          (fun _ _ _ _ _ => pe_op (show OpR _ _ (rCatA K) from op_catA) (pv 7) (pe_tup (pa_cons (pv 9) pa_nil)))) pa_nil))))))
      (pss_one (ps_set (i := 2) sc65.nd rfl (Or.inl rfl) (pv 6)))))))
    (pss_one (ps_ret (pe_callB (cr_sortTup hr.units) (by rfl) T.b_sorted (by decide +kernel) (pa_cons (pe_lc (own := [("rows", 7)]) (g := gName 7) rfl sc65.nd (pi_list (pv 2)) (blkOk_by (N := ["one", "other", "found", "k", "most", "least", "longer", "rows", "ahead", "length"]) (sc := defScope S65) (by decide +kernel))
      (fun _ _ _ _ _ => pg_name (i := 7) sc65.nd rfl (Or.inl rfl)) (fun _ _ _ _ _ => pts_nil)
      (fun _ _ _ _ _ => pe_callTy (show CallR _ (.type "tuple") (rTupOf K) from call_tuple') (by rfl) T.b_tuple (by decide +kernel) (pa_cons (pe_lc (own := [("length", 9)]) (g := gName 9) rfl sc65.nd (show PI _ _ _ (iTup K (tVar 7)) from pi_tup (pv 7))
        (blkOk_by (N := ["one", "other", "found", "k", "most", "least", "longer", "rows", "ahead", "length"]) (sc := relS _ (defScope S65)) (by decide +kernel)) (fun _ _ _ _ _ => pg_name (i := 9) sc65.nd rfl (Or.inl rfl)) (fun _ _ _ _ _ => pts_one (pt_cmpR op_gt (pv 9) pe_int (nomark _))) (fun _ _ _ _ _ => pv 9)) pa_nil))) pa_nil)))))), ?_⟩
  have hm7 := hm.len
  have hl7 := hl.len
  have hml : m.length ≤ l.length := hw.len hm.sh
  refine ⟨_, rfl, a, _, rfl, .inr (SqT.of ha), _, rfl, b, _, rfl, .inr (SqT.of hb), _, _, rfl, rfl, _, rfl, ?_⟩
  rw [tv_len, tv_len, decide_eq_false (show ¬ (l.length : Int) < (m.length : Int) by omega)]
  refine iteF ⟨(by show 0 ≤ sizeLine; decide), fun p0 hp0 => ⟨(by show 1 ≤ sizeLine; decide), fun pf0 hpf0 => ?_⟩⟩
  have s0 := (same_new hp0 (.tup [])).trans (same_new hpf0 (.lst [V.ref p0]))
  have g0 : upd (upd H p0 (.tup [])) pf0 (.lst [V.ref p0]) p0 = some (.tup []) := same_new hpf0 _ _ _ upd_same
  have g1 : upd (upd H p0 (.tup [])) pf0 (.lst [V.ref p0]) pf0 = some (.lst [V.ref p0]) := upd_same
  generalize upd (upd H p0 (.tup [])) pf0 (.lst [V.ref p0]) = H0 at s0 g0 g1 ⊢
  refine ⟨_, rfl, b, _, rfl, SqT.of (s0 _ _ hb), ?_⟩
  have w2 : Walk (IteT K b) l.length (fun H => SqT K H b (tv l)) (YPair (fun i => some (.int (i : Nat))) (fun i => (tv l)[i]?)) := by
    have := walk_enumT (K := K) (a := b) (xs := tv l)
    rwa [tv_len] at this
  have lb : ∀ i, i ≤ l.length → (lev m l i).length ≤ 3432 := fun i hi => Nat.le_trans (lev_len hl (by omega)) (box_len (Nat.le_refl _) (Nat.le_refl _))
  refine for_it w2 (fun i σ H2 => ∃ bs pf v3 v4 v5 v6 v7 v8 v9, σ = [some (.ref a), some (.ref b), some (.ref pf), v3, v4, v5, v6, v7, v8, v9] ∧ Same H H2 ∧ H2 pf = some (.lst (bs.map V.ref)) ∧ ShAll H2 (lev m l i) bs)
    ⟨[p0], pf0, none, none, none, none, none, none, none, rfl, s0, g1, .cons g0 .nil⟩ (fun i σ H2 _ z => by obtain ⟨_, _, _, _, _, _, _, _, _, _, s2, _⟩ := z; exact SqT.of (s2 _ _ hb)) ?_ ?_
  · rintro i x σ H2 H2' hi ⟨bs, pf, v3, v4, v5, v6, v7, v8, v9, rfl, s2, hf2, hbs⟩ ⟨tp, x1, x2, rfl, htp, rfl, hx1, hx2⟩
    cases hx1
    have hx2' : (tv l)[i]? = some x2 := hx2
    rw [tv_get hi] at hx2'
    obtain rfl := Option.some.inj hx2'
    have s3 := same_new htp (.tup [V.int (i : Nat), vN (row l i)])
    have htt : upd H2 tp (.tup [V.int (i : Nat), vN (row l i)]) tp = some (.tup [V.int (i : Nat), vN (row l i)]) := upd_same
    generalize upd H2 tp (.tup [V.int (i : Nat), vN (row l i)]) = H3 at s3 htt ⊢
    refine ⟨tp, _, rfl, SqT.of htt, rfl, _, _, rfl, _, _, rfl, rfl, ?_⟩
    refine ⟨_, rfl, (by show 1 ≤ sizeLine; decide), fun pz hpz => ⟨_, rfl, b, _, rfl, .inr (SqT.of ((s2.trans (s3.trans (same_new hpz _))) _ _ hb)), ?_⟩⟩
    rw [tv_len]
    refine rep_ok upd_same (by omega) (by omega) fun p4 H4 s4 h4 => ?_
    have s34 := (s2.trans s3).trans ((same_new hpz (.tup [V.int 0])).trans s4)
    have sb4 := s3.trans ((same_new hpz (.tup [V.int 0])).trans s4)
    refine cat_ok (s34 _ _ ha) h4 (by rw [tv_len, tv_len, List.length_replicate]; omega) fun p5 H5 s5 h5 => ?_
    refine ⟨_, rfl, p5, _, _, _, rfl, rfl, SqT.of h5, atI_nat (pad_row hi), (by show 0 ≤ sizeLine; decide), fun pl hpl => ?_⟩
    have s05 := s34.trans s5
    have sb5 := sb4.trans s5
    have hf5 := sb5 _ _ hf2
    have hbs5 := shAll_same sb5 hbs
    have hHl := s05.free hpl
    refine ⟨_, rfl, pf, rfl, ⟨_, SqL.of (same_new hpl _ _ _ hf5)⟩, ?_⟩
    have elen : (lev m l i).length = (bs.map V.ref).length := by rw [List.length_map]; exact plen hbs
    refine for_it (walk_list (xs := bs.map V.ref)) (fun j σ H6 => ∃ cs v7 v8 v9, σ = [some (.ref a), some (.ref b), some (.ref pf), some (.int (i : Nat)), some (vN (row l i)), some (vN (row m i)), some (.ref pl), v7, v8, v9] ∧ Same H5 H6 ∧ H6 pl = some (.lst (cs.map V.ref)) ∧ ShAll H6 (((lev m l i).take j).flatMap (ext m l i)) cs)
      ⟨[], v7, v8, v9, rfl, same_new hpl _, upd_same, .nil⟩ (fun j σ H6 _ z => by obtain ⟨_, _, _, _, _, s6, _⟩ := z; exact SqL.of (s6 _ _ hf5)) ?_ ?_
    · rintro j x σ H6 H6' hj ⟨cs, w7, w8, w9, rfl, s6, hl6, hcs⟩ ⟨rfl, hx⟩
      rw [← elen] at hj
      obtain ⟨u, hu⟩ : ∃ u, (lev m l i)[j]? = some u := ⟨_, List.getElem?_eq_getElem hj⟩
      obtain ⟨c, hc, hcu5⟩ := pget hbs5 hu
      rw [List.getElem?_map, hc] at hx
      obtain rfl := Option.some.inj hx
      have hcu := s6 _ _ hcu5
      have hul : u.length = i := (mem_lev.mp (List.mem_of_getElem? hu)).len
      refine ⟨_, rfl, (by show 1 ≤ sizeLine; decide), fun pt hpt => ⟨_, rfl, ?_⟩⟩
      refine cat_ok upd_same (same_new hpt _ _ _ hcu) (by rw [tv_len, hul]; show 1 + i ≤ 10000; omega) fun p7 H7 s7 h7 => ?_
      have s67 := (same_new hpt (.tup [vN (row l i)])).trans s7
      have h7' : H7 p7 = some (.tup (tv (row l i :: u))) := h7
      have hl7' := s67 _ _ hl6
      refine ⟨_, rfl, .inl ⟨rfl, _, SqL.of hl7'⟩, ?_⟩
      refine ⟨_, rfl, _, rfl, _, rfl, _, rfl, p7, _, _, _, rfl, rfl, SqT.of h7', last_tv, _, _, rfl, _, _, rfl, rfl, _, _, rfl, ?_⟩
      have et : (if ((if u.length = 0 then row l i else row u (u.length - 1) : Nat) : Int) < (row l i : Int) then ((if u.length = 0 then row l i else row u (u.length - 1) : Nat) : Int) else (row l i : Int)) = ((topOf l u i : Nat) : Int) := by
        rw [hul]
        unfold topOf
        by_cases z : i = 0
        · rw [if_pos z, if_pos z, if_neg (by omega), z]
        · rw [if_neg z, if_neg z]
          split <;> omega
      rw [et]
      have htop : topOf l u i ≤ 7 := by
        unfold topOf
        have h1 := hl.wide 0
        have h2 := hl.wide i
        split <;> omega
      have hmw := hm.wide i
      refine ⟨⟨by omega, by omega, by omega, by omega⟩, fun D hD => ?_⟩
      rw [show ((topOf l u i : Int) + 1 - (row m i : Int)).toNat = topOf l u i + 1 - row m i by omega]
      refine lc_pure (src := List.range (topOf l u i + 1 - row m i)) (by rw [List.length_range]; exact walk_range) hD (fun _ => true) (fun t v H => ShV (u ++ [row m i + t]) v H) (by rw [List.length_range]; exact smallL (by omega)) (fun r v H H' acc hD k h => h.keep hD k) (fun _ _ => trivial) ?_ ?_
      · rintro t t' ht2 H8 x H8' acc s8 hacc ⟨rfl, ex0⟩ A B k1 _
        obtain ⟨ht, rfl⟩ := mem_rng ht2
        have ex : x = vN (row m i + t) := by
          rw [ex0]
          show V.int ((row m i : Int) + (t : Int)) = V.int _
          congr 1
        subst ex
        refine ⟨rfl, yes ⟨_, rfl, _, rfl, (by show 1 ≤ sizeLine; decide), fun p9 hp9 => ?_⟩⟩
        refine cat_ok (same_new hp9 _ _ _ (s8 _ _ (s67 _ _ hcu))) upd_same (by rw [tv_len, hul]; show i + 1 ≤ 10000; omega) fun p10 H10 s10 h10 => ?_
        refine k1 rfl _ _ ((same_new hp9 _).trans s10) ⟨p10, rfl, ?_⟩
        rw [ShH, h10, tv_append]
        rfl
      · intro acc H8 s8 hacc hp8
        rw [filter_true] at hp8
        obtain ⟨ds, rfl, hds⟩ := shv_all (G := fun t => u ++ [row m i + t]) hp8
        have hl8 := s8 _ _ hl7'
        have s68 := s67.trans s8
        have hcs8 := shAll_same s68 hcs
        have hall := shAll_app hcs8 hds
        have eext : ((lev m l i).take (j + 1)).flatMap (ext m l i) = ((lev m l i).take j).flatMap (ext m l i) ++ (List.range (topOf l u i + 1 - row m i)).map fun t => u ++ [row m i + t] := by
          rw [take_more hu, List.flatMap_append]
          simp [ext]
        rw [← eext] at hall
        have hsz : cs.length + ds.length ≤ 3432 := by
          have h1 := plen hall
          rw [List.length_append] at h1
          have h2 := take_flat_le (lev m l i) (ext m l i) (j + 1)
          have h3 := lb (i + 1) hi
          have e3 : lev m l (i + 1) = (lev m l i).flatMap (ext m l i) := rfl
          rw [e3] at h3
          omega
        refine ⟨pl, D, _, _, rfl, rfl, hl8, hacc, by rw [List.length_map, List.length_map]; exact small (by omega), ?_⟩
        refine ⟨cs ++ ds, some (.ref c), some (.ref p7), w9, rfl, same_mut (s6.trans s68) hpl, by rw [upd_same, List.map_append], shAll_upd hl8 hall⟩
    · rintro σ H6 ⟨cs, w7, w8, w9, rfl, s6, hl6, hcs⟩
      rw [← elen, List.take_length] at hcs
      exact ⟨_, rfl, cs, pl, some (.int (i : Nat)), some (vN (row l i)), some (vN (row m i)), some (.ref pl), w7, w8, w9, rfl, s05.trans s6, hl6, hcs⟩
  · rintro σ H2 ⟨bs, pf, v3, v4, v5, v6, v7, v8, v9, rfl, s2, hf2, hbs⟩
    refine ⟨_, rfl, pf, rfl, ⟨_, SqL.of hf2⟩, fun D hD => ?_⟩
    have elen : (lev m l l.length).length = (bs.map V.ref).length := by rw [List.length_map]; exact plen hbs
    have w3 : Walk (Itl K pf) (lev m l l.length).length (fun H => SqL K H pf (bs.map V.ref)) (YAt (bs.map V.ref)) := by
      rw [elen]
      exact walk_list
    refine lc_pure (src := lev m l l.length) w3 hD (fun _ => true) (fun u v H => ShV (nought u) v H) (by have := lb _ (Nat.le_refl l.length); exact smallL (by omega)) (fun r v H H' acc hD k h => h.keep hD k) (fun H' s' => SqL.of (s' _ _ hf2)) ?_ ?_
    · rintro j u hj H3 x H3' acc s3 hacc ⟨rfl, hx⟩ A B k1 _
      obtain ⟨c, hc, hcu⟩ := pget hbs hj
      rw [List.getElem?_map, hc] at hx
      obtain rfl := Option.some.inj hx
      have hcu3 := s3 _ _ hcu
      have hul : u.length = l.length := (mem_lev.mp (List.mem_of_getElem? hj)).len
      refine ⟨rfl, yes ⟨_, rfl, c, rfl, ⟨_, SqT.of hcu3⟩, fun D2 hD2 => ?_⟩⟩
      refine lc_vals (src := u) walk_tv hD2 (fun n => decide (0 < n)) vN (smallL (by omega)) (fun H' s' => s' _ _ hcu3) ?_ ?_
      · rintro t n hn H4 x H4' acc2 s4 hacc2 ⟨rfl, hx⟩ A2 B2 y1 y2
        obtain rfl := hx n hn
        refine ⟨rfl, _, rfl, _, _, rfl, rfl, _, rfl, ?_⟩
        by_cases c3 : 0 < n
        · rw [decide_eq_true (show (0 : Int) < (n : Int) by omega)]
          exact iteT ⟨_, rfl, y1 (decide_eq_true c3) _ (Same.refl _)⟩
        · rw [decide_eq_false (show ¬ (0 : Int) < (n : Int) by omega)]
          exact iteF (y2 (decide_eq_false c3) _ (Same.refl _))
      · intro H5 s5 hD5
        refine ⟨D2, _, rfl, .inl ⟨SqL.of hD5, fun p6 hp6 => k1 rfl _ _ (s5.trans (same_new hp6 _)) ⟨p6, rfl, upd_same⟩⟩⟩
    · intro acc H3 s3 hacc hp3
      rw [filter_true] at hp3
      obtain ⟨ts, rfl, hts⟩ := shv_all (G := nought) hp3
      obtain ⟨t1, t2⟩ := shAll_each hts
      have hlen2 : (lev m l l.length).length = ts.length := by have := plen hts; rwa [List.length_map] at this
      refine ⟨D, ts, fun t => (shOf H3 t).map fun n : Nat => (n : Int), rfl, SqL.of hacc, fun t ht => by rw [← tv_int]; exact t1 t ht, ?_, fun ts' p hperm _ hp => ?_⟩
      · rcases lev_first hm.sh hw with h1 | ⟨u, rest, h1, h2⟩
        · left
          intro t ht z
          have : shOf H3 t ∈ (lev m l l.length).map nought := by rw [← t2]; exact List.mem_map.mpr ⟨t, ht, rfl⟩
          obtain ⟨u, hu, e⟩ := List.mem_map.mp this
          exact h1 u hu (by rw [e]; simpa using z)
        · right
          cases hts' : ts with
          | nil => rw [h1, hts'] at hlen2; cases hlen2
          | cons t tr =>
            refine ⟨t, tr, rfl, ?_⟩
            rw [hts', h1, List.map_cons, List.map_cons] at t2
            have := (List.cons.inj t2).1
            show (shOf H3 t).map _ = []
            rw [this, h2]
            rfl
      · have sp := same_new hp (.lst (ts'.map V.ref))
        refine q p _ ts' (ts'.map (shOf H3)) ((s2.trans s3).free hp) ((s2.trans s3).trans sp) upd_same ?_ ?_
        · exact shAll_same sp (shAll_of fun t ht => t1 t (hperm.mem_iff.mp ht))
        · have := (hperm.map (shOf H3))
          rw [t2] at this
          exact this.trans (lev_perm hm.sh hl hw)
end
end GW
namespace GW
open PySem PySem.Spec PyProof.Rows L2 GR GS
/-- a pair of a share and a value of which Xp is said -/
def PV (Xp : List Nat → V → Hp → Prop) (v : List Nat) (y : V) (H : Hp) : Prop := ∃ q c x, y = .ref q ∧ H q = some (.tup [.ref c, x]) ∧ ShH H c v ∧ Xp v x H
theorem PV.keep {Xp : List Nat → V → Hp → Prop} {v : List Nat} {y : V} {H H' : Hp} {D : Addr} {acc : List V} (hD : H D = some (.lst acc)) (k : ∀ b o, b ≠ D → H b = some o → H' b = some o) (kx : ∀ x, Xp v x H → Xp v x H') (h : PV Xp v y H) : PV Xp v y H' := by
  obtain ⟨q, c, x, e, h1, h2, h3⟩ := h
  refine ⟨q, c, x, e, k _ _ (fun z => ?_) h1, k _ _ (fun z => ?_) h2, kx x h3⟩
  · rw [z, hD] at h1; cases h1
  · have h2' : H c = some (.tup (tv v)) := h2
    rw [z, hD] at h2'; cases h2'
theorem pv_all {K : PySem.W.Frag} {Xp : List Nat → V → Hp → Prop} {H : Hp} : ∀ {Ls : List (List Nat)} {ys : List V}, Paired (fun v y => PV Xp v y H) Ls ys →
    ∃ (ps : List Addr) (al : AL), ys = ps.map V.ref ∧ Paired (PairKV K H) ps (dkv al) ∧ al.map (·.1) = Ls ∧ ∀ v x, (v, x) ∈ al → Xp v x H
  | _, _, .nil => ⟨[], [], rfl, .nil, rfl, fun _ _ h => by cases h⟩
  | _, _, .cons (a := v) h t => by
    obtain ⟨q, c, x, e, h1, h2, h3⟩ := h
    obtain ⟨ps, al, e2, p2, e3, k⟩ := pv_all (K := K) t
    refine ⟨q :: ps, (v, x) :: al, by rw [e, e2]; rfl, .cons ⟨c, SqT.of h1, key_sh h2⟩ p2, by rw [List.map_cons, e3], fun v' x' hm => ?_⟩
    rcases List.mem_cons.mp hm with z | z
    · cases z; exact h3
    · exact k v' x' z
theorem val_mem {al : AL} {v : List Nat} (h : v ∈ al.map (·.1)) : ∃ x, valV al v = some x ∧ (v, x) ∈ al := by
  induction al with
  | nil => cases h
  | cons p al ih =>
    by_cases c : p.1 = v
    · exact ⟨p.2, valV_pos c, by rw [← c]; exact List.mem_cons_self⟩
    · rw [List.map_cons, List.mem_cons] at h
      rcases h with h | h
      · exact absurd h.symm c
      · obtain ⟨x, h1, h2⟩ := ih h
        exact ⟨x, by rw [valV_neg c]; exact h1, List.mem_cons_of_mem _ h2⟩
/-- the dict of such pairs -/
theorem merge_all {al : AL} (nd : (al.map (·.1)).Nodup) : mergeT [] (dkv al) = dkv (mergeV [] al) ∧ ∀ v, valV (mergeV [] al) v = valV al v := by
  refine ⟨dkv_merge al [], fun v => ?_⟩
  rw [merge_val al [] v nd]
  cases valV al v <;> rfl
theorem btw_filter {m l v : List Nat} (hm : IsSh m) (hl : Bx 7 7 l) (hv : IsSh v) (hw : wi v l) : (btw 7 7 m l).filter (fun u => wiB u v) = btw 7 7 m v := by
  unfold btw
  rw [List.filter_filter]
  refine List.filter_congr fun u hu => ?_
  have hs : IsSh u := Bx.sh hu
  by_cases c : wiB u v = true
  · have h1 := (wiB_iff hs).mp c
    have h2 : wiB u l = true := (wiB_iff hs).mpr (h1.trans hw)
    rw [c, h2]
    simp
  · have c' : wiB u v = false := by simpa using c
    rw [c']
    simp
def UX (Ls : List (List Nat)) (D : Addr) (v : List Nat) (x : V) (H : Hp) : Prop := ∃ r rb, x = .ref r ∧ r ≠ D ∧ H r = some (.lst (rb.map V.ref)) ∧ ShAll H (Ls.filter fun u => wiB u v) rb
theorem shAll_keep {H H' : Hp} {D : Addr} {acc : List V} {Ls : List (List Nat)} {bs : List Addr} (hD : H D = some (.lst acc)) (k : ∀ b o, b ≠ D → H b = some o → H' b = some o) (h : ShAll H Ls bs) : ShAll H' Ls bs := pmono h fun u c q => by
  have q' : H c = some (.tup (tv u)) := q
  exact k _ _ (fun z => by rw [z, hD] at q'; cases q') q
theorem UX.keep {Ls : List (List Nat)} {D : Addr} {v : List Nat} {x : V} {H H' : Hp} {acc : List V} (hD : H D = some (.lst acc)) (k : ∀ b o, b ≠ D → H b = some o → H' b = some o) (h : UX Ls D v x H) : UX Ls D v x H' := by
  obtain ⟨r, rb, e, hn, h1, h2⟩ := h
  exact ⟨r, rb, e, hn, k _ _ hn h1, shAll_keep hD k h2⟩
theorem UX.same {Ls : List (List Nat)} {D : Addr} {v : List Nat} {x : V} {H H' : Hp} (s : Same H H') (h : UX Ls D v x H) : UX Ls D v x H' := by
  obtain ⟨r, rb, e, hn, h1, h2⟩ := h
  exact ⟨r, rb, e, hn, s _ _ h1, shAll_same s h2⟩
section
variable {P : Program} {w : World} {K : PySem.W.Frag} {mg : Str → Option Value} {base : Heap} {f : Nat → Addr} {d : Nat → FuncData}
def spStacks : Sp := fun vs H Q _ => ∃ (a b : Addr) (m l : List Nat) (k : Nat), vs = [.ref a, .ref b, vN k] ∧ ShH H a m ∧ ShH H b l ∧ Bx 7 7 m ∧ Bx 7 7 l ∧ wi m l ∧ k ≤ 1000 ∧ ∀ H', Same H H' → Q (vN (TK 7 7 m k l)) H'
theorem sc67 : FnScope ["one", "other", "k", "between", "under", "numbers", "step", "share", "less"] ["one", "other", "k"] (defScope S67) := ⟨rfl, rfl, rfl, by decide +kernel, rfl, by decide +kernel, by decide +kernel⟩
theorem ok67 (T : Txt K mg f d) : FnOk P w K mg base CX0 2 (f 67) (d 67) ["one", "other", "k"] spStacks := by
  refine T.stacks_between.F.ok sc67 (fun vs H Q E h => ?_) (fun cdv A outer s H vs Q E hr h => ?_)
  · obtain ⟨a, b, m, l, k, rfl, _⟩ := h
    rfl
  obtain ⟨a, b, m, l, k, rfl, ha, hb, hm, hl, hw, hk, q⟩ := h
  refine ⟨_, pss_cons (ps_set (i := 3) sc67.nd rfl (Or.inr rfl) (dcall T.shares_between (ok65 T) hr (pa_cons (pv 0) (pa_cons (pv 1) pa_nil))))
    (pss_cons (ps_if (pt_cmpR (op_eqD hr.units) (pv 3) (pe_lst pa_nil) (nomark _)) (pss_one (ps_ret pe_int)) pss_nil)
    (pss_cons (ps_set (i := 4) sc67.nd rfl (Or.inr rfl) (pe_callTy (call_dictT rfl hr.units) (by rfl) T.b_dict (by decide +kernel) (pa_cons (pe_lc (own := [("share", 7)]) (g := gName 7) rfl sc67.nd (pi_list (pv 3)) (blkOk_by (N := ["one", "other", "k", "between", "under", "numbers", "step", "share", "less"]) (sc := defScope S67) (by decide +kernel))
      (fun _ _ _ _ _ => pg_name (i := 7) sc67.nd rfl (Or.inr rfl)) (fun _ _ _ _ _ => pts_nil)
      (fun _ _ _ _ _ => pe_tup (pa_cons (pv 7) (pa_cons (pe_lc (own := [("less", 8)]) (g := gName 8) rfl sc67.nd (show PI _ _ _ (iList K (tVar 3)) from pi_list (pv 3)) (blkOk_by (N := ["one", "other", "k", "between", "under", "numbers", "step", "share", "less"]) (sc := relS _ (defScope S67)) (by decide +kernel))
        (fun _ _ _ _ _ => pg_name (i := 8) sc67.nd rfl (Or.inl rfl)) (fun _ _ _ _ _ => pts_one (pt_val (dcall T.lies_within (ok30 T) hr (pa_cons (pv 8) (pa_cons (pv 7) pa_nil))))) (fun _ _ _ _ _ => pv 8)) pa_nil)))) pa_nil)))
    (pss_cons (ps_set (i := 5) sc67.nd rfl (Or.inr rfl) (pe_callTy (call_dictT rfl hr.units) (by rfl) T.b_dict (by decide +kernel) (pa_cons (pe_lc (own := [("share", 7)]) (g := gName 7) rfl sc67.nd (pi_list (pv 3)) (blkOk_by (N := ["one", "other", "k", "between", "under", "numbers", "step", "share", "less"]) (sc := defScope S67) (by decide +kernel))
      (fun _ _ _ _ _ => pg_name (i := 7) sc67.nd rfl (Or.inl rfl)) (fun _ _ _ _ _ => pts_nil)
      (fun _ _ _ _ _ => pe_tup (pa_cons (pv 7) (pa_cons pe_int pa_nil)))) pa_nil)))
    (pss_cons (ps_for PassesOwn.never rfl (pi_range1 (by rfl) T.b_range (pa_cons (pv 2) pa_nil)) (pg_name (i := 6) sc67.nd rfl (Or.inl rfl))
      (pss_one (ps_set (i := 5) sc67.nd rfl (Or.inr rfl) (pe_callTy (call_dictT rfl hr.units) (by rfl) T.b_dict (by decide +kernel) (pa_cons (pe_lc (own := [("share", 7)]) (g := gName 7) rfl sc67.nd (pi_list (pv 3)) (blkOk_by (N := ["one", "other", "k", "between", "under", "numbers", "step", "share", "less"]) (sc := defScope S67) (by decide +kernel))
        (fun _ _ _ _ _ => pg_name (i := 7) sc67.nd rfl (Or.inl rfl)) (fun _ _ _ _ _ => pts_nil)
        (fun _ _ _ _ _ => pe_tup (pa_cons (pv 7) (pa_cons (pe_callB (show CallR _ (.builtin "sum") (rSum K) from cr_sum rfl) (by rfl) T.b_sum (by decide +kernel) (pa_cons (pe_lc (own := [("less", 8)]) (g := gName 8) rfl sc67.nd (show PI _ _ _ (iList K (tDGet (tVar 4) (tVar 7))) from pi_list (pe_dget (hu_of hr) (pv 4) (pv 7) (fun _ _ => rfl)))
          (blkOk_by (N := ["one", "other", "k", "between", "under", "numbers", "step", "share", "less"]) (sc := relS _ (defScope S67)) (by decide +kernel))
          (fun _ _ _ _ _ => pg_name (i := 8) sc67.nd rfl (Or.inl rfl)) (fun _ _ _ _ _ => pts_nil) (fun _ _ _ _ _ => pe_dget (hu_of hr) (pv 5) (pv 8) (fun _ _ => rfl))) pa_nil)) pa_nil)))) pa_nil)))))
    (pss_one (ps_ret (pe_dget (hu_of hr) (pv 5) (pv 1) (fun _ _ => rfl)))))))), ?_⟩
  refine ⟨_, rfl, _, rfl, a, b, m, l, rfl, ha, hb, hm, hl, hw, fun pb H1 bs Ls hpb s1 h1 hbs hperm => ?_⟩
  have hmem : ∀ v, v ∈ Ls ↔ IsSh v ∧ wi m v ∧ wi v l := fun v => by rw [hperm.mem_iff, mem_btw hm.sh hl]
  have hnd : Ls.Nodup := hperm.nodup_iff.mpr (nodup_btw 7 7 m l)
  have hlL : l ∈ Ls := (hmem l).mpr ⟨hl.sh, hw, wi.refl l⟩
  have hbxL : ∀ v ∈ Ls, Bx 7 7 v := fun v hv => by
    obtain ⟨z1, _, z3⟩ := (hmem v).mp hv
    exact hl.sub z1 z3
  have hLlen : Ls.length ≤ 3432 := by
    have := hnd.length_le_of_subset (l₂ := boxS 7 7) fun v hv => hbxL v hv
    rwa [box7_len] at this
  have elen : Ls.length = (bs.map V.ref).length := by rw [List.length_map]; exact plen hbs
  have wL : Walk (Itl K pb) Ls.length (fun H => SqL K H pb (bs.map V.ref)) (YAt (bs.map V.ref)) := by
    rw [elen]
    exact walk_list
  refine ⟨_, rfl, (by show 0 ≤ sizeLine; decide), fun pe hpe => ?_⟩
  have s2 := s1.trans (same_new hpe (.lst []))
  have h2 := same_new hpe (.lst []) _ _ h1
  have hbs2 := shAll_same (same_new hpe (.lst [])) hbs
  have he2 : upd H1 pe (.lst []) pe = some (.lst []) := upd_same
  generalize upd H1 pe (.lst []) = H2 at s2 h2 hbs2 he2 ⊢
  refine ⟨.list (Ls.map shD), .list [], .lst (SqL.of h2) (dp_all hbs2), .lst (SqL.of he2) .nil, shaped_shs Ls, rfl, _, rfl, ?_⟩
  have e0 : Ls.isEmpty = false := by cases Ls with
    | nil => cases hlL
    | cons v Ls => rfl
  rw [eqv_nil, e0]
  refine iteF ⟨_, rfl, pb, rfl, ⟨_, SqL.of h2⟩, fun D hD => ?_⟩
  refine lc_pure (src := Ls) wL hD (fun _ => true) (PV (UX Ls D)) (smallL (by omega)) (fun v y H H' acc hD k h => h.keep hD k fun x hx => hx.keep hD k) (fun H' s' => SqL.of (s' _ _ h2)) ?_ ?_
  · rintro j v hj H3 x H3' acc s3 hacc ⟨rfl, hx⟩ A B k1 _
    obtain ⟨c, hc, hcv⟩ := pget hbs2 hj
    rw [List.getElem?_map, hc] at hx
    obtain rfl := Option.some.inj hx
    have h3 := s3 _ _ h2
    have hbs3 := shAll_same s3 hbs2
    refine ⟨rfl, yes ⟨_, rfl, _, rfl, pb, rfl, ⟨_, SqL.of h3⟩, fun D2 hD2 => ?_⟩⟩
    refine lc_pure (src := Ls) wL hD2 (fun u => wiB u v) ShV (smallL (by omega)) (fun r v H H' acc hD k h => h.keep hD k) (fun H' s' => SqL.of (s' _ _ h3)) ?_ ?_
    · rintro t u ht H4 x H4' acc2 s4 hacc2 ⟨rfl, hx⟩ A2 B2 y1 y2
      obtain ⟨cu, hcu, hcu2⟩ := pget hbs3 ht
      rw [List.getElem?_map, hcu] at hx
      obtain rfl := Option.some.inj hx
      have hub := hbxL u (List.mem_of_getElem? ht)
      have hul := hub.len
      refine ⟨rfl, _, rfl, _, rfl, cu, c, u, v, rfl, s4 _ _ hcu2, s4 _ _ (s3 _ _ hcv), by omega, fun H5 s5 => ⟨_, rfl, ?_⟩⟩
      by_cases c3 : wiB u v = true
      · rw [c3]
        exact iteT ⟨_, rfl, y1 c3 _ _ s5 ⟨cu, rfl, s5 _ _ (s4 _ _ hcu2)⟩⟩
      · have c4 : wiB u v = false := by simpa using c3
        rw [c4]
        exact iteF (y2 c4 _ s5)
    · intro acc2 H5 s5 hacc5 hp5
      obtain ⟨ds, rfl, hds⟩ := shv_all (G := fun u => u) hp5
      rw [List.map_id'] at hds
      refine ⟨(by show 2 ≤ sizeLine; decide), fun p6 hp6 => ?_⟩
      have s6 := same_new hp6 (.tup [.ref c, .ref D2])
      exact k1 rfl _ _ (s5.trans s6) ⟨p6, c, .ref D2, rfl, upd_same, s6 _ _ (s5 _ _ (s3 _ _ hcv)), D2, ds, rfl, new_ne hacc hD2, s6 _ _ hacc5, shAll_same s6 hds⟩
  intro acc H3 s3 hacc hp3
  rw [filter_true] at hp3
  obtain ⟨ps, al, rfl, hpairs, hal, hUX⟩ := pv_all (K := K) hp3
  have hndal : (al.map (·.1)).Nodup := by rw [hal]; exact hnd
  refine ⟨D, ps, dkv al, rfl, SqL.of hacc, hpairs, fun pu hpu => ?_⟩
  rw [(merge_all hndal).1]
  have sU := same_new hpu (.dT (dkv (mergeV [] al)))
  have hU : ∀ v ∈ Ls, ∃ x, valV (mergeV [] al) v = some x ∧ UX Ls D v x (upd H3 pu (.dT (dkv (mergeV [] al)))) := fun v hv => by
    rw [← hal] at hv
    obtain ⟨x, x1, x2⟩ := val_mem hv
    exact ⟨x, by rw [(merge_all hndal).2]; exact x1, (hUX v x x2).same sU⟩
  have s23 := (s2.trans s3).trans sU
  have hpu2 : upd H3 pu (.dT (dkv (mergeV [] al))) pu = some (.dT (dkv (mergeV [] al))) := upd_same
  have h3 := sU _ _ (s3 _ _ h2)
  have hbs3 := shAll_same (s3.trans sU) hbs2
  generalize upd H3 pu (.dT (dkv (mergeV [] al))) = HU at sU hU s23 hpu2 h3 hbs3 ⊢
  refine ⟨_, rfl, pb, rfl, ⟨_, SqL.of h3⟩, fun D3 hD3 => ?_⟩
  refine lc_pure (src := Ls) wL hD3 (fun _ => true) (PV fun v x _ => x = vN (TK 7 7 m 0 v)) (smallL (by omega)) (fun v y H H' acc hD k h => h.keep hD k fun x hx => hx) (fun H' s' => SqL.of (s' _ _ h3)) ?_ ?_
  · rintro j v hj H4 x H4' acc s4 hacc ⟨rfl, hx⟩ A B k1 _
    obtain ⟨c, hc, hcv⟩ := pget hbs3 hj
    rw [List.getElem?_map, hc] at hx
    obtain rfl := Option.some.inj hx
    refine ⟨rfl, yes ⟨_, rfl, (by show 2 ≤ sizeLine; decide), fun p6 hp6 => ?_⟩⟩
    have s6 := same_new hp6 (.tup [.ref c, .int 1])
    exact k1 rfl _ _ s6 ⟨p6, c, .int 1, rfl, upd_same, s6 _ _ (s4 _ _ hcv), rfl⟩
  intro acc H4 s4 hacc hp4
  rw [filter_true] at hp4
  obtain ⟨ps, al0, rfl, hpairs, hal0, hN0⟩ := pv_all (K := K) hp4
  have hndal0 : (al0.map (·.1)).Nodup := by rw [hal0]; exact hnd
  refine ⟨D3, ps, dkv al0, rfl, SqL.of hacc, hpairs, fun pn hpn => ?_⟩
  rw [(merge_all hndal0).1]
  refine ⟨_, rfl, _, rfl, by omega, by omega, ?_⟩
  rw [Int.toNat_natCast]
  refine for_it walk_rv (fun i σ H2 => ∃ pn alN v6 v7 v8, σ = [some (.ref a), some (.ref b), some (vN k), some (.ref pb), some (.ref pu), some (.ref pn), v6, v7, v8] ∧ Same HU H2 ∧ H2 pn = some (.dT (dkv alN)) ∧ ∀ v ∈ Ls, valV alN v = some (vN (TK 7 7 m i v)))
    ⟨pn, mergeV [] al0, none, none, none, rfl, s4.trans (same_new hpn _), upd_same, fun v hv => ?_⟩ (fun _ _ _ _ _ => trivial) ?_ ?_
  · rw [← hal0] at hv
    obtain ⟨x, x1, x2⟩ := val_mem hv
    rw [(merge_all hndal0).2, x1, hN0 v x x2]
  · rintro i x σ H5 H5' hi ⟨pn, alN, v6, v7, v8, rfl, s5, hn5, hval⟩ ⟨rfl, rfl⟩
    have h5 := s5 _ _ h3
    have hbs5 := shAll_same s5 hbs3
    refine ⟨_, rfl, pb, rfl, ⟨_, SqL.of h5⟩, fun D4 hD4 => ?_⟩
    refine lc_pure (src := Ls) wL hD4 (fun _ => true) (PV fun v x _ => x = vN (TK 7 7 m (i + 1) v)) (smallL (by omega)) (fun v y H H' acc hD k h => h.keep hD k fun x hx => hx) (fun H' s' => SqL.of (s' _ _ h5)) ?_ ?_
    · rintro j v hj H6 x H6' acc s6 hacc ⟨rfl, hx⟩ A B k1 _
      obtain ⟨c, hc, hcv⟩ := pget hbs5 hj
      rw [List.getElem?_map, hc] at hx
      obtain rfl := Option.some.inj hx
      have hvL := List.mem_of_getElem? hj
      obtain ⟨v1, v2, v3⟩ := (hmem v).mp hvL
      obtain ⟨xu, hxu, hux⟩ := hU v hvL
      obtain ⟨r, rb, rfl, _, hr1, hr2⟩ := hux.same (s5.trans s6)
      have gU : DGet H6' pu (.ref c) (some (.ref r)) := by
        have := DGet.t (s6 _ _ (s5 _ _ hpu2)) (key_sh (s6 _ _ hcv))
        rwa [dkv_val, hxu] at this
      refine ⟨rfl, yes ⟨_, rfl, _, rfl, _, rfl, pu, _, rfl, gU, r, rfl, ⟨_, SqL.of hr1⟩, fun D5 hD5 => ?_⟩⟩
      have elen2 : (Ls.filter fun u => wiB u v).length = (rb.map V.ref).length := by rw [List.length_map]; exact plen hr2
      have hfl : (Ls.filter fun u => wiB u v).length ≤ Ls.length := List.length_filter_le _ _
      have wF : Walk (Itl K r) (Ls.filter fun u => wiB u v).length (fun H => SqL K H r (rb.map V.ref)) (YAt (rb.map V.ref)) := by
        rw [elen2]
        exact walk_list
      refine lc_vals (src := Ls.filter fun u => wiB u v) wF hD5 (fun _ => true) (fun u => vN (TK 7 7 m i u)) (smallL (by omega)) (fun H' s' => SqL.of (s' _ _ hr1)) ?_ ?_
      · rintro t u ht H7 x H7' acc2 s7 hacc2 ⟨rfl, hx⟩ A2 B2 y1 _
        obtain ⟨cu, hcu, hcu2⟩ := pget hr2 ht
        rw [List.getElem?_map, hcu] at hx
        obtain rfl := Option.some.inj hx
        have huL := (List.mem_filter.mp (List.mem_of_getElem? ht)).1
        have gN : DGet H7' pn (.ref cu) (some (vN (TK 7 7 m i u))) := by
          have := DGet.t (s7 _ _ (s6 _ _ hn5)) (key_sh (s7 _ _ hcu2))
          rwa [dkv_val, hval u huL] at this
        exact ⟨rfl, yes ⟨_, rfl, _, rfl, pn, _, rfl, gN, y1 rfl _ (Same.refl _)⟩⟩
      · intro H7 s7 hD7
        rw [filter_true] at hD7
        refine ⟨D5, (Ls.filter fun u => wiB u v).map fun u => ((TK 7 7 m i u : Nat) : Int), rfl, SqL.of (by rw [hD7, List.map_map]; rfl), (by show 2 ≤ sizeLine; decide), fun p8 hp8 => ?_⟩
        rw [← sum_cast]
        have es : ((Ls.filter fun u => wiB u v).map fun u => TK 7 7 m i u).sum = TK 7 7 m (i + 1) v := by
          have hp2 : (Ls.filter fun u => wiB u v).Perm (btw 7 7 m v) := by
            rw [← btw_filter hm.sh hl v1 v3]
            exact hperm.filter _
          exact (hp2.map _).sum_nat
        rw [es]
        have s8 := same_new hp8 (.tup [.ref c, vN (TK 7 7 m (i + 1) v)])
        exact k1 rfl _ _ (s7.trans s8) ⟨p8, c, _, rfl, upd_same, s8 _ _ (s7 _ _ (s6 _ _ hcv)), rfl⟩
    · intro acc H6 s6 hacc hp6
      rw [filter_true] at hp6
      obtain ⟨ps, al1, rfl, hpairs, hal1, hN1⟩ := pv_all (K := K) hp6
      have hndal1 : (al1.map (·.1)).Nodup := by rw [hal1]; exact hnd
      refine ⟨D4, ps, dkv al1, rfl, SqL.of hacc, hpairs, fun pn2 hpn2 => ?_⟩
      rw [(merge_all hndal1).1]
      refine ⟨pn2, mergeV [] al1, some (vN i), v7, v8, rfl, (s5.trans s6).trans (same_new hpn2 _), upd_same, fun v hv => ?_⟩
      rw [← hal1] at hv
      obtain ⟨x, x1, x2⟩ := val_mem hv
      rw [(merge_all hndal1).2, x1, hN1 v x x2]
  · rintro σ H5 ⟨pn, alN, v6, v7, v8, rfl, s5, hn5, hval⟩
    have s25 := s23.trans s5
    have gN : DGet H5 pn (.ref b) (some (vN (TK 7 7 m k l))) := by
      have := DGet.t hn5 (key_sh (s25 _ _ hb))
      rwa [dkv_val, hval l hlL] at this
    exact ⟨_, rfl, _, rfl, pn, _, rfl, gN, q H5 s25⟩
end
end GW
namespace GW
open PySem PySem.Spec PyProof.Rows L2 GR GS
/-! ### the pen -/
abbrev kCells : Key := .inr "cells"
abbrev kAt : Key := .inr "at"
abbrev kLeft : Key := .inr "left"
def penD (c : Addr) (n : Nat) (left : Int) : List (Key × V) := [(kCells, .ref c), (kAt, vN n), (kLeft, .int left)]
theorem ne1 : ¬ kCells = kAt := by decide +kernel
theorem ne2 : ¬ kCells = kLeft := by decide +kernel
theorem ne3 : ¬ kAt = kLeft := by decide +kernel
theorem pen_cells (c : Addr) (n : Nat) (left : Int) : valV (penD c n left) kCells = some (.ref c) := valV_pos rfl
theorem pen_at (c : Addr) (n : Nat) (left : Int) : valV (penD c n left) kAt = some (vN n) := (valV_neg ne1).trans (valV_pos rfl)
theorem pen_left (c : Addr) (n : Nat) (left : Int) : valV (penD c n left) kLeft = some (.int left) := (valV_neg ne2).trans ((valV_neg ne3).trans (valV_pos rfl))
theorem put_at (c : Addr) (n : Nat) (left : Int) (m : Nat) : putK (penD c n left) kAt (vN m) = penD c m left := by
  unfold putK
  rw [valV_any, pen_at, if_pos (show (some (vN n)).isSome = true from rfl)]
  unfold penD
  rw [List.map_cons, List.map_cons, List.map_cons, List.map_nil, if_neg ne1, if_pos rfl, if_neg (fun z => ne3 z.symm)]
theorem put_left (c : Addr) (n : Nat) (left x : Int) : putK (penD c n left) kLeft (.int x) = penD c n x := by
  unfold putK
  rw [valV_any, pen_left, if_pos (show (some (V.int left)).isSome = true from rfl)]
  unfold penD
  rw [List.map_cons, List.map_cons, List.map_cons, List.map_nil, if_neg ne2, if_neg ne3, if_pos rfl]
/-- a pen that was asked at most n times -/
def PenH (H : Hp) (a c : Addr) (N : Nat) : Prop := ∃ (ns : List Int) (n : Nat) (left : Int), H a = some (.dK (penD c n left)) ∧ H c = some (.lst (ns.map V.int)) ∧ n ≤ N
/-- all but what stands at a is as it was -/
def SameX (a : Addr) (H H' : Hp) : Prop := ∀ b o, b ≠ a → H b = some o → H' b = some o
theorem SameX.refl (a : Addr) (H : Hp) : SameX a H H := fun _ _ _ h => h
theorem SameX.trans {a : Addr} {H H1 H2 : Hp} (h : SameX a H H1) (k : SameX a H1 H2) : SameX a H H2 := fun b o n q => k b o n (h b o n q)
theorem SameX.of {a : Addr} {H H' : Hp} (s : Same H H') : SameX a H H' := fun b o _ q => s b o q
theorem sameX_upd (a : Addr) (H : Hp) (o : HO) : SameX a H (upd H a o) := fun b u n q => by rw [upd_ne n]; exact q
theorem SameX.tup {a b c : Addr} {H H' : Hp} {N : Nat} {xs : List V} (s : SameX a H H') (p : PenH H a c N) (h : H b = some (.tup xs)) : H' b = some (.tup xs) := by
  obtain ⟨ns, n, left, h1, _⟩ := p
  exact s _ _ (fun z => by rw [z, h1] at h; cases h) h
theorem SameX.lst {a b c : Addr} {H H' : Hp} {N : Nat} {xs : List V} (s : SameX a H H') (p : PenH H a c N) (h : H b = some (.lst xs)) : H' b = some (.lst xs) := by
  obtain ⟨ns, n, left, h1, _⟩ := p
  exact s _ _ (fun z => by rw [z, h1] at h; cases h) h
theorem PenH.same {H H' : Hp} {a c : Addr} {N : Nat} (p : PenH H a c N) (s : Same H H') : PenH H' a c N := by
  obtain ⟨ns, n, left, h1, h2, h3⟩ := p
  exact ⟨ns, n, left, s _ _ h1, s _ _ h2, h3⟩
theorem PenH.le {H : Hp} {a c : Addr} {N M : Nat} (p : PenH H a c N) (h : N ≤ M) : PenH H a c M := by
  obtain ⟨ns, n, left, h1, h2, h3⟩ := p
  exact ⟨ns, n, left, h1, h2, by omega⟩
/-- a list at D grows: the pen is as it was -/
theorem PenH.put {H : Hp} {a c D : Addr} {N : Nat} {acc : List V} {o : HO} (p : PenH H a c N) (h : H D = some (.lst acc)) (hc : c ≠ D) : PenH (upd H D o) a c N := by
  obtain ⟨ns, n, left, h1, h2, h3⟩ := p
  have : a ≠ D := fun z => by rw [← z, h1] at h; cases h
  exact ⟨ns, n, left, by rw [upd_ne this]; exact h1, by rw [upd_ne hc]; exact h2, h3⟩
theorem PenH.c_ne {H : Hp} {a c D : Addr} {N : Nat} (p : PenH H a c N) (h : H D = none) : c ≠ D ∧ D ≠ a := by
  obtain ⟨ns, n, left, h1, h2, h3⟩ := p
  exact ⟨fun z => (by rw [z, h] at h2; cases h2), fun z => (by rw [z, h1] at h; cases h)⟩
theorem SameX.put {a D : Addr} {H H' : Hp} {o : HO} (s : SameX a H H') (h : H D = none) : SameX a H (upd H' D o) := fun b u n q => by
  have : b ≠ D := fun z => by rw [z, h] at q; cases q
  rw [upd_ne this]
  exact s b u n q
theorem seq_cut {t u : TS} {D : Ends} {σ : L2.St} {H : Hp} (M : L2.St → Hp → Prop) (h1 : ∀ D' : Ends, (∀ σ H, M σ H → D'.nx σ H) → t D' σ H) (h2 : ∀ σ H, M σ H → u D σ H) : tSeq t u D σ H := h1 _ h2
theorem SameX.free {a b : Addr} {H H' : Hp} (s : SameX a H H') (hne : b ≠ a) (h : H' b = none) : H b = none := by
  cases e : H b with
  | none => rfl
  | some o => rw [s b o hne e] at h; cases h
theorem eqv_intl (l : List Int) : PyData.eqv (.list (l.map PyData.int)) (.list []) = l.isEmpty := by
  cases l with
  | nil => simp [PyData.eqv, PyData.eqvAll]
  | cons x l => simp [PyData.eqv, PyData.eqvAll]
theorem lay_intl : ∀ v : List Int, PyData.canLayAll0 (v.map PyData.int) = true
  | [] => by simp [PyData.canLayAll0]
  | n :: v => by simp [PyData.canLayAll0, PyData.canLay0, lay_intl v]
theorem dep_intl : ∀ v : List Int, PyData.depthAll (v.map PyData.int) = 0
  | [] => by simp [PyData.depthAll]
  | n :: v => by simp [PyData.depthAll, PyData.depth, dep_intl v]
theorem shaped_intl (l : List Int) : SeqAt.shaped (.list (l.map PyData.int)) = true := by
  unfold SeqAt.shaped
  rw [PyData.canLay0, lay_intl, PyData.depth, dep_intl]
  rfl
theorem dp_intl {K : PySem.W.Frag} {H : Hp} : ∀ v : List Int, DpAll K H (v.map V.int) (v.map PyData.int)
  | [] => .nil
  | n :: v => .cons (.int _) (dp_intl v)
theorem mod_v {x : Int} {m : Nat} (h : 1 ≤ m) : ∃ r : Nat, r < m ∧ x % (m : Int) = (r : Int) := ⟨(x % (m : Int)).toNat, by
  have h1 := Int.emod_nonneg x (show (m : Int) ≠ 0 by omega)
  have h2 := Int.emod_lt_of_pos x (show (0 : Int) < m by omega)
  omega, by
  have h1 := Int.emod_nonneg x (show (m : Int) ≠ 0 by omega)
  omega⟩
theorem put_new {kvs : List (Key × V)} {k : Key} {v : V} (h : valV kvs k = none) : putK kvs k v = kvs ++ [(k, v)] := by
  unfold putK
  rw [valV_any, h, if_neg (by simp)]
theorem merge_pen (c : Addr) (n : Nat) (left : Int) : mergeK [] (penD c n left) = penD c n left := by
  have e1 : putK ([] : List (Key × V)) kCells (.ref c) = [(kCells, .ref c)] := put_new valV_nil
  have e2 : putK [(kCells, V.ref c)] kAt (vN n) = [(kCells, .ref c), (kAt, vN n)] := put_new ((valV_neg ne1).trans valV_nil)
  have e3 : putK [(kCells, V.ref c), (kAt, vN n)] kLeft (.int left) = [(kCells, .ref c), (kAt, vN n), (kLeft, .int left)] := put_new ((valV_neg ne2).trans ((valV_neg ne3).trans valV_nil))
  show putK (putK (putK [] kCells (.ref c)) kAt (vN n)) kLeft (.int left) = _
  rw [e1, e2, e3]
  rfl
theorem cut_ints (ns : List Int) (lo hi : Option Int) : ∃ ms : List Int, cutV (ns.map V.int) lo hi = ms.map V.int := by
  unfold cutV
  exact ⟨(ns.drop _).take _, by rw [List.map_take, List.map_drop]⟩
theorem mix_ok {Q : VK} {a : Addr} {many n : Nat} {x : Int} {v2 v5 : Option V} {H : Hp} (h1 : 1 ≤ many) (hn : n ≤ 2000) (q : ∀ r : Nat, r < many → Q (vN r) H) :
    tSeq (tAsg (tOp (rI (fun x j => 0 < j) fun i j => V.int (i % j)) (tOp (rI CMul fun i j => V.int (i * j)) (tOp (rI0 fun i j => V.int (i + j)) (tOp (rI0 fun i j => V.int (i + j)) (tOp (rI (fun x j => 0 < j) fun i j => V.int (i % j)) (tVar 4) (tC (V.int 2147483629)))
      (tOp (rI CMul fun i j => V.int (i * j)) (tC (V.int 40507)) (tVar 3))) (tC (V.int 3))) (tC (V.int 48271))) (tC (V.int 2147483587))) (gName 5))
    (tSeq (tAsg (tOp (rI (fun x j => 0 < j) fun i j => V.int (i % j)) (tOp (rI0 fun i j => V.int (i + j)) (tOp (rI0 fun i j => V.int (i + j)) (tOp (rI CMul fun i j => V.int (i * j)) (tVar 5) (tVar 5)) (tOp (rI CMul fun i j => V.int (i * j)) (tC (V.int 69623)) (tVar 5))) (tVar 3)) (tC (V.int 2147483563))) (gName 5))
    (tRet (tOp (rI (fun x j => 0 < j) fun i j => V.int (i % j)) (tOp (rI CDiv fun i j => V.int (i / j)) (tVar 5) (tC (V.int 64))) (tVar 1)))) { nx := fun _ H' => Q .non H', rt := Q } [some (.ref a), some (vN many), v2, some (vN n), some (.int x), v5] H := by
  refine ⟨_, rfl, _, _, rfl, rfl, (show (0 : Int) < 2147483629 by decide), _, rfl, 40507, _, rfl, rfl, .inl ⟨by decide, by decide⟩, _, _, rfl, rfl, _, _, rfl, rfl, _, 48271, rfl, rfl, .inr ⟨by decide, by decide⟩, _, _, rfl, rfl, (show (0 : Int) < 2147483587 by decide), ?_⟩
  generalize (x % 2147483629 + 40507 * (n : Int) + 3) * 48271 = y
  have y1 := Int.emod_nonneg y (show (2147483587 : Int) ≠ 0 by decide)
  have y2 := Int.emod_lt_of_pos y (show (0 : Int) < 2147483587 by decide)
  have e64 : (2 : Int) ^ 64 = 18446744073709551616 := rfl
  refine ⟨_, rfl, _, rfl, y % 2147483587, y % 2147483587, rfl, rfl, .inl ⟨by omega, by omega⟩, _, rfl, 69623, y % 2147483587, rfl, rfl, .inl ⟨by decide, by decide⟩, _, _, rfl, rfl, _, rfl, _, _, rfl, rfl, _, 2147483563, rfl, rfl, (show (0 : Int) < 2147483563 by decide), ?_⟩
  generalize y % 2147483587 * (y % 2147483587) + 69623 * (y % 2147483587) + (n : Int) = z
  obtain ⟨r, hr1, er⟩ := mod_v (x := z % 2147483563 / 64) h1
  refine ⟨_, rfl, z % 2147483563, 64, rfl, rfl, ⟨by decide, by decide⟩, _, rfl, z % 2147483563 / 64, (many : Int), rfl, rfl, (show (0 : Int) < (many : Int) by omega), ?_⟩
  show Q (V.int (z % 2147483563 / 64 % (many : Int))) H
  rw [er]
  exact q r hr1
section
variable {P : Program} {w : World} {K : PySem.W.Frag} {mg : Str → Option Value} {base : Heap} {f : Nat → Addr} {d : Nat → FuncData}
def spBegun (K : PySem.W.Frag) : Sp := fun vs H Q _ => ∃ (a : Addr) (ns : List Int), vs = [.ref a] ∧ SqL K H a (ns.map V.int) ∧ ∀ p c H', Same H H' → PenH H' p c 0 → Q (.ref p) H'
theorem sc69 : FnScope ["_law_script"] ["_law_script"] (defScope S69) := ⟨rfl, rfl, rfl, by decide +kernel, rfl, by decide +kernel, by decide +kernel⟩
theorem ok69 (T : Txt K mg f d) : FnOk P w K mg base CX0 1 (f 69) (d 69) ["_law_script"] (spBegun K) := by
  refine T.d_law_begun.F.ok sc69 (fun vs H Q E h => ?_) (fun cdv A outer s H vs Q E hr h => ?_)
  · obtain ⟨a, ns, rfl, _⟩ := h
    rfl
  obtain ⟨a, ns, rfl, ha, q⟩ := h
  refine ⟨_, pss_one (ps_ret (pe_disp (pps_cons pe_str (pe_callTy call_list_of (by rfl) T.b_list (by decide +kernel) (pa_cons (pe_slice sl_list (pv 0) po_none (po_some pe_int)) pa_nil)) (pps_cons pe_str pe_int (pps_cons pe_str pe_int pps_nil))) rfl rfl (by simp) (by decide))), ?_⟩
  refine fun p hp => ⟨_, rfl, 63, rfl, ?_⟩
  obtain ⟨ms, hms⟩ := cut_ints ns none (some 63)
  have s1 := same_new hp (.dK [])
  refine ⟨a, _, rfl, s1.seq ha, fun p1 hp1 => ?_⟩
  have s2 := s1.trans (same_new hp1 (.lst (cutV (ns.map V.int) none (some 63))))
  have g2 := same_new hp1 (.lst (cutV (ns.map V.int) none (some 63))) p _ upd_same
  refine ⟨p1, _, rfl, .inl (SqL.of upd_same), fun c hc => ?_⟩
  have g3 := same_new hc (.lst (cutV (ns.map V.int) none (some 63))) _ _ g2
  have s3 := s2.trans (same_new hc (.lst (cutV (ns.map V.int) none (some 63))))
  refine ⟨g3, penD c 0 0, rfl, (by show 3 ≤ 15; decide), ?_⟩
  rw [merge_pen]
  have ncp : c ≠ p := fun z => by rw [z, g2] at hc; cases hc
  refine q p c _ (same_mut s3 hp) ⟨ms, 0, 0, upd_same, ?_, Nat.le_refl _⟩
  rw [upd_ne ncp, upd_same, hms]
def spDraw : Sp := fun vs H Q _ => ∃ (a c : Addr) (many N : Nat), vs = [.ref a, vN many] ∧ PenH H a c N ∧ 1 ≤ many ∧ many ≤ 1000 ∧ N ≤ 1000 ∧ ∀ r H', r < many → SameX a H H' → PenH H' a c (N + 1) → Q (vN r) H'
theorem sc70 : FnScope ["_law_pen", "_law_many", "_law_digit", "_law_at", "_law_cell", "_law_number"] ["_law_pen", "_law_many"] (defScope S70) := ⟨rfl, rfl, rfl, by decide +kernel, rfl, by decide +kernel, by decide +kernel⟩
theorem ok70 (T : Txt K mg f d) : FnOk P w K mg base CX0 1 (f 70) (d 70) ["_law_pen", "_law_many"] spDraw := by
  refine T.d_law_take.F.ok sc70 (fun vs H Q E h => ?_) (fun cdv A outer s H vs Q E hr h => ?_)
  · obtain ⟨a, c, many, N, rfl, _⟩ := h
    rfl
  obtain ⟨a, c, many, N, rfl, ⟨ns, n, left, ha, hc, hn⟩, h1, h2, hN, q⟩ := h
  refine ⟨_, pss_cons (ps_if (pt_cmpR op_gt (pe_dget (hu_of hr) (pv 0) pe_str (fun _ _ => rfl)) pe_int (nomark _))
      (pss_cons (ps_set (i := 2) sc70.nd rfl (Or.inl rfl) (pe_op op_mod (pe_dget (hu_of hr) (pv 0) pe_str (fun _ _ => rfl)) (pv 1)))
      (pss_cons (ps_dput (hu_of hr) (pv 0) pe_str (pe_op op_fdiv (pe_dget (hu_of hr) (pv 0) pe_str (fun _ _ => rfl)) (pv 1)) rfl)
      (pss_one (ps_ret (pv 2))))) pss_nil)
    (pss_cons (ps_set (i := 3) sc70.nd rfl (Or.inl rfl) (pe_dget (hu_of hr) (pv 0) pe_str (fun _ _ => rfl)))
    (pss_cons (ps_dput (hu_of hr) (pv 0) pe_str (pe_op op_add (pv 3) pe_int) rfl)
    (pss_cons (ps_set (i := 4) sc70.nd rfl (Or.inl rfl) (pe_op op_add (pe_op op_mul (pe_op op_mul pe_int (pv 3)) (pv 3)) pe_int))
    (pss_cons (ps_if (pt_cmpR (op_neD hr.units) (pe_dget (hu_of hr) (pv 0) pe_str (fun _ _ => rfl)) (pe_lst pa_nil) (nomark _))
      (pss_one (ps_set (i := 4) sc70.nd rfl (Or.inl rfl) (pe_ix ix_list (pe_dget (hu_of hr) (pv 0) pe_str (fun _ _ => rfl)) (pe_op op_mod (pv 3) (pe_callB call_len' (by rfl) T.b_len PySem.boot_len (pa_cons (pe_dget (hu_of hr) (pv 0) pe_str (fun _ _ => rfl)) pa_nil))) (fun _ _ => rfl)))) pss_nil)
    (pss_cons (ps_if (PW.pt (pw_and (pt_cmpR op_lt (pv 3) (pe_callB call_len' (by rfl) T.b_len PySem.boot_len (pa_cons (pe_dget (hu_of hr) (pv 0) pe_str (fun _ _ => rfl)) pa_nil)) (nomark _)) (pw_and1 (pt_cmpR op_ge (pe_callB call_abs (by rfl) T.b_abs (by decide +kernel) (pa_cons (pv 4) pa_nil)) (pe_op op_pow pe_int pe_int) (nomark _)))))
      (pss_cons (ps_dput (hu_of hr) (pv 0) pe_str (pe_op op_fdiv (pe_callB call_abs (by rfl) T.b_abs (by decide +kernel) (pa_cons (pv 4) pa_nil)) (pv 1)) rfl)
      (pss_one (ps_ret (pe_op op_mod (pe_callB call_abs (by rfl) T.b_abs (by decide +kernel) (pa_cons (pv 4) pa_nil)) (pv 1))))) pss_nil)
    (pss_cons (ps_set (i := 5) sc70.nd rfl (Or.inl rfl) (pe_op op_mod (pe_op op_mul (pe_op op_add (pe_op op_add (pe_op op_mod (pv 4) pe_int) (pe_op op_mul pe_int (pv 3))) pe_int) pe_int) pe_int))
    (pss_cons (ps_set (i := 5) sc70.nd rfl (Or.inl rfl) (pe_op op_mod (pe_op op_add (pe_op op_add (pe_op op_mul (pv 5) (pv 5)) (pe_op op_mul pe_int (pv 5))) (pv 3)) pe_int))
    (pss_one (ps_ret (pe_op op_mod (pe_op op_fdiv (pv 5) pe_int) (pv 1))))))))))), ?_⟩
  have gl : DGet H a (.str "left") (some (.int left)) := by
    have := DGet.k (k := kLeft) ha
    rwa [pen_left] at this
  have ga : DGet H a (.str "at") (some (vN n)) := by
    have := DGet.k (k := kAt) ha
    rwa [pen_at] at this
  have nca : c ≠ a := fun z => by rw [z, ha] at hc; cases hc
  have e64 : (2 : Int) ^ 64 = 18446744073709551616 := rfl
  refine ⟨_, rfl, a, _, rfl, gl, _, _, rfl, rfl, _, rfl, ?_⟩
  by_cases cl : (0 : Int) < left
  · rw [decide_eq_true cl]
    obtain ⟨r, hr1, er⟩ := mod_v (x := left) h1
    refine iteT ⟨_, rfl, a, _, rfl, gl, _, rfl, _, _, rfl, rfl, (show (0 : Int) < (many : Int) by omega), ?_⟩
    refine ⟨_, rfl, a, _, rfl, gl, _, rfl, _, _, rfl, rfl, ⟨by omega, by omega⟩, _, rfl, a, _, rfl, DPut.k (k := kLeft) ha (by show 3 < sizeLine; decide), ?_⟩
    refine ⟨_, rfl, ?_⟩
    show Q (V.int (left % (many : Int))) _
    rw [er, put_left]
    exact q r _ hr1 (sameX_upd _ _ _) ⟨ns, n, _, upd_same, by rw [upd_ne nca]; exact hc, by omega⟩
  rw [decide_eq_false cl]
  refine iteF ⟨_, rfl, a, _, rfl, ga, _, rfl, _, _, rfl, rfl, _, rfl, a, _, rfl, DPut.k (k := kAt) ha (by show 3 < sizeLine; decide), ?_⟩
  have en : V.int ((n : Int) + 1) = vN (n + 1) := rfl
  show tSeq _ _ _ _ (upd H a (.dK (putK (penD c n left) kAt (V.int ((n : Int) + 1)))))
  rw [en, put_at]
  have sA : SameX a H (upd H a (.dK (penD c (n + 1) left))) := sameX_upd _ _ _
  have haA : upd H a (.dK (penD c (n + 1) left)) a = some (.dK (penD c (n + 1) left)) := upd_same
  have hcA := sA _ _ nca hc
  generalize upd H a (.dK (penD c (n + 1) left)) = HA at sA haA hcA ⊢
  refine ⟨_, rfl, 31, _, rfl, rfl, .inl ⟨by decide, by decide⟩, _, rfl, _, _, rfl, rfl, .inr ⟨by omega, by omega⟩, _, _, rfl, rfl, ?_⟩
  have gcA : DGet HA a (.str "cells") (some (.ref c)) := by
    have := DGet.k (k := kCells) haA
    rwa [pen_cells] at this
  refine ⟨_, rfl, a, _, rfl, gcA, (by show 0 ≤ sizeLine; decide), fun pe hpe => ?_⟩
  have sB := same_new hpe (.lst [])
  have heB : upd HA pe (.lst []) pe = some (.lst []) := upd_same
  generalize upd HA pe (.lst []) = HB at sB heB ⊢
  have hcB := sB _ _ hcA
  have haB := sB _ _ haA
  have sXB := sA.trans (SameX.of sB)
  have gcB : DGet HB a (.str "cells") (some (.ref c)) := by
    have := DGet.k (k := kCells) haB
    rwa [pen_cells] at this
  refine ⟨.list (ns.map PyData.int), .list [], .lst (SqL.of hcB) (dp_intl ns), .lst (SqL.of heB) .nil, shaped_intl ns, rfl, _, rfl, ?_⟩
  rw [eqv_intl]
  have qB : ∀ r, r < many → Q (vN r) HB := fun r hr => q r HB hr sXB ⟨ns, n + 1, left, haB, hcB, by omega⟩
  cases ns with
  | nil =>
    refine iteF ?_
    refine ⟨_, rfl, _, rfl, a, _, rfl, gcB, c, _, rfl, .inl (SqL.of hcB), _, _, rfl, rfl, _, rfl, ?_⟩
    rw [show decide ((n : Int) < ((((([] : List Int).map V.int).length : Nat)) : Int)) = false from decide_eq_false (by show ¬ (n : Int) < ((0 : Nat) : Int); omega)]
    exact iteF (iteF (mix_ok h1 (by omega) qB))
  | cons m0 ns =>
    generalize hms : m0 :: ns = ms at *
    have hmp : 0 < ms.length := by rw [← hms]; simp
    have hme : ms.isEmpty = false := by rw [← hms]; rfl
    rw [hme]
    obtain ⟨j, hj1, ej⟩ := mod_v (x := (n : Int)) (m := ms.length) hmp
    obtain ⟨x, hx⟩ : ∃ x, ms[j]? = some x := ⟨_, List.getElem?_eq_getElem hj1⟩
    have hat : atI (ms.map V.int) ((n : Int) % (((ms.map V.int).length : Nat) : Int)) = some (.int x) := by
      rw [List.length_map, ej]
      exact atI_nat (by rw [List.getElem?_map, hx]; rfl)
    refine iteT ⟨_, rfl, a, _, rfl, gcB, _, rfl, _, rfl, a, _, rfl, gcB, c, _, rfl, .inl (SqL.of hcB), _, _, rfl, rfl, (by rw [List.length_map]; show (0 : Int) < (ms.length : Nat); omega), c, _, _, _, rfl, rfl, SqL.of hcB, hat, ?_⟩
    refine ⟨_, rfl, _, rfl, a, _, rfl, gcB, c, _, rfl, .inl (SqL.of hcB), _, _, rfl, rfl, _, rfl, ?_⟩
    rw [List.length_map]
    by_cases c1 : (n : Int) < (ms.length : Nat)
    · rw [decide_eq_true c1]
      refine iteT ⟨_, rfl, _, rfl, 10, 18, rfl, rfl, ⟨by decide, by decide, by decide⟩, _, _, rfl, rfl, _, rfl, ?_⟩
      by_cases c2 : (10 : Int) ^ (18 : Int).toNat ≤ (if x < 0 then -x else x)
      · rw [decide_eq_true c2]
        obtain ⟨r, hr1, er⟩ := mod_v (x := if x < 0 then -x else x) h1
        refine iteT ⟨_, rfl, _, rfl, _, rfl, _, _, rfl, rfl, ⟨by omega, by omega⟩, _, rfl, a, _, rfl, DPut.k (k := kLeft) haB (by show 3 < sizeLine; decide), ?_⟩
        refine ⟨_, rfl, _, rfl, _, rfl, _, _, rfl, rfl, (show (0 : Int) < (many : Int) by omega), ?_⟩
        show Q (V.int ((if x < 0 then -x else x) % (many : Int))) (upd HB a (.dK (putK (penD c (n + 1) left) kLeft (V.int ((if x < 0 then -x else x) / (many : Int))))))
        rw [er, put_left]
        exact q r _ hr1 (sXB.trans (sameX_upd _ _ _)) ⟨ms, n + 1, _, upd_same, by rw [upd_ne nca]; exact hcB, by omega⟩
      · rw [decide_eq_false c2]
        exact iteF (mix_ok h1 (by omega) qB)
    · rw [decide_eq_false c1]
      exact iteF (iteF (mix_ok h1 (by omega) qB))
end
end GW
namespace GW
open PySem PySem.Spec PyProof.Rows L2 GR GS
section
variable {P : Program} {w : World} {K : PySem.W.Frag} {mg : Str → Option Value} {base : Heap} {f : Nat → Addr} {d : Nat → FuncData}
def spCut : Sp := fun vs H Q _ => ∃ (a : Addr) (l : List Nat), vs = [.ref a] ∧ H a = some (.lst (tv l)) ∧ l.length ≤ 1000 ∧ ∀ p H', Same H H' → ShH H' p (nought l) → Q (.ref p) H'
theorem sc71 : FnScope ["_law_lengths", "_law_number"] ["_law_lengths"] (defScope S71) := ⟨rfl, rfl, rfl, by decide +kernel, rfl, by decide +kernel, by decide +kernel⟩
theorem ok71 (T : Txt K mg f d) : FnOk P w K mg base CX0 1 (f 71) (d 71) ["_law_lengths"] spCut := by
  refine T.d_law_cut.F.ok sc71 (fun vs H Q E h => ?_) (fun cdv A outer s H vs Q E hr h => ?_)
  · obtain ⟨a, l, rfl, _⟩ := h
    rfl
  obtain ⟨a, l, rfl, ha, hl, q⟩ := h
  refine ⟨_, pss_one (ps_ret (pe_callTy call_tuple_of (by rfl) T.b_tuple (by decide +kernel) (pa_cons (pe_lc (own := [("_law_number", 1)]) (g := gName 1) rfl sc71.nd (pi_list (pv 0)) (blkOk_by (N := ["_law_lengths", "_law_number"]) (sc := defScope S71) (by decide +kernel)) (fun _ _ _ _ _ => pg_name (i := 1) sc71.nd rfl (Or.inl rfl))
    (fun _ _ _ _ _ => pts_one (pt_cmpR op_gt (pv 1) pe_int (nomark _))) (fun _ _ _ _ _ => pv 1)) pa_nil))), ?_⟩
  refine ⟨_, rfl, a, rfl, ⟨_, SqL.of ha⟩, fun D hD => ?_⟩
  refine lc_vals (src := l) walk_lv hD (fun n => decide (0 < n)) vN (smallL (by omega)) (fun H' s' => s' _ _ ha) ?_ ?_
  · rintro t n hn H4 x H4' acc2 s4 hacc2 ⟨rfl, hx⟩ A2 B2 y1 y2
    obtain rfl := hx n hn
    refine ⟨rfl, _, rfl, _, _, rfl, rfl, _, rfl, ?_⟩
    by_cases c3 : 0 < n
    · rw [decide_eq_true (show (0 : Int) < (n : Int) by omega)]
      exact iteT ⟨_, rfl, y1 (decide_eq_true c3) _ (Same.refl _)⟩
    · rw [decide_eq_false (show ¬ (0 : Int) < (n : Int) by omega)]
      exact iteF (y2 (decide_eq_false c3) _ (Same.refl _))
  · intro H5 s5 hD5
    exact ⟨D, _, rfl, .inl ⟨SqL.of hD5, fun p6 hp6 => q p6 _ (s5.trans (same_new hp6 _)) upd_same⟩⟩
/-- lengths of rows of a box -/
structure Dec (h w : Nat) (l : List Nat) : Prop where
  len : l.length ≤ h
  dec : ∀ i, row l (i + 1) ≤ row l i
  wide : row l 0 ≤ w
theorem Dec.bx {h w : Nat} {l : List Nat} (d : Dec h w l) : Bx h w (nought l) := by
  refine mem_boxS.mpr ⟨noughts_sh d.dec, Nat.le_trans (List.length_filter_le _ _) d.len, ?_⟩
  unfold nought
  rw [row_noughts d.dec]
  exact d.wide
theorem dec_pair : ∀ {l : List Nat}, l.Pairwise (fun a b => b ≤ a) → ∀ i, row l (i + 1) ≤ row l i
  | [], _, i => by rw [row_nil]; exact Nat.zero_le _
  | x :: l, h, 0 => by
    rw [List.pairwise_cons] at h
    rw [row_zero, row_succ]
    cases l with
    | nil => rw [row_nil]; exact Nat.zero_le _
    | cons y l => rw [row_zero]; exact h.1 y List.mem_cons_self
  | x :: l, h, i + 1 => by
    rw [List.pairwise_cons] at h
    rw [row_succ, row_succ]
    exact dec_pair h.2 i
theorem row_le {l : List Nat} {w : Nat} (h : ∀ x ∈ l, x ≤ w) (i : Nat) : row l i ≤ w := by
  rcases Nat.lt_or_ge i l.length with c | c
  · rw [row_get c]
    exact h _ (List.getElem_mem c)
  · rw [row_ge c]; exact Nat.zero_le _
theorem dec_rep (h w : Nat) : Dec h w (List.replicate h w) := ⟨by simp, dec_pair (List.pairwise_replicate.mpr (.inr (Nat.le_refl _))), row_le (fun x hx => by rw [List.eq_of_mem_replicate hx]; exact Nat.le_refl _) 0⟩
theorem dec_stair (h w : Nat) : Dec h w ((List.range h).map fun k => w - k) := by
  refine ⟨by simp, fun i => ?_, row_le (fun x hx => ?_) 0⟩
  · rw [row_mapRange, row_mapRange]
    split <;> split <;> omega
  · obtain ⟨k, _, rfl⟩ := List.mem_map.mp hx
    omega
theorem row_take' (l : List Nat) (i : Nat) : row (l.take 1) i = if i = 0 then row l 0 else 0 := by
  cases l with
  | nil => rw [List.take_nil, row_nil, row_nil]; split <;> rfl
  | cons x l =>
    rw [List.take_succ_cons, List.take_zero]
    cases i with
    | zero => rfl
    | succ i => rw [row_succ, row_nil, if_neg (by omega)]
theorem Dec.one {h w : Nat} {l : List Nat} (d : Dec h w l) : Dec h w (l.take 1) := by
  refine ⟨?_, fun i => ?_, ?_⟩
  · rw [List.length_take]
    have := d.len
    omega
  · rw [row_take', row_take', if_neg (by omega)]
    exact Nat.zero_le _
  · rw [row_take', if_pos rfl]
    exact d.wide
theorem row_mins : ∀ (l : List Nat) (i : Nat), row (l.map (min 1)) i = min 1 (row l i)
  | [], i => by rw [List.map_nil, row_nil]; omega
  | x :: l, 0 => rfl
  | x :: l, i + 1 => by rw [List.map_cons, row_succ, row_succ, row_mins l i]
theorem Dec.mins {h w : Nat} {l : List Nat} (d : Dec h w l) : Dec h w (l.map (min 1)) := by
  refine ⟨by rw [List.length_map]; exact d.len, fun i => ?_, ?_⟩
  · rw [row_mins, row_mins]
    have := d.dec i
    omega
  · rw [row_mins]
    have := d.wide
    omega
theorem dec_sorted {h w : Nat} {L : List Nat} {ns : List Int} (hl : L.length ≤ h) (hw : ∀ x ∈ L, x ≤ w) (hp : ns.Perm (L.map fun n : Nat => (n : Int))) (hs : ns.Pairwise (· ≤ ·)) : ∃ M : List Nat, (ns.map V.int).reverse = tv M ∧ Dec h w M := by
  have h0 : ∀ x ∈ ns, ∃ n : Nat, x = (n : Int) ∧ n ≤ w := fun x hx => by
    obtain ⟨n, hn, rfl⟩ := List.mem_map.mp (hp.mem_iff.mp hx)
    exact ⟨n, rfl, hw n hn⟩
  refine ⟨(ns.map Int.toNat).reverse, ?_, ?_, dec_pair ?_, row_le (fun x hx => ?_) 0⟩
  · unfold tv
    rw [List.map_reverse, List.map_map]
    congr 1
    refine List.map_congr_left fun x hx => ?_
    obtain ⟨n, rfl, _⟩ := h0 x hx
    rfl
  · rw [List.length_reverse, List.length_map, hp.length_eq, List.length_map]
    exact hl
  · rw [List.pairwise_reverse, List.pairwise_map]
    exact hs.imp fun h => Int.toNat_le_toNat h
  · rw [List.mem_reverse, List.mem_map] at hx
    obtain ⟨y, hy, rfl⟩ := hx
    obtain ⟨n, rfl, hn⟩ := h0 y hy
    exact hn
theorem rep_flatN (w : Nat) : ∀ n : Nat, (List.replicate n [vN w]).flatten = tv (List.replicate n w)
  | 0 => rfl
  | n + 1 => by
    rw [List.replicate_succ, List.flatten_cons, List.replicate_succ, rep_flatN w n]
    rfl
theorem cut_one (l : List Nat) : cutV (tv l) none (some 1) = tv (l.take 1) := by
  have e : cutV (tv l) none (some ((1 : Nat) : Int)) = tv (l.take 1) := by
    unfold cutV
    rw [HT.sIx_none, HT.sIx_nat, List.drop_zero, Nat.sub_zero, tv_len]
    cases l with
    | nil => rfl
    | cons x l =>
      rw [Nat.min_eq_left (by simp)]
      rfl
  exact e
theorem g_name {i : Nat} {v : V} {σ : L2.St} {H : Hp} {Q : L2.St → Hp → Prop} (h : Q (σ.set i (some v)) H) : gName i v σ H Q := h
def DInv (H0 : Hp) (a c : Addr) (h w way N : Nat) (σ : L2.St) (H' : Hp) : Prop := ∃ p L v5 v6, σ = [some (.ref a), some (vN h), some (vN w), some (vN way), some (.ref p), v5, v6] ∧ SameX a H0 H' ∧ PenH H' a c (N + 1 + h) ∧ H' p = some (.lst (tv L)) ∧ Dec h w L
def spDrawn : Sp := fun vs H Q _ => ∃ (a c : Addr) (h w N : Nat), vs = [.ref a, vN h, vN w] ∧ PenH H a c N ∧ h ≤ 7 ∧ w ≤ 7 ∧ N ≤ 500 ∧ ∀ p H' v, SameX a H H' → PenH H' a c (N + 1 + h) → ShH H' p v → Bx h w v → Q (.ref p) H'
theorem sc72 : FnScope ["_law_pen", "_law_high", "_law_wide", "_law_way", "_law_lengths", "_law_k", "_law_number"] ["_law_pen", "_law_high", "_law_wide"] (defScope S72) := ⟨rfl, rfl, rfl, by decide +kernel, rfl, by decide +kernel, by decide +kernel⟩
theorem ok72 (T : Txt K mg f d) : FnOk P w K mg base CX0 2 (f 72) (d 72) ["_law_pen", "_law_high", "_law_wide"] spDrawn := by
  refine T.d_law_drawn.F.ok sc72 (fun vs H Q E h => ?_) (fun cdv A outer s H vs Q E hr h => ?_)
  · obtain ⟨a, c, h, w, N, rfl, _⟩ := h
    rfl
  obtain ⟨a, c, h, w, N, rfl, hp, hh, hw, hN, q⟩ := h
  refine ⟨_, pss_cons (ps_set (i := 3) sc72.nd rfl (Or.inl rfl) (dcall T.d_law_take (ok70 T) hr (pa_cons (pv 0) (pa_cons pe_int pa_nil))))
    (pss_cons (ps_set (i := 4) sc72.nd rfl (Or.inl rfl) (pe_revL (pe_callB cr_sortedI (by rfl) T.b_sorted (by decide +kernel) (pa_cons (pe_lc (own := [("_law_k", 5)]) (g := gName 5) rfl sc72.nd (pi_range1 (by rfl) T.b_range (pa_cons (pv 1) pa_nil)) (blkOk_by (N := ["_law_pen", "_law_high", "_law_wide", "_law_way", "_law_lengths", "_law_k", "_law_number"]) (sc := defScope S72) (by decide +kernel))
      (fun _ _ _ _ _ => pg_name (i := 5) sc72.nd rfl (Or.inl rfl)) (fun _ _ _ _ _ => pts_nil) (fun _ _ _ _ _ => dcall T.d_law_take (ok70 T) hr (pa_cons (pv 0) (pa_cons (pe_op op_add (pv 2) pe_int) pa_nil)))) pa_nil))))
    (pss_cons (ps_if (pt_cmpR op_eq (pv 3) pe_int (nomark _)) (pss_one (ps_set (i := 4) sc72.nd rfl (Or.inl rfl) (pe_op op_rep (pe_lst (pa_cons (pv 2) pa_nil)) (pv 1)))) pss_nil)
    (pss_cons (ps_if (pt_cmpR op_eq (pv 3) pe_int (nomark _)) (pss_one (ps_setLc (i := 4) (own := [("_law_k", 5)]) (g := gName 5) (by rfl) sc72.nd rfl rfl (sw_true rfl rfl rfl (by decide +kernel)) (pi_range1 (by rfl) T.b_range (pa_cons (pv 1) pa_nil)) (blkOk_by (N := ["_law_pen", "_law_high", "_law_wide", "_law_way", "_law_lengths", "_law_k", "_law_number"]) (sc := defScope S72) (by decide +kernel))
      (fun _ _ _ _ _ => pg_name (i := 5) sc72.nd rfl (Or.inl rfl)) (fun _ _ _ _ _ => pts_nil) (fun _ _ _ _ _ => pe_callB (call_max2 rfl) (by rfl) T.b_max (by decide +kernel) (pa_cons pe_int (pa_cons (pe_op op_sub (pv 2) (pv 5)) pa_nil))))) pss_nil)
    (pss_cons (ps_if (pt_cmpR op_eq (pv 3) pe_int (nomark _)) (pss_one (ps_set (i := 4) sc72.nd rfl (Or.inl rfl) (pe_slice sl_list (pv 4) po_none (po_some pe_int)))) pss_nil)
    (pss_cons (ps_if (pt_cmpR op_eq (pv 3) pe_int (nomark _)) (pss_one (ps_setLc (i := 4) (own := [("_law_number", 6)]) (g := gName 6) (by rfl) sc72.nd rfl rfl (sw_true rfl rfl rfl (by decide +kernel)) (pi_list (pv 4)) (blkOk_by (N := ["_law_pen", "_law_high", "_law_wide", "_law_way", "_law_lengths", "_law_k", "_law_number"]) (sc := defScope S72) (by decide +kernel))
      (fun _ _ _ _ _ => pg_name (i := 6) sc72.nd rfl (Or.inl rfl)) (fun _ _ _ _ _ => pts_nil) (fun _ _ _ _ _ => pe_callB (call_min2 rfl) (by rfl) T.b_min (by decide +kernel) (pa_cons pe_int (pa_cons (pv 6) pa_nil))))) pss_nil)
    (pss_one (ps_ret (dcall T.d_law_cut (ok71 T) hr (pa_cons (pv 4) pa_nil))))))))), ?_⟩
  refine ⟨_, rfl, a, c, 10, N, rfl, hp, by omega, by omega, by omega, fun way H1 hw1 s1 hp1 => ?_⟩
  refine ⟨_, rfl, _, rfl, by omega, by omega, fun D hD => ?_⟩
  rw [Int.toNat_natCast]
  obtain ⟨ncD, nDa⟩ := hp1.c_ne hD
  refine lc_it walk_rv (fun i H' => SameX a H1 H' ∧ PenH H' a c (N + 1 + i) ∧ ∃ L, H' D = some (.lst (tv L)) ∧ L.length = i ∧ ∀ x ∈ L, x ≤ w)
    ⟨SameX.of (same_new hD _), hp1.same (same_new hD _), [], upd_same, rfl, by simp⟩ (fun _ _ _ _ => trivial) ?_ ?_
  · rintro i x H2 H2' hi ⟨s2, p2, L, hDL, hLl, hLw⟩ ⟨rfl, rfl⟩
    refine ⟨rfl, yes ⟨_, rfl, _, rfl, _, _, rfl, rfl, a, c, w + 1, N + 1 + i, rfl, p2, by omega, by omega, by omega, fun r H4 hr4 s4 p4 => ?_⟩⟩
    have hD4 := s4.lst p2 hDL
    refine ⟨tv L, hD4, by rw [tv_len, hLl]; exact smallL (by omega), (s2.trans s4).put hD, p4.put hD4 ncD, L ++ [r], by rw [upd_same, tv_append]; rfl, by rw [List.length_append, hLl]; rfl, fun y hy => ?_⟩
    rcases List.mem_append.mp hy with hy | hy
    · exact hLw y hy
    · rw [List.mem_singleton] at hy
      omega
  rintro H2 ⟨s2, p2, L, hDL, hLl, hLw⟩
  refine ⟨D, L.map fun n : Nat => (n : Int), rfl, SqL.of (by rw [hDL, tv_int]), fun ns' p hperm hsort hpn => ?_⟩
  refine ⟨p, _, rfl, SqL.of upd_same, fun p5 hp5 => ?_⟩
  obtain ⟨M, hM, dM⟩ := dec_sorted (h := h) (by omega) hLw hperm hsort
  rw [hM]
  have s25 := (same_new hpn (.lst (ns'.map V.int))).trans (same_new hp5 (.lst (tv M)))
  have start : DInv H a c h w way N [some (.ref a), some (vN h), some (vN w), some (vN way), some (.ref p5), none, none] (upd (upd H2 p (.lst (ns'.map V.int))) p5 (.lst (tv M))) :=
    ⟨p5, M, none, none, rfl, (s1.trans s2).trans (SameX.of s25), p2.same s25, upd_same, dM⟩
  generalize upd (upd H2 p (.lst (ns'.map V.int))) p5 (.lst (tv M)) = H5 at start ⊢
  clear s25 hM hp5 hpn
  refine g_name ?_
  dsimp only
  refine seq_cut (DInv H a c h w way N) (fun D' k => ?_) ?_
  · refine ⟨_, rfl, rfl, _, rfl, ite2 (fun _ => ?_) (fun _ => k _ _ start)⟩
    obtain ⟨p, L, v5, v6, e, sX, pX, hpL, dL⟩ := start
    refine ⟨_, rfl, (by show 1 ≤ sizeLine; decide), fun p7 hp7 => ⟨_, rfl, p7, (h : Int), _, rfl, rfl, upd_same, by omega, by omega, by rw [Int.toNat_natCast]; show 1 * h ≤ sizeLine; exact small (by omega), fun p8 hp8 => ?_⟩⟩
    rw [Int.toNat_natCast, rep_flatN]
    have s8 := (same_new hp7 (.lst [vN w])).trans (same_new hp8 (.lst (tv (List.replicate h w))))
    exact k _ _ ⟨p8, _, _, _, rfl, sX.trans (SameX.of s8), pX.same s8, upd_same, dec_rep h w⟩
  rintro σ H6 ⟨p, L, v5, v6, rfl, sX, pX, hpL, dL⟩
  refine seq_cut (DInv H a c h w way N) (fun D' k => ?_) ?_
  · refine ⟨_, rfl, rfl, _, rfl, ite2 (fun _ => ?_) (fun _ => k _ _ ⟨p, L, v5, v6, rfl, sX, pX, hpL, dL⟩)⟩
    refine ⟨_, rfl, _, rfl, by omega, by omega, fun D hD => ?_⟩
    rw [Int.toNat_natCast]
    refine lc_vals (src := List.range h) (by rw [List.length_range]; exact walk_rv) hD (fun _ => true) (fun k => vN (w - k)) (by rw [List.length_range]; exact smallL (by omega)) (fun _ _ => trivial) ?_ ?_
    · rintro i r hr2 H2 x H' acc s2 hacc ⟨rfl, rfl⟩ A B y1 _
      obtain ⟨hi, rfl⟩ := mem_rng hr2
      refine ⟨rfl, yes ⟨_, rfl, _, rfl, _, _, rfl, rfl, _, _, rfl, ?_⟩⟩
      have e : vN (w - i) = V.int (if (w : Int) - (i : Int) > 0 then (w : Int) - (i : Int) else 0) := by
        show V.int _ = V.int _
        congr 1
        split <;> omega
      have z := y1 rfl _ (Same.refl _)
      rw [e] at z
      exact z
    · intro H7 s7 hD7
      rw [filter_true] at hD7
      exact k _ _ ⟨D, (List.range h).map fun k => w - k, v5, v6, rfl, sX.trans (SameX.of s7), pX.same s7, by rw [hD7]; unfold tv; rw [List.map_map]; rfl, dec_stair h w⟩
  rintro σ H6 ⟨p, L, v5, v6, rfl, sX, pX, hpL, dL⟩
  refine seq_cut (DInv H a c h w way N) (fun D' k => ?_) ?_
  · refine ⟨_, rfl, rfl, _, rfl, ite2 (fun _ => ?_) (fun _ => k _ _ ⟨p, L, v5, v6, rfl, sX, pX, hpL, dL⟩)⟩
    refine ⟨_, rfl, 1, rfl, p, _, rfl, SqL.of hpL, fun p8 hp8 => ?_⟩
    rw [cut_one]
    have s8 := same_new hp8 (.lst (tv (L.take 1)))
    exact k _ _ ⟨p8, _, _, _, rfl, sX.trans (SameX.of s8), pX.same s8, upd_same, dL.one⟩
  rintro σ H6 ⟨p, L, v5, v6, rfl, sX, pX, hpL, dL⟩
  refine seq_cut (DInv H a c h w way N) (fun D' k => ?_) ?_
  · refine ⟨_, rfl, rfl, _, rfl, ite2 (fun _ => ?_) (fun _ => k _ _ ⟨p, L, v5, v6, rfl, sX, pX, hpL, dL⟩)⟩
    refine ⟨_, rfl, p, rfl, ⟨_, SqL.of hpL⟩, fun D hD => ?_⟩
    have hLh := dL.len
    refine lc_vals (src := L) walk_lv hD (fun _ => true) (fun n => vN (min 1 n)) (smallL (by omega)) (fun H' s' => s' _ _ hpL) ?_ ?_
    · rintro i n hn H2 x H' acc s2 hacc ⟨rfl, hx⟩ A B y1 _
      obtain rfl := hx n hn
      refine ⟨rfl, yes ⟨_, rfl, _, _, rfl, ?_⟩⟩
      have e : vN (min 1 n) = V.int (if (n : Int) < 1 then (n : Int) else 1) := by
        show V.int _ = V.int _
        congr 1
        split <;> omega
      have z := y1 rfl _ (Same.refl _)
      rw [e] at z
      exact z
    · intro H7 s7 hD7
      rw [filter_true] at hD7
      exact k _ _ ⟨D, L.map (min 1), v5, v6, rfl, sX.trans (SameX.of s7), pX.same s7, by rw [hD7]; unfold tv; rw [List.map_map]; rfl, dL.mins⟩
  rintro σ H6 ⟨p, L, v5, v6, rfl, sX, pX, hpL, dL⟩
  have hLh := dL.len
  exact ⟨_, rfl, p, L, rfl, hpL, by omega, fun p9 H9 s9 h9 => q p9 H9 _ (sX.trans (SameX.of s9)) (pX.same s9) h9 dL.bx⟩
end
end GW
namespace GW
open PySem PySem.Spec PyProof.Rows L2 GR GS
theorem cut_last (l : List Nat) : cutV (tv l) (some (-1)) none = tv (l.drop (l.length - 1)) := by
  unfold cutV
  have e : HT.sIx (tv l).length 0 (some (-1)) = l.length - 1 := by
    rw [tv_len]
    show (if (-1 : Int) < 0 then ((-1 : Int) + (l.length : Int)).toNat else min (-1 : Int).toNat l.length) = l.length - 1
    rw [if_pos (by decide)]
    omega
  rw [e, HT.sIx_none]
  unfold tv
  rw [← List.map_drop]
  refine List.take_of_length_le ?_
  rw [List.length_map, List.length_drop, List.length_map]
  exact Nat.le_refl _
theorem mem_last {l : List Nat} (h : 0 < l.length) : row l (l.length - 1) ∈ l.drop (l.length - 1) := by
  rw [row_get (by omega), List.drop_eq_getElem_cons (by omega)]
  exact List.mem_cons_self
/-- lengths of rows within a share's -/
structure Inn (l L : List Nat) : Prop where
  le : ∀ i, row L i ≤ row l i
  dec : ∀ i, row L (i + 1) ≤ row L i
  len : L.length ≤ l.length
theorem Inn.sh {l L : List Nat} (h : Inn l L) : IsSh (nought L) ∧ wi (nought L) l := by
  refine ⟨noughts_sh h.dec, fun i => ?_⟩
  unfold nought
  rw [row_noughts h.dec]
  exact h.le i
def IInv (H0 : Hp) (a b c : Addr) (l : List Nat) (way N : Nat) (σ : L2.St) (H' : Hp) : Prop := ∃ p L v4, σ = [some (.ref a), some (.ref b), some (vN way), some (.ref p), v4] ∧ SameX a H0 H' ∧ PenH H' a c N ∧ H' p = some (.lst (tv L)) ∧ Inn l L
section
variable {P : Program} {w : World} {K : PySem.W.Frag} {mg : Str → Option Value} {base : Heap} {f : Nat → Addr} {d : Nat → FuncData}
def spInner : Sp := fun vs H Q _ => ∃ (a b c : Addr) (l : List Nat) (N : Nat), vs = [.ref a, .ref b] ∧ PenH H a c N ∧ ShH H b l ∧ Bx 7 7 l ∧ N ≤ 500 ∧ ∀ p H' v, SameX a H H' → PenH H' a c (N + 1 + l.length) → ShH H' p v → IsSh v → wi v l → Q (.ref p) H'
theorem sc73 : FnScope ["_law_pen", "_law_other", "_law_way", "_law_lengths", "_law_number"] ["_law_pen", "_law_other"] (defScope S73) := ⟨rfl, rfl, rfl, by decide +kernel, rfl, by decide +kernel, by decide +kernel⟩
theorem ok73 (T : Txt K mg f d) : FnOk P w K mg base CX0 2 (f 73) (d 73) ["_law_pen", "_law_other"] spInner := by
  refine T.d_law_inner.F.ok sc73 (fun vs H Q E h => ?_) (fun cdv A outer s H vs Q E hr h => ?_)
  · obtain ⟨a, b, c, l, N, rfl, _⟩ := h
    rfl
  obtain ⟨a, b, c, l, N, rfl, hp, hb, hl, hN, q⟩ := h
  refine ⟨_, pss_cons (ps_set (i := 2) sc73.nd rfl (Or.inl rfl) (dcall T.d_law_take (ok70 T) hr (pa_cons (pv 0) (pa_cons pe_int pa_nil))))
    (pss_cons (ps_set (i := 3) sc73.nd rfl (Or.inl rfl) (pe_lst pa_nil))
    (pss_cons (ps_for PassesOwn.never rfl (pi_tup (pv 1)) (pg_name (i := 4) sc73.nd rfl (Or.inl rfl))
      (pss_one (ps_app (pv 3) (dcall T.d_law_take (ok70 T) hr (pa_cons (pv 0) (pa_cons (pe_op op_add pe_int (pe_callB (cr_min rfl) (by rfl) T.b_min (by decide +kernel) (pa_cons (pe_op op_cat (pe_lst (pa_cons (pv 4) pa_nil)) (pe_slice sl_list (pv 3) (po_some (pe_un un_neg pe_int)) po_none)) pa_nil))) pa_nil))))))
    (pss_cons (ps_if (pt_cmpR op_eq (pv 2) pe_int (nomark _)) (pss_one (ps_set (i := 3) sc73.nd rfl (Or.inl rfl) (pe_lst pa_nil))) pss_nil)
    (pss_cons (ps_if (pt_cmpR op_eq (pv 2) pe_int (nomark _)) (pss_one (ps_set (i := 3) sc73.nd rfl (Or.inl rfl) (pe_callTy call_list_of (by rfl) T.b_list (by decide +kernel) (pa_cons (pv 1) pa_nil)))) pss_nil)
    (pss_one (ps_ret (dcall T.d_law_cut (ok71 T) hr (pa_cons (pv 3) pa_nil)))))))), ?_⟩
  have hl7 := hl.len
  refine ⟨_, rfl, a, c, 6, N, rfl, hp, by omega, by omega, by omega, fun way H1 hw1 s1 hp1 => ?_⟩
  have hb1 : ShH H1 b l := s1.tup hp hb
  refine ⟨(by show 0 ≤ sizeLine; decide), fun pl hpl => ?_⟩
  obtain ⟨ncp, npa⟩ := hp1.c_ne hpl
  refine ⟨_, rfl, b, rfl, ⟨_, SqT.of (same_new hpl _ _ _ hb1)⟩, ?_⟩
  refine for_it walk_tv (fun i σ H2 => ∃ L v4, σ = [some (.ref a), some (.ref b), some (vN way), some (.ref pl), v4] ∧ SameX a H1 H2 ∧ PenH H2 a c (N + 1 + i) ∧ H2 pl = some (.lst (tv L)) ∧ L.length = i ∧ Inn l L)
    ⟨[], none, rfl, SameX.of (same_new hpl _), hp1.same (same_new hpl _), upd_same, rfl, ⟨fun i => by rw [row_nil]; exact Nat.zero_le _, fun i => by rw [row_nil]; exact Nat.zero_le _, Nat.zero_le _⟩⟩
    (fun i σ H2 _ z => by obtain ⟨_, _, _, s2, _⟩ := z; exact s2.tup hp1 hb1) ?_ ?_
  · rintro i x σ H2 H2' hi ⟨L, v4, rfl, s2, p2, hL2, hLl, inn⟩ ⟨rfl, hx⟩
    obtain ⟨n, hn⟩ : ∃ n, l[i]? = some n := ⟨_, List.getElem?_eq_getElem hi⟩
    obtain rfl := hx n hn
    have hnr : n = row l i := by
      rw [List.getElem?_eq_getElem hi] at hn
      rw [row_get hi]
      exact (Option.some.inj hn).symm
    have hnw := hl.wide i
    refine ⟨_, rfl, .inl ⟨rfl, _, SqL.of hL2⟩, _, rfl, _, rfl, (by show 1 ≤ sizeLine; decide), fun p1 hp1' => ⟨_, rfl, _, rfl, -1, rfl, ?_⟩⟩
    have s3 := same_new hp1' (.lst [vN n])
    have g1 : upd H2' p1 (.lst [vN n]) p1 = some (.lst [vN n]) := upd_same
    generalize upd H2' p1 (.lst [vN n]) = H3 at s3 g1 ⊢
    unfold tNoPart
    refine ⟨pl, _, rfl, SqL.of (s3 _ _ hL2), fun p2a hp2a => ?_⟩
    rw [cut_last, hLl]
    have s4 := s3.trans (same_new hp2a (.lst (tv (L.drop (i - 1)))))
    have g1' := same_new hp2a (.lst (tv (L.drop (i - 1)))) _ _ g1
    have g2 : upd H3 p2a (.lst (tv (L.drop (i - 1)))) p2a = some (.lst (tv (L.drop (i - 1)))) := upd_same
    generalize upd H3 p2a (.lst (tv (L.drop (i - 1)))) = H4 at s4 g1' g2 ⊢
    refine ⟨p1, p2a, _, _, rfl, rfl, g1', g2, (by rw [tv_len, List.length_drop, hLl]; show 1 + (i - (i - 1)) ≤ sizeLine; exact small (by omega)), fun p3 hp3 => ?_⟩
    have s5 := s4.trans (same_new hp3 (.lst ([vN n] ++ tv (L.drop (i - 1)))))
    have g3 : upd H4 p3 (.lst ([vN n] ++ tv (L.drop (i - 1)))) p3 = some (.lst (tv (n :: L.drop (i - 1)))) := upd_same
    generalize upd H4 p3 (.lst ([vN n] ++ tv (L.drop (i - 1)))) = H5 at s5 g3 ⊢
    refine ⟨p3, (n :: L.drop (i - 1)).map fun n : Nat => (n : Int), rfl, SqL.of (by rw [g3, tv_int]), by simp, fun m hm hle => ?_⟩
    obtain ⟨mm, hmm, rfl⟩ := List.mem_map.mp hm
    have hm1 : mm ≤ n := by
      have := hle (n : Int) (List.mem_map.mpr ⟨n, List.mem_cons_self, rfl⟩)
      omega
    have hm2 : 0 < i → mm ≤ row L (i - 1) := fun h0 => by
      have := hle (row L (i - 1) : Int) (List.mem_map.mpr ⟨row L (i - 1), List.mem_cons_of_mem _ (by have := mem_last (l := L) (by omega); rwa [hLl] at this), rfl⟩)
      omega
    refine ⟨1, (mm : Int), rfl, rfl, a, c, mm + 1, N + 1 + i, ?_, p2.same s5, by omega, by omega, by omega, fun r H6 hr6 s6 p6 => ?_⟩
    · have : V.int (1 + (mm : Int)) = vN (mm + 1) := by
        show V.int _ = V.int ((mm + 1 : Nat) : Int)
        congr 1
        omega
      show [V.ref a, V.int (1 + (mm : Int))] = _
      rw [this]
    have hL6 := s6.lst (p2.same s5) (s5 _ _ hL2)
    refine ⟨pl, _, _, rfl, rfl, hL6, by rw [tv_len, hLl]; exact smallL (by omega), L ++ [r], some (vN n), rfl, ((s2.trans (SameX.of s5)).trans s6).put hpl, p6.put hL6 ncp, by rw [upd_same, tv_append]; rfl, by rw [List.length_append, hLl]; rfl, ?_⟩
    refine ⟨fun j => ?_, fun j => ?_, by rw [List.length_append, hLl]; exact hi⟩
    · rw [row_snoc, hLl]
      by_cases c1 : j < i
      · rw [if_pos c1]; exact inn.le j
      · rw [if_neg c1]
        by_cases c2 : j = i
        · subst c2; rw [if_pos rfl]; omega
        · rw [if_neg c2]; exact Nat.zero_le _
    · rw [row_snoc, row_snoc, hLl]
      by_cases c1 : j + 1 < i
      · rw [if_pos c1, if_pos (by omega)]; exact inn.dec j
      · rw [if_neg c1]
        by_cases c2 : j + 1 = i
        · rw [if_pos c2, if_pos (by omega)]
          have := hm2 (by omega)
          rw [show i - 1 = j by omega] at this
          omega
        · rw [if_neg c2]; exact Nat.zero_le _
  · rintro σ H2 ⟨L, v4, rfl, s2, p2, hL2, hLl, inn⟩
    have start : IInv H a b c l way (N + 1 + l.length) [some (.ref a), some (.ref b), some (vN way), some (.ref pl), v4] H2 := ⟨pl, L, v4, rfl, s1.trans s2, p2, hL2, inn⟩
    have hb2 := fun (σ : L2.St) (H' : Hp) (z : IInv H a b c l way (N + 1 + l.length) σ H') => show ShH H' b l by obtain ⟨_, _, _, _, z1, _⟩ := z; exact z1.tup hp hb
    dsimp only
    refine seq_cut (IInv H a b c l way (N + 1 + l.length)) (fun D' k => ?_) ?_
    · refine ⟨_, rfl, rfl, _, rfl, ite2 (fun _ => ?_) (fun _ => k _ _ start)⟩
      refine ⟨(by show 0 ≤ sizeLine; decide), fun p7 hp7 => k _ _ ⟨p7, [], v4, rfl, (s1.trans s2).trans (SameX.of (same_new hp7 _)), p2.same (same_new hp7 _), upd_same, ?_⟩⟩
      exact ⟨fun i => by rw [row_nil]; exact Nat.zero_le _, fun i => by rw [row_nil]; exact Nat.zero_le _, Nat.zero_le _⟩
    rintro σ H3 z
    have hb3 := hb2 σ H3 z
    obtain ⟨p, L3, w4, rfl, sX, pX, hp3, inn3⟩ := z
    refine seq_cut (IInv H a b c l way (N + 1 + l.length)) (fun D' k => ?_) ?_
    · refine ⟨_, rfl, rfl, _, rfl, ite2 (fun _ => ?_) (fun _ => k _ _ ⟨p, L3, w4, rfl, sX, pX, hp3, inn3⟩)⟩
      refine ⟨_, rfl, b, _, rfl, .inr (SqT.of hb3), fun p7 hp7 => k _ _ ⟨p7, l, w4, rfl, sX.trans (SameX.of (same_new hp7 _)), pX.same (same_new hp7 _), upd_same, ?_⟩⟩
      exact ⟨fun i => Nat.le_refl _, hl.sh.dec, Nat.le_refl _⟩
    rintro σ H4 ⟨p, L4, w4, rfl, sX, pX, hp4, inn4⟩
    have hL4 := inn4.len
    exact ⟨_, rfl, p, L4, rfl, hp4, by omega, fun p9 H9 s9 h9 => q p9 H9 _ (sX.trans (SameX.of s9)) (pX.same s9) h9 inn4.sh.1 inn4.sh.2⟩
/-! ### n! and hooks, as the law reckons them -/
def spFact : Sp := fun vs H Q _ => ∃ n : Nat, vs = [vN n] ∧ n ≤ 1000 ∧ Q (vN (fact n)) H
theorem sc74 : FnScope ["_law_many", "_law_found", "_law_k"] ["_law_many"] (defScope S74) := ⟨rfl, rfl, rfl, by decide +kernel, rfl, by decide +kernel, by decide +kernel⟩
theorem ok74 (T : Txt K mg f d) : FnOk P w K mg base CX0 1 (f 74) (d 74) ["_law_many"] spFact := by
  refine T.d_law_product.F.ok sc74 (fun vs H Q E h => ?_) (fun cdv A outer s H vs Q E hr h => ?_)
  · obtain ⟨n, rfl, _⟩ := h
    rfl
  obtain ⟨n, rfl, hn, q⟩ := h
  refine ⟨_, pss_cons (ps_set (i := 1) sc74.nd rfl (Or.inl rfl) pe_int) (pss_cons (ps_for PassesOwn.never rfl (pi_range1 (by rfl) T.b_range (pa_cons (pv 0) pa_nil)) (pg_name (i := 2) sc74.nd rfl (Or.inl rfl)) (pss_one (ps_set (i := 1) sc74.nd rfl (Or.inl rfl) (pe_op op_mul (pv 1) (pe_op op_add (pv 2) pe_int))))) (pss_one (ps_ret (pv 1)))), ?_⟩
  refine ⟨_, rfl, _, rfl, by omega, by omega, ?_⟩
  rw [Int.toNat_natCast]
  refine for_it walk_rv (fun i σ H2 => ∃ v2, σ = [some (vN n), some (vN (fact i)), v2] ∧ H2 = H) ⟨none, rfl, rfl⟩ (fun _ _ _ _ _ => trivial) ?_ ?_
  · rintro i x σ H2 H2' hi ⟨v2, rfl, rfl⟩ ⟨rfl, rfl⟩
    refine ⟨_, rfl, _, rfl, _, _, rfl, rfl, (fact i : Int), (i : Int) + 1, rfl, rfl, .inr ⟨by omega, by omega⟩, some (vN i), ?_, rfl⟩
    show [some (vN n), some (V.int ((fact i : Int) * ((i + 1 : Nat) : Int))), some (vN i)] = _
    rw [mul_v, fact, Nat.mul_comm]
  · rintro σ H2 ⟨v2, rfl, rfl⟩
    exact ⟨_, rfl, q⟩
def spHk : Sp := fun vs H Q _ => ∃ (a : Addr) (l : List Nat), vs = [.ref a] ∧ ShH H a l ∧ Bx 7 7 l ∧ ∀ H', Same H H' → Q (vN (Hk l)) H'
theorem sc75 : FnScope ["_law_share", "_law_found", "_law_r", "_law_wide", "_law_c", "_law_own"] ["_law_share"] (defScope S75) := ⟨rfl, rfl, rfl, by decide +kernel, rfl, by decide +kernel, by decide +kernel⟩
theorem ok75 (T : Txt K mg f d) : FnOk P w K mg base CX0 1 (f 75) (d 75) ["_law_share"] spHk := by
  refine T.d_law_hooks.F.ok sc75 (fun vs H Q E h => ?_) (fun cdv A outer s H vs Q E hr h => ?_)
  · obtain ⟨a, l, rfl, _⟩ := h
    rfl
  obtain ⟨a, l, rfl, ha, hl, q⟩ := h
  refine ⟨_, pss_cons (ps_set (i := 1) sc75.nd rfl (Or.inl rfl) pe_int) (pss_cons (ps_for PassesOwn.never rfl (pi_enumT (by rfl) T.b_enumerate (pa_cons (pv 0) pa_nil)) (pg_tup rfl (pgs_cons (pg_name (i := 2) sc75.nd rfl (Or.inl rfl)) (pgs_cons (pg_name (i := 3) sc75.nd rfl (Or.inl rfl)) pgs_nil)))
      (pss_one (ps_for PassesOwn.never rfl (pi_range1 (by rfl) T.b_range (pa_cons (pv 3) pa_nil)) (pg_name (i := 4) sc75.nd rfl (Or.inr rfl))
        (pss_one (ps_set (i := 1) sc75.nd rfl (Or.inl rfl) (pe_op op_mul (pv 1) (pe_op op_add (pe_op op_sub (pv 3) (pv 4)) (pe_callB call_len' (by rfl) T.b_len PySem.boot_len (pa_cons (pe_lc (own := [("_law_own", 5)]) (g := gName 5) rfl sc75.nd (pi_tup (pe_slice sl_tupA (pv 0) (po_some (pe_op op_add (pv 2) pe_int)) po_none)) (blkOk_by (N := ["_law_share", "_law_found", "_law_r", "_law_wide", "_law_c", "_law_own"]) (sc := defScope S75) (by decide +kernel))
          (fun _ _ _ _ _ => pg_name (i := 5) sc75.nd rfl (Or.inl rfl)) (fun _ _ _ _ _ => pts_one (pt_cmpR op_gt (pv 5) (pv 4) (nomark _))) (fun _ _ _ _ _ => pv 5)) pa_nil)))))))))
    (pss_one (ps_ret (pv 1)))), ?_⟩
  have hl7 := hl.len
  refine ⟨_, rfl, a, _, rfl, SqT.of ha, ?_⟩
  have w2 : Walk (IteT K a) l.length (fun H => SqT K H a (tv l)) (YPair (fun i => some (.int (i : Nat))) (fun i => (tv l)[i]?)) := by
    have := walk_enumT (K := K) (a := a) (xs := tv l)
    rwa [tv_len] at this
  refine for_it w2 (fun i σ H2 => ∃ v2 v3 v4 v5, σ = [some (.ref a), some (vN (prL (((hooksL l).take i).map prL))), v2, v3, v4, v5] ∧ Same H H2)
    ⟨none, none, none, none, rfl, Same.refl _⟩ (fun i σ H2 _ z => by obtain ⟨_, _, _, _, _, s2⟩ := z; exact SqT.of (s2 _ _ ha)) ?_ ?_
  · rintro i x σ H2 H2' hi ⟨v2, v3, v4, v5, rfl, s2⟩ ⟨tp, x1, x2, rfl, htp, rfl, hx1, hx2⟩
    cases hx1
    have hx2' : (tv l)[i]? = some x2 := hx2
    rw [tv_get hi] at hx2'
    obtain rfl := Option.some.inj hx2'
    have s3 := s2.trans (same_new htp (.tup [V.int (i : Nat), vN (row l i)]))
    have hwd := hl.wide i
    refine ⟨tp, _, rfl, SqT.of upd_same, rfl, _, _, rfl, _, _, rfl, rfl, ?_⟩
    generalize upd H2 tp (.tup [V.int (i : Nat), vN (row l i)]) = H3 at s3 ⊢
    refine ⟨_, rfl, _, rfl, by omega, by omega, ?_⟩
    rw [Int.toNat_natCast]
    refine for_it walk_rv (fun j σ H4 => ∃ v4 v5, σ = [some (.ref a), some (vN (prL (((hooksL l).take i).map prL) * prL ((List.range j).map (hook l i)))), some (.int (i : Nat)), some (vN (row l i)), v4, v5] ∧ Same H H4)
      ⟨v4, v5, by rw [List.range_zero, List.map_nil]; show _ = [some (V.ref a), some (vN (prL (((hooksL l).take i).map prL) * 1)), _, _, _, _]; rw [Nat.mul_one]; rfl, s3⟩ (fun _ _ _ _ _ => trivial) ?_ ?_
    · rintro j x σ H4 H4' hj ⟨w4, w5, rfl, s4⟩ ⟨rfl, rfl⟩
      refine ⟨_, rfl, _, rfl, _, rfl, _, _, rfl, rfl, _, rfl, _, rfl, _, _, rfl, rfl, (i : Int) + 1, rfl, ?_⟩
      unfold tNoPart
      refine sl_ok (s4 _ _ ha) fun p5 H5 s5 h5 => ?_
      have er : (i : Int) + 1 = ((i + 1 : Nat) : Int) := by omega
      rw [er, cut_from] at h5
      refine ⟨p5, rfl, ⟨_, SqT.of h5⟩, fun D hD => ?_⟩
      have hdl : (l.drop (i + 1)).length ≤ 7 := by rw [List.length_drop]; omega
      refine lc_vals (src := l.drop (i + 1)) walk_tv hD (fun n => decide (j < n)) vN (smallL (by omega)) (fun H' s' => s' _ _ h5) ?_ ?_
      · rintro t n hn H6 x H6' acc s6 hacc ⟨rfl, hx⟩ A B y1 y2
        obtain rfl := hx n hn
        refine ⟨rfl, _, rfl, _, rfl, _, _, rfl, rfl, _, rfl, ?_⟩
        by_cases c3 : j < n
        · rw [decide_eq_true (show (j : Int) < (n : Int) by omega)]
          exact iteT ⟨_, rfl, y1 (decide_eq_true c3) _ (Same.refl _)⟩
        · rw [decide_eq_false (show ¬ (j : Int) < (n : Int) by omega)]
          exact iteF (y2 (decide_eq_false c3) _ (Same.refl _))
      · intro H6 s6 hD6
        refine ⟨D, _, rfl, .inl (SqL.of hD6), _, _, rfl, rfl, ?_⟩
        have eh : (row l i : Int) - (j : Int) + (((((l.drop (i + 1)).filter fun n => decide (j < n)).map vN).length : Nat) : Int) = (hook l i j : Nat) := by
          rw [List.length_map]
          unfold hook GS.cnt
          omega
        have hhs := hook_small hl i j
        have e60 : (2 : Nat) ^ 4 = 16 := rfl
        refine ⟨_, _, rfl, rfl, .inr (by rw [eh]; omega), some (vN j), w5, ?_, (s4.trans s5).trans s6⟩
        show [some (V.ref a), some (V.int ((prL (((hooksL l).take i).map prL) * prL ((List.range j).map (hook l i)) : Nat) * ((row l i : Int) - (j : Int) + (((((l.drop (i + 1)).filter fun n => decide (j < n)).map vN).length : Nat) : Int)))), some (.int (i : Nat)), some (vN (row l i)), some (vN j), w5] = _
        rw [eh, mul_v, List.range_succ, List.map_append, List.map_cons, List.map_nil, prL_append, Nat.mul_assoc]
    · rintro σ H4 ⟨w4, w5, rfl, s4⟩
      have hg : (hooksL l)[i]? = some ((List.range (row l i)).map (hook l i)) := by
        unfold hooksL
        rw [List.getElem?_map, List.getElem?_range hi]
        rfl
      refine ⟨some (.int (i : Nat)), some (vN (row l i)), w4, w5, ?_, s4⟩
      rw [take_more hg, List.map_append, List.map_cons, List.map_nil, prL_append]
  · rintro σ H2 ⟨v2, v3, v4, v5, rfl, s2⟩
    have hhl : (hooksL l).length = l.length := by simp [hooksL]
    rw [← hhl, List.take_length, ← Hk_eq]
    exact ⟨_, rfl, q H2 s2⟩
end
end GW
namespace GW
open PySem PySem.Spec PyProof.Rows L2 GR GS
theorem sum_le_const {α : Type} (l : List α) (f : α → Nat) (b : Nat) (h : ∀ x ∈ l, f x ≤ b) : (l.map f).sum ≤ l.length * b := by
  induction l with
  | nil => simp
  | cons x l ih =>
    rw [List.map_cons, List.sum_cons, List.length_cons, Nat.succ_mul]
    have h1 := h x List.mem_cons_self
    have h2 := ih fun y hy => h y (List.mem_cons_of_mem _ hy)
    omega
/-- at most eight ways a step -/
theorem F_le : ∀ (n : Nat) {m l : List Nat}, Bx 7 7 m → Bx 7 7 l → l.sum = m.sum + n → F m l ≤ 8 ^ n
  | 0, m, l, hm, hl, e => by
    by_cases c : wi m l
    · rw [c.eq_of_sum hm.sh hl.sh (by omega), F_self]
      exact Nat.le_refl _
    · rw [F_not hm c]
      exact Nat.zero_le _
  | n + 1, m, l, hm, hl, e => by
    by_cases c : wi m l
    · rw [F_in hm hl c (fun z => by subst z; omega)]
      have h1 : ((inRows m).filter fun r => wiB (more m r) l).length ≤ 8 := by
        have := List.length_filter_le (fun r => wiB (more m r) l) (inRows m)
        have h2 : (inRows m).length ≤ min (m.length + 1) 20 := by
          unfold inRows
          refine Nat.le_trans (List.length_filter_le _ _) ?_
          rw [List.length_range]
          exact Nat.le_refl _
        have := hm.len
        omega
      refine Nat.le_trans (sum_le_const _ _ (8 ^ n) fun r hr => ?_) ?_
      · obtain ⟨r1, r2⟩ := List.mem_filter.mp hr
        have hs := more_sh hm.sh r1
        have hw := (wiB_iff hs).mp r2
        have := more_sum (mem_inRows.mp r1).1
        exact F_le n (hl.sub hs hw) hl (by omega)
      · rw [Nat.pow_succ, Nat.mul_comm (8 ^ n)]
        exact Nat.mul_le_mul_right _ h1
    · rw [F_not hm c]
      exact Nat.zero_le _
theorem F_small {m l : List Nat} (hm : Bx 7 7 m) (hl : Bx 7 7 l) (h : l.sum ≤ 20) : F m l < 2 ^ 61 := by
  by_cases c : wi m l
  · have h1 := c.sum_le
    have h2 := F_le (l.sum - m.sum) hm hl (by omega)
    have h3 : 8 ^ (l.sum - m.sum) ≤ 8 ^ 20 := Nat.pow_le_pow_right (by decide) (by omega)
    have h4 : 8 ^ 20 < 2 ^ 61 := by decide
    omega
  · rw [F_not hm c]
    exact Nat.pow_pos (by decide)
theorem p61 {x : Nat} (h : x < 2 ^ 61) : -(2 ^ 64) < (x : Int) ∧ (x : Int) < 2 ^ 64 := by
  have e : (2 : Nat) ^ 61 = 2305843009213693952 := rfl
  have e2 : (2 : Int) ^ 64 = 18446744073709551616 := rfl
  omega
theorem nil_bx : Bx 7 7 [] := mem_boxS.mpr ⟨⟨fun i => by rw [row_nil]; exact Nat.zero_le _, fun i hi => by simp at hi⟩, by simp, by rw [row_nil]; omega⟩
section
variable {P : Program} {w : World} {K : PySem.W.Frag} {mg : Str → Option Value} {base : Heap} {f : Nat → Addr} {d : Nat → FuncData}
/-! ### the last chain -/
def spLast : Sp := fun vs H Q _ => ∃ (a b : Addr) (m l : List Nat), vs = [.ref a, .ref b] ∧ ShH H a m ∧ ShH H b l ∧ Bx 7 7 m ∧ Bx 7 7 l ∧ wi m l ∧ ∀ H', Same H H' → Q (.bl true) H'
theorem sc78 : FnScope ["_law_one", "_law_other", "_law_many", "_law_rows", "_law_refused"] ["_law_one", "_law_other"] (defScope S78) := ⟨rfl, rfl, rfl, by decide +kernel, rfl, by decide +kernel, by decide +kernel⟩
theorem ok78 {C : Addr} (T : Txt K mg f d) (N : NoN K mg C) : FnOk P w K mg base CX0 8 (f 78) (d 78) ["_law_one", "_law_other"] spLast := by
  have GT : FnOk P w K mg base (L2.CX P w) 5 (f 49) (d 49) ["one", "other", "number"] (spAt C) := ok49 T N
  refine T.d_law_last_right.F.ok sc78 (fun vs H Q E h => ?_) (fun cdv A outer s H vs Q E hr h => ?_)
  · obtain ⟨a, b, m, l, rfl, _⟩ := h
    rfl
  obtain ⟨a, b, m, l, rfl, ha, hb, hm, hl, hw, q⟩ := h
  have hr1 : Room 5 _ := hr.mono (by decide)
  refine ⟨_, pss_cons (ps_set (i := 2) sc78.nd rfl (Or.inl rfl) (dcall T.chains_between (ok36 T) hr (pa_cons (pv 0) (pa_cons (pv 1) pa_nil))))
    (pss_cons (ps_set (i := 3) sc78.nd rfl (Or.inl rfl) (pe_callS GT hr1 rfl T.chain_at.g T.chain_at.F.kp T.chain_at.b (fun σ => passAt takes0 σ) (pa_cons (pv 0) (pa_cons (pv 1) (pa_cons (pe_op op_sub (pv 2) pe_int) pa_nil)))))
    (pss_cons (ps_if (PW.pt (pw_or (pt_cmpR op_isnot_bl (dcall T.is_chain (ok33 T) hr (pa_cons (pv 0) (pa_cons (pv 1) (pa_cons (pv 3) pa_nil)))) pe_bl (nomark _)) (pw_or1 (pt_cmpR op_ne (dcall T.place_of_chain (ok50 T) hr (pa_cons (pv 0) (pa_cons (pv 1) (pa_cons (pv 3) pa_nil)))) (pe_op op_sub (pv 2) pe_int) (nomark _))))) (pss_one (ps_ret pe_bl)) pss_nil)
    (pss_cons (ps_set (i := 4) sc78.nd rfl (Or.inl rfl) pe_bl)
    (pss_cons (ps_try_only (tb := fun W => tDrop (tCallS (spAt C) (WE W) (tCons (tVar 0) (tCons (tVar 1) (tCons (tVar 2) tNil))))) (ts := fun _ _ _ => tAsg (tC (.bl true)) (gName 4)) (Wout := fun _ _ _ _ => False) rfl rfl ⟨rfl, by decide, Or.inl N.gF⟩ takes0
      (fun W pn xe tk _ => pss_one (ps_expr (by exact (pe_callS GT hr1 rfl T.chain_at.g T.chain_at.F.kp T.chain_at.b (fun σ => passAt tk σ) (by exact (pa_cons (pv 0) (pa_cons (pv 1) (pa_cons (pv 2) pa_nil))))))))
      (fun _ _ _ _ _ _ _ => pss_one (ps_set (i := 4) sc78.nd rfl (Or.inl rfl) pe_bl)))
    (pss_one (ps_ret (pv 4))))))), ?_⟩
  have hF := F_pos' hm hl hw
  refine ⟨_, rfl, _, rfl, a, b, m, l, rfl, ha, hb, hm, hl, fun H1 s1 => ?_⟩
  refine ⟨_, rfl, _, rfl, _, rfl, _, _, rfl, rfl, a, b, m, l, F m l - 1, ?_, s1 _ _ ha, s1 _ _ hb, hm, hl, hw, fun _ p H2 rs hp s2 h2 ch pl => ?_, fun z => by omega⟩
  · have : V.int ((F m l : Int) - 1) = vN (F m l - 1) := sub_v (y := 1) (by omega)
    show [V.ref a, .ref b, V.int ((F m l : Int) - 1)] = _
    rw [this]
  have s02 := s1.trans s2
  refine ⟨_, rfl, _, rfl, _, rfl, a, b, p, m, l, rs, rfl, s02 _ _ ha, s02 _ _ hb, h2, hm, hl, ch, fun H3 s3 => ?_⟩
  refine ⟨true, true, rfl, rfl, _, rfl, ?_⟩
  have s03 := s02.trans s3
  refine iteF ⟨_, rfl, _, rfl, _, rfl, a, b, p, m, l, rs, rfl, s03 _ _ ha, s03 _ _ hb, s3 _ _ h2, hm, hl, ch, fun H4 s4 => ?_⟩
  refine ⟨_, rfl, _, _, rfl, rfl, rfl, false, ?_, ?_⟩
  · show V.bl (!decide (vN (plc l m rs) = V.int ((F m l : Int) - 1))) = V.bl false
    have : V.int ((F m l : Int) - 1) = vN (F m l - 1) := sub_v (y := 1) (by omega)
    rw [this, pl, decide_eq_true rfl]
    rfl
  have s04 := s03.trans s4
  refine iteF ?_
  refine ⟨_, rfl, _, rfl, _, rfl, a, b, m, l, F m l, rfl, s04 _ _ ha, s04 _ _ hb, hm, hl, hw, fun z => by omega, fun _ H5 s5 => ?_⟩
  exact ⟨true, N.te, fun _ x hx => ⟨_, rfl, q H5 (s04.trans s5)⟩, fun z => Bool.noConfusion z⟩
end
end GW
namespace GW
open PySem PySem.Spec PyProof.Rows L2 GR GS
section
variable {P : Program} {w : World} {K : PySem.W.Frag} {mg : Str → Option Value} {base : Heap} {f : Nat → Addr} {d : Nat → FuncData}
/-! ### through all shares of so many cells -/
def spThrough : Sp := fun vs H Q _ => ∃ (a b : Addr) (m l : List Nat) (k : Nat), vs = [.ref a, .ref b, vN k] ∧ ShH H a m ∧ ShH H b l ∧ Bx 4 4 m ∧ Bx 4 4 l ∧ m.sum ≤ k ∧ k ≤ l.sum ∧ ∀ H', Same H H' → Q (.bl true) H'
theorem sc77 : FnScope ["_law_one", "_law_other", "_law_m", "_law_found", "_law_share"] ["_law_one", "_law_other", "_law_m"] (defScope S77) := ⟨rfl, rfl, rfl, by decide +kernel, rfl, by decide +kernel, by decide +kernel⟩
theorem sum4 {l : List Nat} (h : Bx 4 4 l) : l.sum ≤ 16 := by
  have key : ∀ l : List Nat, (∀ i, row l i ≤ 4) → l.sum ≤ 4 * l.length := by
    intro l
    induction l with
    | nil => intro _; simp
    | cons x l ih =>
      intro h
      have h0 := h 0
      have h1 := ih fun i => by have := h (i + 1); rwa [row_succ] at this
      rw [row_zero] at h0
      rw [List.sum_cons, List.length_cons]
      omega
  have := key l h.wide
  have := h.len
  omega
theorem ok77 (T : Txt K mg f d) : FnOk P w K mg base CX0 11 (f 77) (d 77) ["_law_one", "_law_other", "_law_m"] spThrough := by
  refine T.d_law_through_right.F.ok sc77 (fun vs H Q E h => ?_) (fun cdv A outer s H vs Q E hr h => ?_)
  · obtain ⟨a, b, m, l, k, rfl, _⟩ := h
    rfl
  obtain ⟨a, b, m, l, k, rfl, ha, hb, hm, hl, hk1, hk2, q⟩ := h
  refine ⟨_, pss_cons (ps_set (i := 3) sc77.nd rfl (Or.inl rfl) pe_int)
    (pss_cons (ps_for PassesOwn.never rfl (pi_list (dcall T.shares_of (ok54 T) hr (pa_cons (pe_tup (pa_cons pe_int (pa_cons pe_int pa_nil))) (pa_cons (pv 2) pa_nil)))) (pg_name (i := 4) sc77.nd rfl (Or.inl rfl))
      (pss_one (ps_set (i := 3) sc77.nd rfl (Or.inl rfl) (pe_op op_add (pv 3) (pe_op op_mul (dcall T.chains_between (ok36 T) hr (pa_cons (pv 0) (pa_cons (pv 4) pa_nil))) (dcall T.chains_between (ok36 T) hr (pa_cons (pv 4) (pa_cons (pv 1) pa_nil))))))))
    (pss_one (ps_ret (pe_cmpR op_eq (pv 3) (dcall T.chains_between (ok36 T) hr (pa_cons (pv 0) (pa_cons (pv 1) pa_nil))) (nomark _))))), ?_⟩
  have hm7 := hm.mono (show 4 ≤ 7 by decide) (show 4 ≤ 7 by decide)
  have hl7 := hl.mono (show 4 ≤ 7 by decide) (show 4 ≤ 7 by decide)
  refine ⟨(by show 2 ≤ sizeLine; decide), fun pb hpb => ⟨_, rfl, pb, 4, 4, k, rfl, upd_same, by decide, by decide, fun p H1 bs hp s1 h1 hbs => ⟨p, rfl, ⟨_, SqL.of h1⟩, ?_⟩⟩⟩
  have s01 := (same_new hpb (.tup [.int 4, .int 4])).trans s1
  have elen : (boxN 4 4 k).length = (bs.map V.ref).length := by rw [List.length_map]; exact plen hbs
  have wL : Walk (Itl K p) (boxN 4 4 k).length (fun H => SqL K H p (bs.map V.ref)) (YAt (bs.map V.ref)) := by
    rw [elen]
    exact walk_list
  refine for_it wL (fun i σ H2 => ∃ v4, σ = [some (.ref a), some (.ref b), some (vN k), some (vN (((boxN 4 4 k).take i).map fun v => F m v * F v l).sum), v4] ∧ Same H1 H2)
    ⟨none, rfl, Same.refl _⟩ (fun i σ H2 _ z => by obtain ⟨_, _, s2⟩ := z; exact SqL.of (s2 _ _ h1)) ?_ ?_
  · rintro i x σ H2 H2' hi ⟨v4, rfl, s2⟩ ⟨rfl, hx⟩
    obtain ⟨v, hv⟩ : ∃ v, (boxN 4 4 k)[i]? = some v := ⟨_, List.getElem?_eq_getElem hi⟩
    obtain ⟨c, hc, hcv⟩ := pget hbs hv
    rw [List.getElem?_map, hc] at hx
    obtain rfl := Option.some.inj hx
    have hvb : Bx 4 4 v := (List.mem_filter.mp (List.mem_of_getElem? hv)).1
    have hv7 := hvb.mono (show 4 ≤ 7 by decide) (show 4 ≤ 7 by decide)
    refine ⟨_, rfl, _, rfl, _, rfl, a, c, m, v, rfl, s2 _ _ (s01 _ _ ha), s2 _ _ hcv, hm7, hv7, fun H3 s3 => ?_⟩
    refine ⟨_, rfl, _, rfl, c, b, v, l, rfl, s3 _ _ (s2 _ _ hcv), s3 _ _ (s2 _ _ (s01 _ _ hb)), hv7, hl7, fun H4 s4 => ?_⟩
    have hsm := sum4 hl
    refine ⟨(F m v : Int), (F v l : Int), rfl, rfl, .inr (p61 (F_small hv7 hl7 (by omega))), _, _, rfl, rfl, some (.ref c), ?_, (s2.trans s3).trans s4⟩
    show [some (V.ref a), some (.ref b), some (vN k), some (V.int (((((boxN 4 4 k).take i).map fun v => F m v * F v l).sum : Nat) + (F m v : Int) * (F v l : Int))), some (.ref c)] = _
    rw [take_more hv, List.map_append, List.sum_append]
    simp only [List.map_cons, List.map_nil, List.sum_cons, List.sum_nil, Nat.add_zero]
    rw [← Int.natCast_mul, add_v]
  · rintro σ H2 ⟨v4, rfl, s2⟩
    rw [List.take_length]
    refine ⟨_, rfl, _, rfl, _, rfl, a, b, m, l, rfl, s2 _ _ (s01 _ _ ha), s2 _ _ (s01 _ _ hb), hm7, hl7, fun H3 s3 => ?_⟩
    have e : (((boxN 4 4 k).map fun v => F m v * F v l).sum) = F m l := F_through (by decide) (by decide) hm7 hl hk1 hk2
    rw [e]
    refine ⟨rfl, ?_⟩
    rw [decide_eq_true rfl]
    exact q H3 ((s01.trans s2).trans s3)
/-! ### the sum of squares -/
def spAll : Sp := fun vs H Q _ => ∃ n : Nat, vs = [vN n] ∧ n < 6 ∧ ∀ H', Same H H' → Q (.bl true) H'
theorem sc79 : FnScope ["_law_n", "_law_found", "_law_share"] ["_law_n"] (defScope S79) := ⟨rfl, rfl, rfl, by decide +kernel, rfl, by decide +kernel, by decide +kernel⟩
theorem ok79 (T : Txt K mg f d) : FnOk P w K mg base CX0 11 (f 79) (d 79) ["_law_n"] spAll := by
  refine T.d_law_all_right.F.ok sc79 (fun vs H Q E h => ?_) (fun cdv A outer s H vs Q E hr h => ?_)
  · obtain ⟨n, rfl, _⟩ := h
    rfl
  obtain ⟨n, rfl, hn, q⟩ := h
  refine ⟨_, pss_cons (ps_set (i := 1) sc79.nd rfl (Or.inl rfl) pe_int)
    (pss_cons (ps_for PassesOwn.never rfl (pi_list (dcall T.shares_of (ok54 T) hr (pa_cons (pe_tup (pa_cons (pv 0) (pa_cons (pv 0) pa_nil))) (pa_cons (pv 0) pa_nil)))) (pg_name (i := 2) sc79.nd rfl (Or.inl rfl))
      (pss_one (ps_set (i := 1) sc79.nd rfl (Or.inl rfl) (pe_op op_add (pv 1) (pe_op op_mul (dcall T.chains_to (ok63 T) hr (pa_cons (pv 2) pa_nil)) (dcall T.chains_between (ok36 T) hr (pa_cons (pe_tup pa_nil) (pa_cons (pv 2) pa_nil))))))))
    (pss_one (ps_ret (pe_cmpR op_eq (pv 1) (dcall T.d_law_product (ok74 T) hr (pa_cons (pv 0) pa_nil)) (nomark _))))), ?_⟩
  refine ⟨_, rfl, _, rfl, (by show 2 ≤ sizeLine; decide), fun pb hpb => ⟨_, rfl, pb, n, n, n, rfl, upd_same, by omega, by omega, fun p H1 bs hp s1 h1 hbs => ⟨p, rfl, ⟨_, SqL.of h1⟩, ?_⟩⟩⟩
  have s01 := (same_new hpb (.tup [vN n, vN n])).trans s1
  have elen : (boxN n n n).length = (bs.map V.ref).length := by rw [List.length_map]; exact plen hbs
  have wL : Walk (Itl K p) (boxN n n n).length (fun H => SqL K H p (bs.map V.ref)) (YAt (bs.map V.ref)) := by
    rw [elen]
    exact walk_list
  refine for_it wL (fun i σ H2 => ∃ v2, σ = [some (vN n), some (vN (((boxN n n n).take i).map fun v => hk v * F [] v).sum), v2] ∧ Same H1 H2)
    ⟨none, rfl, Same.refl _⟩ (fun i σ H2 _ z => by obtain ⟨_, _, s2⟩ := z; exact SqL.of (s2 _ _ h1)) ?_ ?_
  · rintro i x σ H2 H2' hi ⟨v2, rfl, s2⟩ ⟨rfl, hx⟩
    obtain ⟨v, hv⟩ : ∃ v, (boxN n n n)[i]? = some v := ⟨_, List.getElem?_eq_getElem hi⟩
    obtain ⟨c, hc, hcv⟩ := pget hbs hv
    rw [List.getElem?_map, hc] at hx
    obtain rfl := Option.some.inj hx
    obtain ⟨hvb, hvs⟩ := List.mem_filter.mp (List.mem_of_getElem? hv)
    have hvs' : v.sum = n := of_decide_eq_true hvs
    have hv7 : Bx 7 7 v := Bx.mono (l := v) hvb (by omega) (by omega)
    refine ⟨_, rfl, _, rfl, c, v, rfl, s2 _ _ hcv, hv7, fun H3 s3 => ?_⟩
    refine ⟨(by show 0 ≤ sizeLine; decide), fun p0 hp0 => ?_⟩
    have s4 := same_new hp0 (.tup [])
    refine ⟨_, rfl, p0, c, [], v, rfl, upd_same, s4 _ _ (s3 _ _ (s2 _ _ hcv)), nil_bx, hv7, fun H5 s5 => ?_⟩
    refine ⟨(hk v : Int), (F [] v : Int), rfl, rfl, .inr (p61 (F_small nil_bx hv7 (by omega))), _, _, rfl, rfl, some (.ref c), ?_, ((s2.trans s3).trans s4).trans s5⟩
    show [some (vN n), some (V.int (((((boxN n n n).take i).map fun v => hk v * F [] v).sum : Nat) + (hk v : Int) * (F [] v : Int))), some (.ref c)] = _
    rw [take_more hv, List.map_append, List.sum_append]
    simp only [List.map_cons, List.map_nil, List.sum_cons, List.sum_nil, Nat.add_zero]
    rw [← Int.natCast_mul, add_v]
  · rintro σ H2 ⟨v2, rfl, s2⟩
    rw [List.take_length]
    have e : (((boxN n n n).map fun v => hk v * F [] v).sum) = fact n := squares hn
    rw [e]
    refine ⟨_, rfl, _, rfl, n, rfl, by omega, rfl, ?_⟩
    rw [decide_eq_true rfl]
    exact q H2 (s01.trans s2)
/-! ### three roads -/
theorem fold_max : ∀ (ns : List Int) (x : Int), (∀ y ∈ ns, y ≤ x) → ns.foldl max x = x
  | [], _, _ => rfl
  | y :: ns, x, h => by
    rw [List.foldl_cons, Int.max_eq_left (h y List.mem_cons_self)]
    exact fold_max ns x fun z hz => h z (List.mem_cons_of_mem _ hz)
theorem sh_top {l : List Nat} (h : IsSh l) : ∃ (n : Int) (ns : List Int), tv l ++ [V.int 0] = (n :: ns).map V.int ∧ ns.foldl max n = (row l 0 : Int) := by
  cases l with
  | nil => exact ⟨0, [], rfl, rfl⟩
  | cons x t =>
    refine ⟨(x : Int), (t.map fun n : Nat => (n : Int)) ++ [0], ?_, ?_⟩
    · rw [List.map_cons, List.map_append, ← tv_int]
      rfl
    · rw [row_zero]
      refine fold_max _ _ fun y hy => ?_
      rcases List.mem_append.mp hy with hy | hy
      · obtain ⟨z, hz, rfl⟩ := List.mem_map.mp hy
        obtain ⟨i, hi, rfl⟩ := List.getElem_of_mem hz
        have := h.mono (Nat.zero_le (i + 1))
        rw [row_zero, row_succ, row_get hi] at this
        omega
      · rw [List.mem_singleton] at hy
        omega
theorem sum_tv (l : List Nat) : (l.map fun n : Nat => (n : Int)).sum = (l.sum : Int) := by
  have := sum_cast l fun n => n
  rw [List.map_id'] at this
  exact this.symm
def spRoads : Sp := fun vs H Q _ => ∃ (a b : Addr) (m l : List Nat), vs = [.ref a, .ref b] ∧ ShH H a m ∧ ShH H b l ∧ Bx 6 6 m ∧ Bx 6 6 l ∧ wi m l ∧ ∀ H', Same H H' → Q (.bl true) H'
theorem sc76 : FnScope ["_law_one", "_law_other", "_law_due", "_law_box", "_law_all_of"] ["_law_one", "_law_other"] (defScope S76) := ⟨rfl, rfl, rfl, by decide +kernel, rfl, by decide +kernel, by decide +kernel⟩
theorem ok76 (T : Txt K mg f d) : FnOk P w K mg base CX0 11 (f 76) (d 76) ["_law_one", "_law_other"] spRoads := by
  refine T.d_law_roads_right.F.ok sc76 (fun vs H Q E h => ?_) (fun cdv A outer s H vs Q E hr h => ?_)
  · obtain ⟨a, b, m, l, rfl, _⟩ := h
    rfl
  obtain ⟨a, b, m, l, rfl, ha, hb, hm, hl, hw, q⟩ := h
  refine ⟨_, pss_cons (ps_set (i := 2) sc76.nd rfl (Or.inl rfl) (dcall T.chains_between (ok36 T) hr (pa_cons (pv 0) (pa_cons (pv 1) pa_nil))))
    (pss_cons (ps_if (PW.pt (pw_or (pt_cmpR op_ne (dcall T.chains_by_square (ok45 T) hr (pa_cons (pv 0) (pa_cons (pv 1) pa_nil))) (pv 2) (nomark _)) (pw_or1 (pt_cmpR op_ne (dcall T.chains_between (ok36 T) hr (pa_cons (dcall T.turned_share (ok14 T) hr (pa_cons (pv 0) pa_nil)) (pa_cons (dcall T.turned_share (ok14 T) hr (pa_cons (pv 1) pa_nil)) pa_nil))) (pv 2) (nomark _))))) (pss_one (ps_ret pe_bl)) pss_nil)
    (pss_cons (ps_set (i := 3) sc76.nd rfl (Or.inl rfl) (pe_tup (pa_cons (pe_op op_add (pe_callB call_len' (by rfl) T.b_len PySem.boot_len (pa_cons (pv 1) pa_nil)) pe_int) (pa_cons (pe_callB (cr_maxT rfl (hu_of hr)) (by rfl) T.b_max (by decide +kernel) (pa_cons (pe_op op_catA (pv 1) (pe_tup (pa_cons pe_int pa_nil))) pa_nil)) pa_nil))))
    (pss_cons (ps_if (PW.pt (pw_and (pt_cmpR op_lt (pe_callB (cr_maxT rfl (hu_of hr)) (by rfl) T.b_max (by decide +kernel) (pa_cons (pv 3) pa_nil)) pe_int (nomark _)) (pw_and1 (pt_cmpR op_ne (dcall T.chains_between (ok36 T) hr (pa_cons (dcall T.other_share (ok21 T) hr (pa_cons (pv 3) (pa_cons (pv 1) pa_nil))) (pa_cons (dcall T.other_share (ok21 T) hr (pa_cons (pv 3) (pa_cons (pv 0) pa_nil))) pa_nil))) (pv 2) (nomark _))))) (pss_one (ps_ret pe_bl)) pss_nil)
    (pss_cons (ps_set (i := 4) sc76.nd rfl (Or.inl rfl) (pe_op op_fdivW (dcall T.d_law_product (ok74 T) hr (pa_cons (pe_callB (cr_sumT rfl) (by rfl) T.b_sum (by decide +kernel) (pa_cons (pv 1) pa_nil)) pa_nil)) (dcall T.d_law_hooks (ok75 T) hr (pa_cons (pv 1) pa_nil))))
    (pss_one (ps_ret (pe_cmpR (op_eqD hr.units) (pe_lst (pa_cons (dcall T.chains_between (ok36 T) hr (pa_cons (pe_tup pa_nil) (pa_cons (pv 1) pa_nil))) (pa_cons (dcall T.chains_by_square (ok45 T) hr (pa_cons (pe_tup pa_nil) (pa_cons (pv 1) pa_nil))) (pa_cons (dcall T.chains_to (ok63 T) hr (pa_cons (pv 1) pa_nil)) pa_nil)))) (pe_op op_rep (pe_lst (pa_cons (pv 4) pa_nil)) pe_int) (nomark _)))))))), ?_⟩
  have hm7 := hm.mono (show 6 ≤ 7 by decide) (show 6 ≤ 7 by decide)
  have hl7 := hl.mono (show 6 ≤ 7 by decide) (show 6 ≤ 7 by decide)
  have hml := hm.len
  have hll := hl.len
  have hmw := hm.wide 0
  have hlw := hl.wide 0
  have no : ∀ n : Nat, V.bl (!decide (vN n = vN n)) = V.bl false := fun n => by rw [decide_eq_true rfl]; rfl
  refine ⟨_, rfl, _, rfl, a, b, m, l, rfl, ha, hb, hm7, hl7, fun H1 s1 => ?_⟩
  refine ⟨_, rfl, _, rfl, a, b, m, l, rfl, s1 _ _ ha, s1 _ _ hb, hm7, hl7, fun H2 s2 => ⟨_, rfl, rfl, false, no _, iteF ?_⟩⟩
  have s02 := s1.trans s2
  refine ⟨_, rfl, a, m, rfl, s02 _ _ ha, by omega, by omega, fun p1 H3 s3 h3 => ⟨_, rfl, b, l, rfl, s3 _ _ (s02 _ _ hb), by omega, by omega, fun p2 H4 s4 h4 => ?_⟩⟩
  refine ⟨p1, p2, GS.T m, GS.T l, rfl, s4 _ _ h3, h4, T_box hm7, T_box hl7, fun H5 s5 => ⟨_, rfl, rfl, false, ?_, iteF ?_⟩⟩
  · rw [F_T hm7 hl7]
    exact no _
  have s05 := ((s02.trans s3).trans s4).trans s5
  obtain ⟨n0, ns0, en1, en2⟩ := sh_top hl.sh
  refine ⟨_, rfl, b, _, rfl, .inr (SqT.of (s05 _ _ hb)), _, _, rfl, rfl, _, rfl, (by show 1 ≤ sizeLine; decide), fun p6 hp6 => ?_⟩
  refine cat_ok (same_new hp6 _ _ _ (s05 _ _ hb)) upd_same (by rw [tv_len]; show l.length + 1 ≤ 10000; omega) fun p7 H7 s7 h7 => ?_
  have s07 := s05.trans ((same_new hp6 (.tup [V.int 0])).trans s7)
  refine ⟨p7, n0, ns0, rfl, SqT.of (by rw [h7, en1]), ?_⟩
  rw [en2, tv_len]
  refine ⟨(by show 2 ≤ sizeLine; decide), fun p8 hp8 => ?_⟩
  have s08 := s07.trans (same_new hp8 (.tup [V.int ((l.length : Int) + 1), V.int (row l 0 : Int)]))
  have hbx : BxH (upd H7 p8 (.tup [V.int ((l.length : Int) + 1), V.int (row l 0 : Int)])) p8 (l.length + 1) (row l 0) := upd_same
  have hbx2 : upd H7 p8 (.tup [V.int ((l.length : Int) + 1), V.int (row l 0 : Int)]) p8 = some (.tup [V.int ((l.length : Int) + 1), V.int (row l 0 : Int)]) := upd_same
  show tSeq _ _ _ [some (V.ref a), some (.ref b), some (vN (F m l)), some (.ref p8), none] (upd H7 p8 (.tup [V.int ((l.length : Int) + 1), V.int (row l 0 : Int)]))
  generalize upd H7 p8 (.tup [V.int ((l.length : Int) + 1), V.int (row l 0 : Int)]) = H8 at s08 hbx hbx2 ⊢
  have bxl : Bx (l.length + 1) (row l 0) l := mem_boxS.mpr ⟨hl.sh, by omega, Nat.le_refl _⟩
  have bxm : Bx (l.length + 1) (row l 0) m := mem_boxS.mpr ⟨hm.sh, by have := hw.len hm.sh; omega, hw 0⟩
  have cl7 : Bx 7 7 (Cm (l.length + 1) (row l 0) l) := (Cm_box (h := l.length + 1) (w := row l 0) hl.sh).mono (by omega) (by omega)
  have cm7 : Bx 7 7 (Cm (l.length + 1) (row l 0) m) := (Cm_box (h := l.length + 1) (w := row l 0) hm.sh).mono (by omega) (by omega)
  refine ⟨_, rfl, p8, (l.length : Int) + 1, [(row l 0 : Int)], rfl, SqT.of hbx2, _, _, rfl, rfl, true, ?_, iteT ?_⟩
  · show V.bl (decide (max ((l.length : Int) + 1) (row l 0 : Int) < 8)) = V.bl true
    rw [decide_eq_true (by omega)]
  refine ⟨_, rfl, _, rfl, p8, b, l.length + 1, row l 0, l, rfl, hbx, by omega, by omega, s08 _ _ hb, bxl, fun p9 H9 s9 h9 => ?_⟩
  refine ⟨_, rfl, _, rfl, p8, a, l.length + 1, row l 0, m, rfl, s9 _ _ hbx, by omega, by omega, s9 _ _ (s08 _ _ ha), bxm, fun p10 H10 s10 h10 => ?_⟩
  refine ⟨p9, p10, Cm (l.length + 1) (row l 0) l, Cm (l.length + 1) (row l 0) m, rfl, s10 _ _ h9, h10, cl7, cm7, fun H11 s11 => ⟨_, rfl, rfl, false, ?_, iteF ?_⟩⟩
  · rw [F_Cm (by omega) (by omega) bxm bxl]
    exact no _
  have s011 := ((s08.trans s9).trans s10).trans s11
  refine ⟨_, rfl, b, l.map fun n : Nat => (n : Int), rfl, SqT.of (by rw [← tv_int]; exact s011 _ _ hb), l.sum, ?_, by have := bx_sum hl7; omega, ?_⟩
  · show [V.int (l.map fun n : Nat => (n : Int)).sum] = [vN l.sum]
    rw [sum_tv]
    rfl
  have hp := Hk_pos l
  have hsm := Hk_small hl7
  refine ⟨_, rfl, b, l, rfl, s011 _ _ hb, hl7, fun H12 s12 => ⟨(fact l.sum : Int), (Hk l : Int), rfl, rfl, wide_div (b := 210) (by omega) (by rw [Int.natAbs_natCast]; exact hsm) (by decide) (by decide), ?_⟩⟩
  have eh : V.int ((fact l.sum : Int) / (Hk l : Int)) = vN (hk l) := by
    unfold hk
    show V.int _ = V.int _
    rw [Int.natCast_ediv]
  rw [show (fun i j : Int => V.int (i / j)) (fact l.sum : Int) (Hk l : Int) = vN (hk l) from eh]
  have s012 := s011.trans s12
  refine ⟨(by show 0 ≤ sizeLine; decide), fun p13 hp13 => ⟨_, rfl, p13, b, [], l, rfl, upd_same, same_new hp13 _ _ _ (s012 _ _ hb), nil_bx, hl7, fun H14 s14 => ?_⟩⟩
  have s014 := (s012.trans (same_new hp13 (.tup []))).trans s14
  refine ⟨(by show 0 ≤ sizeLine; decide), fun p15 hp15 => ⟨_, rfl, p15, b, [], l, rfl, upd_same, same_new hp15 _ _ _ (s014 _ _ hb), nil_bx, hl7, fun H16 s16 => ?_⟩⟩
  have s016 := (s014.trans (same_new hp15 (.tup []))).trans s16
  refine ⟨_, rfl, b, l, rfl, s016 _ _ hb, hl7, fun H17 s17 => ⟨(by show 3 ≤ sizeLine; decide), fun p18 hp18 => ?_⟩⟩
  have s017 := s016.trans s17
  rw [hook_law hl]
  have g18 : upd H17 p18 (.lst [vN (hk l), vN (hk l), vN (hk l)]) p18 = some (.lst (tv [hk l, hk l, hk l])) := upd_same
  have s018 := s017.trans (same_new hp18 (.lst [vN (hk l), vN (hk l), vN (hk l)]))
  generalize upd H17 p18 (.lst [vN (hk l), vN (hk l), vN (hk l)]) = H18 at s018 g18 ⊢
  refine ⟨_, rfl, (by show 1 ≤ sizeLine; decide), fun p19 hp19 => ⟨p19, 3, _, rfl, rfl, upd_same, by decide, by decide, (by show 1 * 3 ≤ sizeLine; decide), fun p20 hp20 => ?_⟩⟩
  have s020 := (same_new hp19 (.lst [vN (hk l)])).trans (same_new hp20 (.lst (List.replicate (3 : Int).toNat [vN (hk l)]).flatten))
  refine ⟨.list ([hk l, hk l, hk l].map fun n : Nat => PyData.int (n : Int)), .list ([hk l, hk l, hk l].map fun n : Nat => PyData.int (n : Int)), .lst (SqL.of (s020 _ _ g18)) (dp_ints _), .lst (SqL.of upd_same) (dp_ints [hk l, hk l, hk l]), shaped_cols _, shaped_cols _, ?_⟩
  have ee : PyData.eqv (.list ([hk l, hk l, hk l].map fun n : Nat => PyData.int (n : Int))) (.list ([hk l, hk l, hk l].map fun n : Nat => PyData.int (n : Int))) = true := by
    simp [PyData.eqv, PyData.eqvAll]
  rw [ee]
  exact q _ (s018.trans s020)
end
end GW
namespace GW
open PySem PySem.Spec PyProof.Rows L2 GR GS
def sidesL : List Nat := [3, 3, 4, 4, 4, 4, 5, 6]
theorem side_ok : ∀ r, r < 8 → 3 ≤ row sidesL r ∧ row sidesL r ≤ 6 := by decide
section
variable {P : Program} {w : World} {K : PySem.W.Frag} {mg : Str → Option Value} {base : Heap} {f : Nat → Addr} {d : Nat → FuncData}
def spLaw (K : PySem.W.Frag) : Sp := fun vs H Q _ => ∃ (a : Addr) (ns : List Int), vs = [.ref a] ∧ SqL K H a (ns.map V.int) ∧ ns.length ≤ 63 ∧ ∀ H', Q (.bl true) H'
theorem sc80 : FnScope ["_law_script", "_law_pen", "_law_side", "_law_other", "_law_one", "_law_m", "_law_k"] ["_law_script"] (defScope S80) := ⟨rfl, rfl, rfl, by decide +kernel, rfl, by decide +kernel, by decide +kernel⟩
theorem ok80 {C : Addr} (T : Txt K mg f d) (N : NoN K mg C) : FnOk P w K mg base CX0 12 (f 80) (d 80) ["_law_script"] (spLaw K) := by
  refine T.law.F.ok sc80 (fun vs H Q E h => ?_) (fun cdv A outer s H vs Q E hr h => ?_)
  · obtain ⟨a, ns, rfl, _⟩ := h
    rfl
  obtain ⟨a, ns, rfl, ha, h63, q⟩ := h
  refine ⟨_, pss_cons (ps_set (i := 1) sc80.nd rfl (Or.inl rfl) (dcall T.d_law_begun (ok69 T) hr (pa_cons (pv 0) pa_nil)))
    (pss_cons (ps_set (i := 2) sc80.nd rfl (Or.inl rfl) (pe_ix ix_list (pe_lst (pa_cons pe_int (pa_cons pe_int (pa_cons pe_int (pa_cons pe_int (pa_cons pe_int (pa_cons pe_int (pa_cons pe_int (pa_cons pe_int pa_nil))))))))) (dcall T.d_law_take (ok70 T) hr (pa_cons (pv 1) (pa_cons pe_int pa_nil))) (fun _ _ => rfl)))
    (pss_cons (ps_set (i := 3) sc80.nd rfl (Or.inl rfl) (dcall T.d_law_drawn (ok72 T) hr (pa_cons (pv 1) (pa_cons (pe_op op_add pe_int (dcall T.d_law_take (ok70 T) hr (pa_cons (pv 1) (pa_cons (pv 2) pa_nil)))) (pa_cons (pe_op op_add pe_int (dcall T.d_law_take (ok70 T) hr (pa_cons (pv 1) (pa_cons (pv 2) pa_nil)))) pa_nil)))))
    (pss_cons (ps_set (i := 4) sc80.nd rfl (Or.inl rfl) (dcall T.d_law_inner (ok73 T) hr (pa_cons (pv 1) (pa_cons (pv 3) pa_nil))))
    (pss_cons (ps_if (PW.pt (pw_or (pt_not (pt_val (dcall T.d_law_roads_right (ok76 T) hr (pa_cons (pv 4) (pa_cons (pv 3) pa_nil))))) (pw_or1 (pt_not (pt_val (dcall T.d_law_last_right (ok78 T N) hr (pa_cons (pv 4) (pa_cons (pv 3) pa_nil)))))))) (pss_one (ps_ret pe_bl)) pss_nil)
    (pss_cons (ps_set (i := 5) sc80.nd rfl (Or.inl rfl) (pe_op op_add (pe_callB (cr_sumT rfl) (by rfl) T.b_sum (by decide +kernel) (pa_cons (pv 4) pa_nil)) (dcall T.d_law_take (ok70 T) hr (pa_cons (pv 1) (pa_cons (pe_op op_sub (pe_op op_add pe_int (pe_callB (cr_sumT rfl) (by rfl) T.b_sum (by decide +kernel) (pa_cons (pv 3) pa_nil))) (pe_callB (cr_sumT rfl) (by rfl) T.b_sum (by decide +kernel) (pa_cons (pv 4) pa_nil))) pa_nil)))))
    (pss_cons (ps_if (PW.pt (pw_and (pt_cmpR op_lt (pv 2) pe_int (nomark _)) (pw_and1 (pt_not (pt_val (dcall T.d_law_through_right (ok77 T) hr (pa_cons (pv 4) (pa_cons (pv 3) (pa_cons (pv 5) pa_nil))))))))) (pss_one (ps_ret pe_bl)) pss_nil)
    (pss_cons (ps_set (i := 6) sc80.nd rfl (Or.inl rfl) (dcall T.d_law_take (ok70 T) hr (pa_cons (pv 1) (pa_cons pe_int pa_nil))))
    (pss_cons (ps_if (PW.pt (pw_and (pt_cmpR op_lt (pv 2) pe_int (nomark _)) (pw_and1 (pt_cmpR op_ne (dcall T.stacks_between (ok67 T) hr (pa_cons (pv 4) (pa_cons (pv 3) (pa_cons (pv 6) pa_nil)))) (dcall T.stacks_by_square (ok46 T) hr (pa_cons (pv 4) (pa_cons (pv 3) (pa_cons (pv 6) pa_nil)))) (nomark _))))) (pss_one (ps_ret pe_bl)) pss_nil)
    (pss_one (ps_ret (dcall T.d_law_all_right (ok79 T) hr (pa_cons (dcall T.d_law_take (ok70 T) hr (pa_cons (pv 1) (pa_cons pe_int pa_nil))) pa_nil)))))))))))), ?_⟩
  refine ⟨_, rfl, a, ns, rfl, ha, fun p c H1 s1 p1 => ?_⟩
  refine ⟨(by show 8 ≤ sizeLine; decide), fun pl hpl => ?_⟩
  have p2 := p1.same (same_new hpl (.lst (tv sidesL)))
  refine ⟨_, rfl, p, c, 8, 0, rfl, p2, by omega, by omega, by omega, fun r0 H3 hr0 s3 p3 => ?_⟩
  have hl3 : H3 pl = some (.lst (tv sidesL)) := s3.lst p2 upd_same
  obtain ⟨sd1, sd2⟩ := side_ok r0 hr0
  refine ⟨pl, _, _, _, rfl, rfl, SqL.of hl3, atI_nat (tv_get (show r0 < 8 from hr0)), ?_⟩
  generalize row sidesL r0 = side at sd1 sd2 ⊢
  have one : ∀ n : Nat, V.int (1 + (n : Int)) = vN (n + 1) := fun n => by
    show V.int _ = V.int ((n + 1 : Nat) : Int)
    congr 1
    omega
  refine ⟨_, rfl, _, rfl, _, rfl, p, c, side, 1, rfl, p3, by omega, by omega, by omega, fun r1 H4 hr1 s4 p4 => ?_⟩
  refine ⟨_, _, rfl, rfl, _, rfl, _, rfl, p, c, side, 2, rfl, p4, by omega, by omega, by omega, fun r2 H5 hr2 s5 p5 => ?_⟩
  refine ⟨_, _, rfl, rfl, p, c, r1 + 1, r2 + 1, 3, ?_, p5, by omega, by omega, by omega, fun b H6 l s6 p6 hb hbx => ?_⟩
  · show [V.ref p, V.int (1 + (r1 : Int)), V.int (1 + (r2 : Int))] = _
    rw [one, one]
  have hl6 : Bx 6 6 l := hbx.mono (by omega) (by omega)
  have hl7 : Bx 7 7 l := hbx.mono (by omega) (by omega)
  have hll := hl6.len
  refine ⟨_, rfl, _, rfl, p, b, c, l, 3 + 1 + (r1 + 1), rfl, p6, hb, hl7, by omega, fun e H7 m s7 p7 he hms hw => ?_⟩
  have hb7 : ShH H7 b l := s7.tup p6 hb
  have hm6 : Bx 6 6 m := hl6.sub hms hw
  have hm7 : Bx 7 7 m := hl7.sub hms hw
  refine ⟨_, rfl, _, rfl, e, b, m, l, rfl, he, hb7, hm6, hl6, hw, fun H8 s8 => ⟨true, rfl, iteF ?_⟩⟩
  refine ⟨_, rfl, _, rfl, e, b, m, l, rfl, s8 _ _ he, s8 _ _ hb7, hm7, hl7, hw, fun H9 s9 => ⟨true, rfl, iteF ?_⟩⟩
  have he9 := s9 _ _ (s8 _ _ he)
  have hb9 := s9 _ _ (s8 _ _ hb7)
  have p9 := (p7.same s8).same s9
  have hsum := hw.sum_le
  have hls := bx_sum hl7
  refine ⟨_, rfl, e, m.map fun n : Nat => (n : Int), rfl, SqT.of (by rw [← tv_int]; exact he9), ?_⟩
  refine ⟨_, rfl, _, rfl, b, l.map fun n : Nat => (n : Int), rfl, SqT.of (by rw [← tv_int]; exact hb9), _, _, rfl, rfl, _, rfl, e, m.map fun n : Nat => (n : Int), rfl, SqT.of (by rw [← tv_int]; exact he9), _, _, rfl, rfl, ?_⟩
  rw [sum_tv, sum_tv]
  refine ⟨p, c, 1 + l.sum - m.sum, 3 + 1 + (r1 + 1) + 1 + l.length, ?_, p9, by omega, by omega, by omega, fun r3 H10 hr3 s10 p10 => ?_⟩
  · show [V.ref p, V.int (1 + (l.sum : Int) - (m.sum : Int))] = [V.ref p, V.int ((1 + l.sum - m.sum : Nat) : Int)]
    rw [show (1 + (l.sum : Int) - (m.sum : Int)) = ((1 + l.sum - m.sum : Nat) : Int) by omega]
  have he10 : ShH H10 e m := s10.tup p9 he9
  have hb10 : ShH H10 b l := s10.tup p9 hb9
  refine ⟨_, _, rfl, rfl, ?_⟩
  rw [show (fun i j : Int => V.int (i + j)) (m.sum : Int) (r3 : Int) = vN (m.sum + r3) from add_v]
  refine g_name ?_
  dsimp only
  have four : side < 5 → Bx 4 4 m ∧ Bx 4 4 l := fun h5 => by
    have hl4 : Bx 4 4 l := hbx.mono (by omega) (by omega)
    exact ⟨hl4.sub hms hw, hl4⟩
  refine seq_cut (fun σ H' => σ = [some (.ref a), some (.ref p), some (vN side), some (.ref b), some (.ref e), some (vN (m.sum + r3)), none] ∧ PenH H' p c (3 + 1 + (r1 + 1) + 1 + l.length + 1) ∧ ShH H' e m ∧ ShH H' b l) (fun D' k => ?_) ?_
  · refine ⟨_, rfl, _, _, rfl, rfl, _, rfl, ?_⟩
    by_cases h5 : side < 5
    · rw [decide_eq_true (show (side : Int) < 5 by omega)]
      obtain ⟨hm4, hl4⟩ := four h5
      refine iteT ⟨_, rfl, _, rfl, _, rfl, e, b, m, l, m.sum + r3, rfl, he10, hb10, hm4, hl4, by omega, by omega, fun H11 s11 => ⟨true, rfl, iteF (k _ _ ⟨rfl, p10.same s11, s11 _ _ he10, s11 _ _ hb10⟩)⟩⟩
    · rw [decide_eq_false (show ¬ (side : Int) < 5 by omega)]
      exact iteF (iteF (k _ _ ⟨rfl, p10, he10, hb10⟩))
  rintro σ H11 ⟨rfl, p11, he11, hb11⟩
  refine ⟨_, rfl, p, c, 5, 3 + 1 + (r1 + 1) + 1 + l.length + 1, rfl, p11, by omega, by omega, by omega, fun r4 H12 hr4 s12 p12 => ?_⟩
  have he12 : ShH H12 e m := s12.tup p11 he11
  have hb12 : ShH H12 b l := s12.tup p11 hb11
  refine g_name ?_
  dsimp only
  refine seq_cut (fun σ H' => σ = [some (.ref a), some (.ref p), some (vN side), some (.ref b), some (.ref e), some (vN (m.sum + r3)), some (vN r4)] ∧ PenH H' p c (3 + 1 + (r1 + 1) + 1 + l.length + 1 + 1)) (fun D' k => ?_) ?_
  · refine ⟨_, rfl, _, _, rfl, rfl, _, rfl, ?_⟩
    by_cases h5 : side < 5
    · rw [decide_eq_true (show (side : Int) < 5 by omega)]
      refine iteT ⟨_, rfl, _, rfl, _, rfl, e, b, m, l, r4, rfl, he12, hb12, hm7, hl7, hw, by omega, fun H13 s13 => ?_⟩
      refine ⟨_, rfl, _, rfl, _, rfl, e, b, m, l, r4, rfl, s13 _ _ he12, s13 _ _ hb12, hm6, hl6, hw, by omega, fun H14 s14 => ⟨rfl, false, ?_, iteF (k _ _ ⟨rfl, (p12.same s13).same s14⟩)⟩⟩
      have es := stacks (N := l.length) hms r4 hl7 hw (Nat.le_refl _)
      rw [← es]
      show V.bl (!decide (vN (TK 7 7 m r4 l) = vN (TK 7 7 m r4 l))) = V.bl false
      rw [decide_eq_true rfl]
      rfl
    · rw [decide_eq_false (show ¬ (side : Int) < 5 by omega)]
      exact iteF (iteF (k _ _ ⟨rfl, p12⟩))
  rintro σ H13 ⟨rfl, p13⟩
  refine ⟨_, rfl, p, c, 6, 3 + 1 + (r1 + 1) + 1 + l.length + 1 + 1, rfl, p13, by omega, by omega, by omega, fun r5 H14 hr5 s14 p14 => ?_⟩
  exact ⟨r5, rfl, hr5, fun H15 s15 => q H15⟩
end
end GW
namespace GW
open PySem PySem.Spec PyProof.Rows L2 GR GS
theorem exm_self {K : PySem.W.Frag} {S : Addr} (h1 : PySem.W.subIn K (.ref S) (.type "BaseException") = some true) (h2 : PySem.W.isClsIn K S = true) (h3 : PySem.W.typeIn K (.ref S) = some (.type "type")) (h4 : PySem.W.subIn K (.ref S) (.ref S) = some true) :
    PySem.W.exmOne K (.ref S) (.ref S) = some true := by
  have e1 : (PySem.W.subIn K (.ref S) (.type "BaseException") == some true) = true := by rw [h1] <;> rfl
  have e2 : ((PySem.W.clsIn K S).isSome && PySem.W.typeIn K (.ref S) == some (.type "type")) = true := by
    have h2' : (PySem.W.clsIn K S).isSome = true := h2
    rw [h2', h3] <;> rfl
  show (if (PySem.W.subIn K (.ref S) (.type "BaseException") == some true) = true then (if ((PySem.W.clsIn K S).isSome && PySem.W.typeIn K (.ref S) == some (.type "type")) = true then PySem.W.subIn K (.ref S) (.ref S) else none) else none) = some true
  rw [if_pos e1, if_pos e2]
  exact h4
/-- a def of the text: what the top says of it -/
theorem at_mk {K : PySem.W.Frag} {h : Heap} {mg : Str → Option Value} {x : Str} {st : Stmt} {ps : List Str} {f : Addr} {fd : FuncData} (X : K.In h) (G : h.Ns mainGlobals mg) (a : PySem.W.nsIn K mainGlobals x = some (some (.ref f))) (F : Fun K x x st f fd)
    (hb : ∀ (kV doc pm : Value) (an : Option Addr) (cdv ct : Value) (us : List Value), us.length = ps.length → bindArgs (PySem.W.fnOf x x (defArgs st) (defBody st) (defScope st) .none kV doc pm an cdv ct) ⟨us, []⟩ = pure (ps.zip us)) : DefAt K mg x st ps f fd :=
  ⟨F, PySem.W.mg_of X G a, F.binds hb⟩
def pick {α : Type} (z : α) (l : List (Nat × α)) (i : Nat) : α := (l.lookup i).getD z
theorem all_mk {P : Program} {w : World} {K : PySem.W.Frag} {h : Heap} {mg : Str → Option Value} {fa C : Addr} {tM tS : Tok} (X : K.In h) (G : h.Ns mainGlobals mg) (hfa : mg "law" = some (.ref fa))
    {f11 f12 f13 f14 f16 f17 f18 f19 f20 f21 f23 f24 f25 f26 f27 f28 f30 f32 f33 f34 f35 f36 f39 f40 f41 f42 f44 f45 f46 f48 f49 f50 f52 f53 f54 f56 f57 f58 f59 f61 f62 f63 f65 f67 f69 f70 f71 f72 f73 f74 f75 f76 f77 f78 f79 f80 : Addr} {od11 an11 od12 an12 od13 an13 od14 an14 od16 an16 od17 an17 od18 an18 od19 an19 od20 an20 od21 an21 od23 an23 od24 an24 od25 an25 od26 an26 od27 an27 od28 an28 od30 an30 od32 an32 od33 an33 od34 an34 od35 an35 od36 an36 od39 an39 od40 an40 od41 an41 od42 an42 od44 an44 od45 an45 od46 an46 od48 an48 od49 an49 od50 an50 od52 an52 od53 an53 od54 an54 od56 an56 od57 an57 od58 an58 od59 an59 od61 an61 od62 an62 od63 an63 od65 an65 od67 an67 od69 an69 od70 an70 od71 an71 od72 an72 od73 an73 od74 an74 od75 an75 od76 an76 od77 an77 od78 an78 od79 an79 od80 an80 : Option Addr} {sl11 sl12 sl13 sl14 sl16 sl17 sl18 sl19 sl20 sl21 sl23 sl24 sl25 sl26 sl27 sl28 sl30 sl32 sl33 sl34 sl35 sl36 sl39 sl40 sl41 sl42 sl44 sl45 sl46 sl48 sl49 sl50 sl52 sl53 sl54 sl56 sl57 sl58 sl59 sl61 sl62 sl63 sl65 sl67 sl69 sl70 sl71 sl72 sl73 sl74 sl75 sl76 sl77 sl78 sl79 sl80 : Array (Option Value)}
    {oc11 kV11 dc11 pm11 cd11 ct11 oc12 kV12 dc12 pm12 cd12 ct12 oc13 kV13 dc13 pm13 cd13 ct13 oc14 kV14 dc14 pm14 cd14 ct14 oc16 kV16 dc16 pm16 cd16 ct16 oc17 kV17 dc17 pm17 cd17 ct17 oc18 kV18 dc18 pm18 cd18 ct18 oc19 kV19 dc19 pm19 cd19 ct19 oc20 kV20 dc20 pm20 cd20 ct20 oc21 kV21 dc21 pm21 cd21 ct21 oc23 kV23 dc23 pm23 cd23 ct23 oc24 kV24 dc24 pm24 cd24 ct24 oc25 kV25 dc25 pm25 cd25 ct25 oc26 kV26 dc26 pm26 cd26 ct26 oc27 kV27 dc27 pm27 cd27 ct27 oc28 kV28 dc28 pm28 cd28 ct28 oc30 kV30 dc30 pm30 cd30 ct30 oc32 kV32 dc32 pm32 cd32 ct32 oc33 kV33 dc33 pm33 cd33 ct33 oc34 kV34 dc34 pm34 cd34 ct34 oc35 kV35 dc35 pm35 cd35 ct35 oc36 kV36 dc36 pm36 cd36 ct36 oc39 kV39 dc39 pm39 cd39 ct39 oc40 kV40 dc40 pm40 cd40 ct40 oc41 kV41 dc41 pm41 cd41 ct41 oc42 kV42 dc42 pm42 cd42 ct42 oc44 kV44 dc44 pm44 cd44 ct44 oc45 kV45 dc45 pm45 cd45 ct45 oc46 kV46 dc46 pm46 cd46 ct46 oc48 kV48 dc48 pm48 cd48 ct48 oc49 kV49 dc49 pm49 cd49 ct49 oc50 kV50 dc50 pm50 cd50 ct50 oc52 kV52 dc52 pm52 cd52 ct52 oc53 kV53 dc53 pm53 cd53 ct53 oc54 kV54 dc54 pm54 cd54 ct54 oc56 kV56 dc56 pm56 cd56 ct56 oc57 kV57 dc57 pm57 cd57 ct57 oc58 kV58 dc58 pm58 cd58 ct58 oc59 kV59 dc59 pm59 cd59 ct59 oc61 kV61 dc61 pm61 cd61 ct61 oc62 kV62 dc62 pm62 cd62 ct62 oc63 kV63 dc63 pm63 cd63 ct63 oc65 kV65 dc65 pm65 cd65 ct65 oc67 kV67 dc67 pm67 cd67 ct67 oc69 kV69 dc69 pm69 cd69 ct69 oc70 kV70 dc70 pm70 cd70 ct70 oc71 kV71 dc71 pm71 cd71 ct71 oc72 kV72 dc72 pm72 cd72 ct72 oc73 kV73 dc73 pm73 cd73 ct73 oc74 kV74 dc74 pm74 cd74 ct74 oc75 kV75 dc75 pm75 cd75 ct75 oc76 kV76 dc76 pm76 cd76 ct76 oc77 kV77 dc77 pm77 cd77 ct77 oc78 kV78 dc78 pm78 cd78 ct78 oc79 kV79 dc79 pm79 cd79 ct79 oc80 kV80 dc80 pm80 cd80 ct80 : Value}
    (a11 : PySem.W.nsIn K mainGlobals "is_whole" = some (some (.ref f11))) (l11 : K.lookup f11 = some ⟨oc11, od11, .func (PySem.W.fnOf "is_whole" "is_whole" (defArgs S11) (defBody S11) (defScope S11) .none kV11 dc11 pm11 an11 cd11 ct11), sl11⟩) (c11 : PySem.W.codeIn K cd11 "is_whole" = true) (k11 : PySem.W.keepIn K (.ref f11) = true)
    (a12 : PySem.W.nsIn K mainGlobals "row_of" = some (some (.ref f12))) (l12 : K.lookup f12 = some ⟨oc12, od12, .func (PySem.W.fnOf "row_of" "row_of" (defArgs S12) (defBody S12) (defScope S12) .none kV12 dc12 pm12 an12 cd12 ct12), sl12⟩) (c12 : PySem.W.codeIn K cd12 "row_of" = true) (k12 : PySem.W.keepIn K (.ref f12) = true)
    (a13 : PySem.W.nsIn K mainGlobals "cells_in" = some (some (.ref f13))) (l13 : K.lookup f13 = some ⟨oc13, od13, .func (PySem.W.fnOf "cells_in" "cells_in" (defArgs S13) (defBody S13) (defScope S13) .none kV13 dc13 pm13 an13 cd13 ct13), sl13⟩) (c13 : PySem.W.codeIn K cd13 "cells_in" = true) (k13 : PySem.W.keepIn K (.ref f13) = true)
    (a14 : PySem.W.nsIn K mainGlobals "turned_share" = some (some (.ref f14))) (l14 : K.lookup f14 = some ⟨oc14, od14, .func (PySem.W.fnOf "turned_share" "turned_share" (defArgs S14) (defBody S14) (defScope S14) .none kV14 dc14 pm14 an14 cd14 ct14), sl14⟩) (c14 : PySem.W.codeIn K cd14 "turned_share" = true) (k14 : PySem.W.keepIn K (.ref f14) = true)
    (a16 : PySem.W.nsIn K mainGlobals "is_box" = some (some (.ref f16))) (l16 : K.lookup f16 = some ⟨oc16, od16, .func (PySem.W.fnOf "is_box" "is_box" (defArgs S16) (defBody S16) (defScope S16) .none kV16 dc16 pm16 an16 cd16 ct16), sl16⟩) (c16 : PySem.W.codeIn K cd16 "is_box" = true) (k16 : PySem.W.keepIn K (.ref f16) = true)
    (a17 : PySem.W.nsIn K mainGlobals "need_box" = some (some (.ref f17))) (l17 : K.lookup f17 = some ⟨oc17, od17, .func (PySem.W.fnOf "need_box" "need_box" (defArgs S17) (defBody S17) (defScope S17) .none kV17 dc17 pm17 an17 cd17 ct17), sl17⟩) (c17 : PySem.W.codeIn K cd17 "need_box" = true) (k17 : PySem.W.keepIn K (.ref f17) = true)
    (a18 : PySem.W.nsIn K mainGlobals "does_fit" = some (some (.ref f18))) (l18 : K.lookup f18 = some ⟨oc18, od18, .func (PySem.W.fnOf "does_fit" "does_fit" (defArgs S18) (defBody S18) (defScope S18) .none kV18 dc18 pm18 an18 cd18 ct18), sl18⟩) (c18 : PySem.W.codeIn K cd18 "does_fit" = true) (k18 : PySem.W.keepIn K (.ref f18) = true)
    (a19 : PySem.W.nsIn K mainGlobals "fits_in" = some (some (.ref f19))) (l19 : K.lookup f19 = some ⟨oc19, od19, .func (PySem.W.fnOf "fits_in" "fits_in" (defArgs S19) (defBody S19) (defScope S19) .none kV19 dc19 pm19 an19 cd19 ct19), sl19⟩) (c19 : PySem.W.codeIn K cd19 "fits_in" = true) (k19 : PySem.W.keepIn K (.ref f19) = true)
    (a20 : PySem.W.nsIn K mainGlobals "need_fit" = some (some (.ref f20))) (l20 : K.lookup f20 = some ⟨oc20, od20, .func (PySem.W.fnOf "need_fit" "need_fit" (defArgs S20) (defBody S20) (defScope S20) .none kV20 dc20 pm20 an20 cd20 ct20), sl20⟩) (c20 : PySem.W.codeIn K cd20 "need_fit" = true) (k20 : PySem.W.keepIn K (.ref f20) = true)
    (a21 : PySem.W.nsIn K mainGlobals "other_share" = some (some (.ref f21))) (l21 : K.lookup f21 = some ⟨oc21, od21, .func (PySem.W.fnOf "other_share" "other_share" (defArgs S21) (defBody S21) (defScope S21) .none kV21 dc21 pm21 an21 cd21 ct21), sl21⟩) (c21 : PySem.W.codeIn K cd21 "other_share" = true) (k21 : PySem.W.keepIn K (.ref f21) = true)
    (a23 : PySem.W.nsIn K mainGlobals "with_cell" = some (some (.ref f23))) (l23 : K.lookup f23 = some ⟨oc23, od23, .func (PySem.W.fnOf "with_cell" "with_cell" (defArgs S23) (defBody S23) (defScope S23) .none kV23 dc23 pm23 an23 cd23 ct23), sl23⟩) (c23 : PySem.W.codeIn K cd23 "with_cell" = true) (k23 : PySem.W.keepIn K (.ref f23) = true)
    (a24 : PySem.W.nsIn K mainGlobals "without_cell" = some (some (.ref f24))) (l24 : K.lookup f24 = some ⟨oc24, od24, .func (PySem.W.fnOf "without_cell" "without_cell" (defArgs S24) (defBody S24) (defScope S24) .none kV24 dc24 pm24 an24 cd24 ct24), sl24⟩) (c24 : PySem.W.codeIn K cd24 "without_cell" = true) (k24 : PySem.W.keepIn K (.ref f24) = true)
    (a25 : PySem.W.nsIn K mainGlobals "in_rows" = some (some (.ref f25))) (l25 : K.lookup f25 = some ⟨oc25, od25, .func (PySem.W.fnOf "in_rows" "in_rows" (defArgs S25) (defBody S25) (defScope S25) .none kV25 dc25 pm25 an25 cd25 ct25), sl25⟩) (c25 : PySem.W.codeIn K cd25 "in_rows" = true) (k25 : PySem.W.keepIn K (.ref f25) = true)
    (a26 : PySem.W.nsIn K mainGlobals "out_rows" = some (some (.ref f26))) (l26 : K.lookup f26 = some ⟨oc26, od26, .func (PySem.W.fnOf "out_rows" "out_rows" (defArgs S26) (defBody S26) (defScope S26) .none kV26 dc26 pm26 an26 cd26 ct26), sl26⟩) (c26 : PySem.W.codeIn K cd26 "out_rows" = true) (k26 : PySem.W.keepIn K (.ref f26) = true)
    (a27 : PySem.W.nsIn K mainGlobals "put_in" = some (some (.ref f27))) (l27 : K.lookup f27 = some ⟨oc27, od27, .func (PySem.W.fnOf "put_in" "put_in" (defArgs S27) (defBody S27) (defScope S27) .none kV27 dc27 pm27 an27 cd27 ct27), sl27⟩) (c27 : PySem.W.codeIn K cd27 "put_in" = true) (k27 : PySem.W.keepIn K (.ref f27) = true)
    (a28 : PySem.W.nsIn K mainGlobals "taken_out" = some (some (.ref f28))) (l28 : K.lookup f28 = some ⟨oc28, od28, .func (PySem.W.fnOf "taken_out" "taken_out" (defArgs S28) (defBody S28) (defScope S28) .none kV28 dc28 pm28 an28 cd28 ct28), sl28⟩) (c28 : PySem.W.codeIn K cd28 "taken_out" = true) (k28 : PySem.W.keepIn K (.ref f28) = true)
    (a30 : PySem.W.nsIn K mainGlobals "lies_within" = some (some (.ref f30))) (l30 : K.lookup f30 = some ⟨oc30, od30, .func (PySem.W.fnOf "lies_within" "lies_within" (defArgs S30) (defBody S30) (defScope S30) .none kV30 dc30 pm30 an30 cd30 ct30), sl30⟩) (c30 : PySem.W.codeIn K cd30 "lies_within" = true) (k30 : PySem.W.keepIn K (.ref f30) = true)
    (a32 : PySem.W.nsIn K mainGlobals "chain_shares" = some (some (.ref f32))) (l32 : K.lookup f32 = some ⟨oc32, od32, .func (PySem.W.fnOf "chain_shares" "chain_shares" (defArgs S32) (defBody S32) (defScope S32) .none kV32 dc32 pm32 an32 cd32 ct32), sl32⟩) (c32 : PySem.W.codeIn K cd32 "chain_shares" = true) (k32 : PySem.W.keepIn K (.ref f32) = true)
    (a33 : PySem.W.nsIn K mainGlobals "is_chain" = some (some (.ref f33))) (l33 : K.lookup f33 = some ⟨oc33, od33, .func (PySem.W.fnOf "is_chain" "is_chain" (defArgs S33) (defBody S33) (defScope S33) .none kV33 dc33 pm33 an33 cd33 ct33), sl33⟩) (c33 : PySem.W.codeIn K cd33 "is_chain" = true) (k33 : PySem.W.keepIn K (.ref f33) = true)
    (a34 : PySem.W.nsIn K mainGlobals "need_chain" = some (some (.ref f34))) (l34 : K.lookup f34 = some ⟨oc34, od34, .func (PySem.W.fnOf "need_chain" "need_chain" (defArgs S34) (defBody S34) (defScope S34) .none kV34 dc34 pm34 an34 cd34 ct34), sl34⟩) (c34 : PySem.W.codeIn K cd34 "need_chain" = true) (k34 : PySem.W.keepIn K (.ref f34) = true)
    (a35 : PySem.W.nsIn K mainGlobals "ways_on" = some (some (.ref f35))) (l35 : K.lookup f35 = some ⟨oc35, od35, .func (PySem.W.fnOf "ways_on" "ways_on" (defArgs S35) (defBody S35) (defScope S35) .none kV35 dc35 pm35 an35 cd35 ct35), sl35⟩) (c35 : PySem.W.codeIn K cd35 "ways_on" = true) (k35 : PySem.W.keepIn K (.ref f35) = true)
    (a36 : PySem.W.nsIn K mainGlobals "chains_between" = some (some (.ref f36))) (l36 : K.lookup f36 = some ⟨oc36, od36, .func (PySem.W.fnOf "chains_between" "chains_between" (defArgs S36) (defBody S36) (defScope S36) .none kV36 dc36 pm36 an36 cd36 ct36), sl36⟩) (c36 : PySem.W.codeIn K cd36 "chains_between" = true) (k36 : PySem.W.keepIn K (.ref f36) = true)
    (a39 : PySem.W.nsIn K mainGlobals "is_square" = some (some (.ref f39))) (l39 : K.lookup f39 = some ⟨oc39, od39, .func (PySem.W.fnOf "is_square" "is_square" (defArgs S39) (defBody S39) (defScope S39) .none kV39 dc39 pm39 an39 cd39 ct39), sl39⟩) (c39 : PySem.W.codeIn K cd39 "is_square" = true) (k39 : PySem.W.keepIn K (.ref f39) = true)
    (a40 : PySem.W.nsIn K mainGlobals "worth_of" = some (some (.ref f40))) (l40 : K.lookup f40 = some ⟨oc40, od40, .func (PySem.W.fnOf "worth_of" "worth_of" (defArgs S40) (defBody S40) (defScope S40) .none kV40 dc40 pm40 an40 cd40 ct40), sl40⟩) (c40 : PySem.W.codeIn K cd40 "worth_of" = true) (k40 : PySem.W.keepIn K (.ref f40) = true)
    (a41 : PySem.W.nsIn K mainGlobals "square_worth" = some (some (.ref f41))) (l41 : K.lookup f41 = some ⟨oc41, od41, .func (PySem.W.fnOf "square_worth" "square_worth" (defArgs S41) (defBody S41) (defScope S41) .none kV41 dc41 pm41 an41 cd41 ct41), sl41⟩) (c41 : PySem.W.codeIn K cd41 "square_worth" = true) (k41 : PySem.W.keepIn K (.ref f41) = true)
    (a42 : PySem.W.nsIn K mainGlobals "choices_of" = some (some (.ref f42))) (l42 : K.lookup f42 = some ⟨oc42, od42, .func (PySem.W.fnOf "choices_of" "choices_of" (defArgs S42) (defBody S42) (defScope S42) .none kV42 dc42 pm42 an42 cd42 ct42), sl42⟩) (c42 : PySem.W.codeIn K cd42 "choices_of" = true) (k42 : PySem.W.keepIn K (.ref f42) = true)
    (a44 : PySem.W.nsIn K mainGlobals "ways_by" = some (some (.ref f44))) (l44 : K.lookup f44 = some ⟨oc44, od44, .func (PySem.W.fnOf "ways_by" "ways_by" (defArgs S44) (defBody S44) (defScope S44) .none kV44 dc44 pm44 an44 cd44 ct44), sl44⟩) (c44 : PySem.W.codeIn K cd44 "ways_by" = true) (k44 : PySem.W.keepIn K (.ref f44) = true)
    (a45 : PySem.W.nsIn K mainGlobals "chains_by_square" = some (some (.ref f45))) (l45 : K.lookup f45 = some ⟨oc45, od45, .func (PySem.W.fnOf "chains_by_square" "chains_by_square" (defArgs S45) (defBody S45) (defScope S45) .none kV45 dc45 pm45 an45 cd45 ct45), sl45⟩) (c45 : PySem.W.codeIn K cd45 "chains_by_square" = true) (k45 : PySem.W.keepIn K (.ref f45) = true)
    (a46 : PySem.W.nsIn K mainGlobals "stacks_by_square" = some (some (.ref f46))) (l46 : K.lookup f46 = some ⟨oc46, od46, .func (PySem.W.fnOf "stacks_by_square" "stacks_by_square" (defArgs S46) (defBody S46) (defScope S46) .none kV46 dc46 pm46 an46 cd46 ct46), sl46⟩) (c46 : PySem.W.codeIn K cd46 "stacks_by_square" = true) (k46 : PySem.W.keepIn K (.ref f46) = true)
    (a48 : PySem.W.nsIn K mainGlobals "steps_on" = some (some (.ref f48))) (l48 : K.lookup f48 = some ⟨oc48, od48, .func (PySem.W.fnOf "steps_on" "steps_on" (defArgs S48) (defBody S48) (defScope S48) .none kV48 dc48 pm48 an48 cd48 ct48), sl48⟩) (c48 : PySem.W.codeIn K cd48 "steps_on" = true) (k48 : PySem.W.keepIn K (.ref f48) = true)
    (a49 : PySem.W.nsIn K mainGlobals "chain_at" = some (some (.ref f49))) (l49 : K.lookup f49 = some ⟨oc49, od49, .func (PySem.W.fnOf "chain_at" "chain_at" (defArgs S49) (defBody S49) (defScope S49) .none kV49 dc49 pm49 an49 cd49 ct49), sl49⟩) (c49 : PySem.W.codeIn K cd49 "chain_at" = true) (k49 : PySem.W.keepIn K (.ref f49) = true)
    (a50 : PySem.W.nsIn K mainGlobals "place_of_chain" = some (some (.ref f50))) (l50 : K.lookup f50 = some ⟨oc50, od50, .func (PySem.W.fnOf "place_of_chain" "place_of_chain" (defArgs S50) (defBody S50) (defScope S50) .none kV50 dc50 pm50 an50 cd50 ct50), sl50⟩) (c50 : PySem.W.codeIn K cd50 "place_of_chain" = true) (k50 : PySem.W.keepIn K (.ref f50) = true)
    (a52 : PySem.W.nsIn K mainGlobals "shares_up_to" = some (some (.ref f52))) (l52 : K.lookup f52 = some ⟨oc52, od52, .func (PySem.W.fnOf "shares_up_to" "shares_up_to" (defArgs S52) (defBody S52) (defScope S52) .none kV52 dc52 pm52 an52 cd52 ct52), sl52⟩) (c52 : PySem.W.codeIn K cd52 "shares_up_to" = true) (k52 : PySem.W.keepIn K (.ref f52) = true)
    (a53 : PySem.W.nsIn K mainGlobals "shares_in" = some (some (.ref f53))) (l53 : K.lookup f53 = some ⟨oc53, od53, .func (PySem.W.fnOf "shares_in" "shares_in" (defArgs S53) (defBody S53) (defScope S53) .none kV53 dc53 pm53 an53 cd53 ct53), sl53⟩) (c53 : PySem.W.codeIn K cd53 "shares_in" = true) (k53 : PySem.W.keepIn K (.ref f53) = true)
    (a54 : PySem.W.nsIn K mainGlobals "shares_of" = some (some (.ref f54))) (l54 : K.lookup f54 = some ⟨oc54, od54, .func (PySem.W.fnOf "shares_of" "shares_of" (defArgs S54) (defBody S54) (defScope S54) .none kV54 dc54 pm54 an54 cd54 ct54), sl54⟩) (c54 : PySem.W.codeIn K cd54 "shares_of" = true) (k54 : PySem.W.keepIn K (.ref f54) = true)
    (a56 : PySem.W.nsIn K mainGlobals "long_column" = some (some (.ref f56))) (l56 : K.lookup f56 = some ⟨oc56, od56, .func (PySem.W.fnOf "long_column" "long_column" (defArgs S56) (defBody S56) (defScope S56) .none kV56 dc56 pm56 an56 cd56 ct56), sl56⟩) (c56 : PySem.W.codeIn K cd56 "long_column" = true) (k56 : PySem.W.keepIn K (.ref f56) = true)
    (a57 : PySem.W.nsIn K mainGlobals "is_cell" = some (some (.ref f57))) (l57 : K.lookup f57 = some ⟨oc57, od57, .func (PySem.W.fnOf "is_cell" "is_cell" (defArgs S57) (defBody S57) (defScope S57) .none kV57 dc57 pm57 an57 cd57 ct57), sl57⟩) (c57 : PySem.W.codeIn K cd57 "is_cell" = true) (k57 : PySem.W.keepIn K (.ref f57) = true)
    (a58 : PySem.W.nsIn K mainGlobals "hook_of" = some (some (.ref f58))) (l58 : K.lookup f58 = some ⟨oc58, od58, .func (PySem.W.fnOf "hook_of" "hook_of" (defArgs S58) (defBody S58) (defScope S58) .none kV58 dc58 pm58 an58 cd58 ct58), sl58⟩) (c58 : PySem.W.codeIn K cd58 "hook_of" = true) (k58 : PySem.W.keepIn K (.ref f58) = true)
    (a59 : PySem.W.nsIn K mainGlobals "hooks_of" = some (some (.ref f59))) (l59 : K.lookup f59 = some ⟨oc59, od59, .func (PySem.W.fnOf "hooks_of" "hooks_of" (defArgs S59) (defBody S59) (defScope S59) .none kV59 dc59 pm59 an59 cd59 ct59), sl59⟩) (c59 : PySem.W.codeIn K cd59 "hooks_of" = true) (k59 : PySem.W.keepIn K (.ref f59) = true)
    (a61 : PySem.W.nsIn K mainGlobals "product_of" = some (some (.ref f61))) (l61 : K.lookup f61 = some ⟨oc61, od61, .func (PySem.W.fnOf "product_of" "product_of" (defArgs S61) (defBody S61) (defScope S61) .none kV61 dc61 pm61 an61 cd61 ct61), sl61⟩) (c61 : PySem.W.codeIn K cd61 "product_of" = true) (k61 : PySem.W.keepIn K (.ref f61) = true)
    (a62 : PySem.W.nsIn K mainGlobals "up_to" = some (some (.ref f62))) (l62 : K.lookup f62 = some ⟨oc62, od62, .func (PySem.W.fnOf "up_to" "up_to" (defArgs S62) (defBody S62) (defScope S62) .none kV62 dc62 pm62 an62 cd62 ct62), sl62⟩) (c62 : PySem.W.codeIn K cd62 "up_to" = true) (k62 : PySem.W.keepIn K (.ref f62) = true)
    (a63 : PySem.W.nsIn K mainGlobals "chains_to" = some (some (.ref f63))) (l63 : K.lookup f63 = some ⟨oc63, od63, .func (PySem.W.fnOf "chains_to" "chains_to" (defArgs S63) (defBody S63) (defScope S63) .none kV63 dc63 pm63 an63 cd63 ct63), sl63⟩) (c63 : PySem.W.codeIn K cd63 "chains_to" = true) (k63 : PySem.W.keepIn K (.ref f63) = true)
    (a65 : PySem.W.nsIn K mainGlobals "shares_between" = some (some (.ref f65))) (l65 : K.lookup f65 = some ⟨oc65, od65, .func (PySem.W.fnOf "shares_between" "shares_between" (defArgs S65) (defBody S65) (defScope S65) .none kV65 dc65 pm65 an65 cd65 ct65), sl65⟩) (c65 : PySem.W.codeIn K cd65 "shares_between" = true) (k65 : PySem.W.keepIn K (.ref f65) = true)
    (a67 : PySem.W.nsIn K mainGlobals "stacks_between" = some (some (.ref f67))) (l67 : K.lookup f67 = some ⟨oc67, od67, .func (PySem.W.fnOf "stacks_between" "stacks_between" (defArgs S67) (defBody S67) (defScope S67) .none kV67 dc67 pm67 an67 cd67 ct67), sl67⟩) (c67 : PySem.W.codeIn K cd67 "stacks_between" = true) (k67 : PySem.W.keepIn K (.ref f67) = true)
    (a69 : PySem.W.nsIn K mainGlobals "_law_begun" = some (some (.ref f69))) (l69 : K.lookup f69 = some ⟨oc69, od69, .func (PySem.W.fnOf "_law_begun" "_law_begun" (defArgs S69) (defBody S69) (defScope S69) .none kV69 dc69 pm69 an69 cd69 ct69), sl69⟩) (c69 : PySem.W.codeIn K cd69 "_law_begun" = true) (k69 : PySem.W.keepIn K (.ref f69) = true)
    (a70 : PySem.W.nsIn K mainGlobals "_law_take" = some (some (.ref f70))) (l70 : K.lookup f70 = some ⟨oc70, od70, .func (PySem.W.fnOf "_law_take" "_law_take" (defArgs S70) (defBody S70) (defScope S70) .none kV70 dc70 pm70 an70 cd70 ct70), sl70⟩) (c70 : PySem.W.codeIn K cd70 "_law_take" = true) (k70 : PySem.W.keepIn K (.ref f70) = true)
    (a71 : PySem.W.nsIn K mainGlobals "_law_cut" = some (some (.ref f71))) (l71 : K.lookup f71 = some ⟨oc71, od71, .func (PySem.W.fnOf "_law_cut" "_law_cut" (defArgs S71) (defBody S71) (defScope S71) .none kV71 dc71 pm71 an71 cd71 ct71), sl71⟩) (c71 : PySem.W.codeIn K cd71 "_law_cut" = true) (k71 : PySem.W.keepIn K (.ref f71) = true)
    (a72 : PySem.W.nsIn K mainGlobals "_law_drawn" = some (some (.ref f72))) (l72 : K.lookup f72 = some ⟨oc72, od72, .func (PySem.W.fnOf "_law_drawn" "_law_drawn" (defArgs S72) (defBody S72) (defScope S72) .none kV72 dc72 pm72 an72 cd72 ct72), sl72⟩) (c72 : PySem.W.codeIn K cd72 "_law_drawn" = true) (k72 : PySem.W.keepIn K (.ref f72) = true)
    (a73 : PySem.W.nsIn K mainGlobals "_law_inner" = some (some (.ref f73))) (l73 : K.lookup f73 = some ⟨oc73, od73, .func (PySem.W.fnOf "_law_inner" "_law_inner" (defArgs S73) (defBody S73) (defScope S73) .none kV73 dc73 pm73 an73 cd73 ct73), sl73⟩) (c73 : PySem.W.codeIn K cd73 "_law_inner" = true) (k73 : PySem.W.keepIn K (.ref f73) = true)
    (a74 : PySem.W.nsIn K mainGlobals "_law_product" = some (some (.ref f74))) (l74 : K.lookup f74 = some ⟨oc74, od74, .func (PySem.W.fnOf "_law_product" "_law_product" (defArgs S74) (defBody S74) (defScope S74) .none kV74 dc74 pm74 an74 cd74 ct74), sl74⟩) (c74 : PySem.W.codeIn K cd74 "_law_product" = true) (k74 : PySem.W.keepIn K (.ref f74) = true)
    (a75 : PySem.W.nsIn K mainGlobals "_law_hooks" = some (some (.ref f75))) (l75 : K.lookup f75 = some ⟨oc75, od75, .func (PySem.W.fnOf "_law_hooks" "_law_hooks" (defArgs S75) (defBody S75) (defScope S75) .none kV75 dc75 pm75 an75 cd75 ct75), sl75⟩) (c75 : PySem.W.codeIn K cd75 "_law_hooks" = true) (k75 : PySem.W.keepIn K (.ref f75) = true)
    (a76 : PySem.W.nsIn K mainGlobals "_law_roads_right" = some (some (.ref f76))) (l76 : K.lookup f76 = some ⟨oc76, od76, .func (PySem.W.fnOf "_law_roads_right" "_law_roads_right" (defArgs S76) (defBody S76) (defScope S76) .none kV76 dc76 pm76 an76 cd76 ct76), sl76⟩) (c76 : PySem.W.codeIn K cd76 "_law_roads_right" = true) (k76 : PySem.W.keepIn K (.ref f76) = true)
    (a77 : PySem.W.nsIn K mainGlobals "_law_through_right" = some (some (.ref f77))) (l77 : K.lookup f77 = some ⟨oc77, od77, .func (PySem.W.fnOf "_law_through_right" "_law_through_right" (defArgs S77) (defBody S77) (defScope S77) .none kV77 dc77 pm77 an77 cd77 ct77), sl77⟩) (c77 : PySem.W.codeIn K cd77 "_law_through_right" = true) (k77 : PySem.W.keepIn K (.ref f77) = true)
    (a78 : PySem.W.nsIn K mainGlobals "_law_last_right" = some (some (.ref f78))) (l78 : K.lookup f78 = some ⟨oc78, od78, .func (PySem.W.fnOf "_law_last_right" "_law_last_right" (defArgs S78) (defBody S78) (defScope S78) .none kV78 dc78 pm78 an78 cd78 ct78), sl78⟩) (c78 : PySem.W.codeIn K cd78 "_law_last_right" = true) (k78 : PySem.W.keepIn K (.ref f78) = true)
    (a79 : PySem.W.nsIn K mainGlobals "_law_all_right" = some (some (.ref f79))) (l79 : K.lookup f79 = some ⟨oc79, od79, .func (PySem.W.fnOf "_law_all_right" "_law_all_right" (defArgs S79) (defBody S79) (defScope S79) .none kV79 dc79 pm79 an79 cd79 ct79), sl79⟩) (c79 : PySem.W.codeIn K cd79 "_law_all_right" = true) (k79 : PySem.W.keepIn K (.ref f79) = true)
    (a80 : PySem.W.nsIn K mainGlobals "law" = some (some (.ref f80))) (l80 : K.lookup f80 = some ⟨oc80, od80, .func (PySem.W.fnOf "law" "law" (defArgs S80) (defBody S80) (defScope S80) .none kV80 dc80 pm80 an80 cd80 ct80), sl80⟩) (c80 : PySem.W.codeIn K cd80 "law" = true) (k80 : PySem.W.keepIn K (.ref f80) = true)
    (aM : PySem.W.nsIn K mainGlobals "MOST" = some (some (.int 20 tM))) (aS : PySem.W.nsIn K mainGlobals "SIDE" = some (some (.int 6 tS)))
    (z0 : PySem.W.nsIn K mainGlobals "len" = some none)
    (z1 : PySem.W.nsIn K mainGlobals "range" = some none)
    (z2 : PySem.W.nsIn K mainGlobals "list" = some none)
    (z3 : PySem.W.nsIn K mainGlobals "tuple" = some none)
    (z4 : PySem.W.nsIn K mainGlobals "all" = some none)
    (z5 : PySem.W.nsIn K mainGlobals "isinstance" = some none)
    (z6 : PySem.W.nsIn K mainGlobals "int" = some none)
    (z7 : PySem.W.nsIn K mainGlobals "bool" = some none)
    (z8 : PySem.W.nsIn K mainGlobals "sum" = some none)
    (z9 : PySem.W.nsIn K mainGlobals "min" = some none)
    (z10 : PySem.W.nsIn K mainGlobals "max" = some none)
    (z11 : PySem.W.nsIn K mainGlobals "enumerate" = some none)
    (z12 : PySem.W.nsIn K mainGlobals "dict" = some none)
    (z13 : PySem.W.nsIn K mainGlobals "sorted" = some none)
    (z14 : PySem.W.nsIn K mainGlobals "abs" = some none)
    (aC : PySem.W.nsIn K mainGlobals "NoNumber" = some (some (.ref C))) (xC : PySem.W.excIn K C [.type "ValueError", .type "Exception", .type "BaseException", .type "object"] "ValueError.__new__" = true) (kC : PySem.W.keepIn K (.ref C) = true) (bC : PySem.W.subIn K (.ref C) (.type "BaseException") = some true)
    (tC : PySem.W.typeIn K (.ref C) = some (.type "type")) (iC : PySem.W.isClsIn K C = true) (sC : PySem.W.subIn K (.ref C) (.ref C) = some true) :
    ∃ fd : FuncData, (∀ (s : Shared) (v : Value), BindsTo s fd ⟨[v], []⟩ [("_law_script", v)]) ∧ ∀ base : Heap, K.In base → base.Ns mainGlobals mg → FnOk P w K mg base CX0 12 fa fd ["_law_script"] (spLaw K) := by
  have e := hfa.symm.trans (PySem.W.mg_of X G a80)
  cases e
  have F11 := fun_mk (st := S11) l11 c11 k11
  have F12 := fun_mk (st := S12) l12 c12 k12
  have F13 := fun_mk (st := S13) l13 c13 k13
  have F14 := fun_mk (st := S14) l14 c14 k14
  have F16 := fun_mk (st := S16) l16 c16 k16
  have F17 := fun_mk (st := S17) l17 c17 k17
  have F18 := fun_mk (st := S18) l18 c18 k18
  have F19 := fun_mk (st := S19) l19 c19 k19
  have F20 := fun_mk (st := S20) l20 c20 k20
  have F21 := fun_mk (st := S21) l21 c21 k21
  have F23 := fun_mk (st := S23) l23 c23 k23
  have F24 := fun_mk (st := S24) l24 c24 k24
  have F25 := fun_mk (st := S25) l25 c25 k25
  have F26 := fun_mk (st := S26) l26 c26 k26
  have F27 := fun_mk (st := S27) l27 c27 k27
  have F28 := fun_mk (st := S28) l28 c28 k28
  have F30 := fun_mk (st := S30) l30 c30 k30
  have F32 := fun_mk (st := S32) l32 c32 k32
  have F33 := fun_mk (st := S33) l33 c33 k33
  have F34 := fun_mk (st := S34) l34 c34 k34
  have F35 := fun_mk (st := S35) l35 c35 k35
  have F36 := fun_mk (st := S36) l36 c36 k36
  have F39 := fun_mk (st := S39) l39 c39 k39
  have F40 := fun_mk (st := S40) l40 c40 k40
  have F41 := fun_mk (st := S41) l41 c41 k41
  have F42 := fun_mk (st := S42) l42 c42 k42
  have F44 := fun_mk (st := S44) l44 c44 k44
  have F45 := fun_mk (st := S45) l45 c45 k45
  have F46 := fun_mk (st := S46) l46 c46 k46
  have F48 := fun_mk (st := S48) l48 c48 k48
  have F49 := fun_mk (st := S49) l49 c49 k49
  have F50 := fun_mk (st := S50) l50 c50 k50
  have F52 := fun_mk (st := S52) l52 c52 k52
  have F53 := fun_mk (st := S53) l53 c53 k53
  have F54 := fun_mk (st := S54) l54 c54 k54
  have F56 := fun_mk (st := S56) l56 c56 k56
  have F57 := fun_mk (st := S57) l57 c57 k57
  have F58 := fun_mk (st := S58) l58 c58 k58
  have F59 := fun_mk (st := S59) l59 c59 k59
  have F61 := fun_mk (st := S61) l61 c61 k61
  have F62 := fun_mk (st := S62) l62 c62 k62
  have F63 := fun_mk (st := S63) l63 c63 k63
  have F65 := fun_mk (st := S65) l65 c65 k65
  have F67 := fun_mk (st := S67) l67 c67 k67
  have F69 := fun_mk (st := S69) l69 c69 k69
  have F70 := fun_mk (st := S70) l70 c70 k70
  have F71 := fun_mk (st := S71) l71 c71 k71
  have F72 := fun_mk (st := S72) l72 c72 k72
  have F73 := fun_mk (st := S73) l73 c73 k73
  have F74 := fun_mk (st := S74) l74 c74 k74
  have F75 := fun_mk (st := S75) l75 c75 k75
  have F76 := fun_mk (st := S76) l76 c76 k76
  have F77 := fun_mk (st := S77) l77 c77 k77
  have F78 := fun_mk (st := S78) l78 c78 k78
  have F79 := fun_mk (st := S79) l79 c79 k79
  have F80 := fun_mk (st := S80) l80 c80 k80
  have T : Txt K mg (pick 0 [(11, f11), (12, f12), (13, f13), (14, f14), (16, f16), (17, f17), (18, f18), (19, f19), (20, f20), (21, f21), (23, f23), (24, f24), (25, f25), (26, f26), (27, f27), (28, f28), (30, f30), (32, f32), (33, f33), (34, f34), (35, f35), (36, f36), (39, f39), (40, f40), (41, f41), (42, f42), (44, f44), (45, f45), (46, f46), (48, f48), (49, f49), (50, f50), (52, f52), (53, f53), (54, f54), (56, f56), (57, f57), (58, f58), (59, f59), (61, f61), (62, f62), (63, f63), (65, f65), (67, f67), (69, f69), (70, f70), (71, f71), (72, f72), (73, f73), (74, f74), (75, f75), (76, f76), (77, f77), (78, f78), (79, f79), (80, fa)]) (pick (PySem.W.fnOf "law" "law" (defArgs S80) (defBody S80) (defScope S80) .none kV80 dc80 pm80 an80 cd80 ct80) [(11, PySem.W.fnOf "is_whole" "is_whole" (defArgs S11) (defBody S11) (defScope S11) .none kV11 dc11 pm11 an11 cd11 ct11), (12, PySem.W.fnOf "row_of" "row_of" (defArgs S12) (defBody S12) (defScope S12) .none kV12 dc12 pm12 an12 cd12 ct12), (13, PySem.W.fnOf "cells_in" "cells_in" (defArgs S13) (defBody S13) (defScope S13) .none kV13 dc13 pm13 an13 cd13 ct13), (14, PySem.W.fnOf "turned_share" "turned_share" (defArgs S14) (defBody S14) (defScope S14) .none kV14 dc14 pm14 an14 cd14 ct14), (16, PySem.W.fnOf "is_box" "is_box" (defArgs S16) (defBody S16) (defScope S16) .none kV16 dc16 pm16 an16 cd16 ct16), (17, PySem.W.fnOf "need_box" "need_box" (defArgs S17) (defBody S17) (defScope S17) .none kV17 dc17 pm17 an17 cd17 ct17), (18, PySem.W.fnOf "does_fit" "does_fit" (defArgs S18) (defBody S18) (defScope S18) .none kV18 dc18 pm18 an18 cd18 ct18), (19, PySem.W.fnOf "fits_in" "fits_in" (defArgs S19) (defBody S19) (defScope S19) .none kV19 dc19 pm19 an19 cd19 ct19), (20, PySem.W.fnOf "need_fit" "need_fit" (defArgs S20) (defBody S20) (defScope S20) .none kV20 dc20 pm20 an20 cd20 ct20), (21, PySem.W.fnOf "other_share" "other_share" (defArgs S21) (defBody S21) (defScope S21) .none kV21 dc21 pm21 an21 cd21 ct21), (23, PySem.W.fnOf "with_cell" "with_cell" (defArgs S23) (defBody S23) (defScope S23) .none kV23 dc23 pm23 an23 cd23 ct23), (24, PySem.W.fnOf "without_cell" "without_cell" (defArgs S24) (defBody S24) (defScope S24) .none kV24 dc24 pm24 an24 cd24 ct24), (25, PySem.W.fnOf "in_rows" "in_rows" (defArgs S25) (defBody S25) (defScope S25) .none kV25 dc25 pm25 an25 cd25 ct25), (26, PySem.W.fnOf "out_rows" "out_rows" (defArgs S26) (defBody S26) (defScope S26) .none kV26 dc26 pm26 an26 cd26 ct26), (27, PySem.W.fnOf "put_in" "put_in" (defArgs S27) (defBody S27) (defScope S27) .none kV27 dc27 pm27 an27 cd27 ct27), (28, PySem.W.fnOf "taken_out" "taken_out" (defArgs S28) (defBody S28) (defScope S28) .none kV28 dc28 pm28 an28 cd28 ct28), (30, PySem.W.fnOf "lies_within" "lies_within" (defArgs S30) (defBody S30) (defScope S30) .none kV30 dc30 pm30 an30 cd30 ct30), (32, PySem.W.fnOf "chain_shares" "chain_shares" (defArgs S32) (defBody S32) (defScope S32) .none kV32 dc32 pm32 an32 cd32 ct32), (33, PySem.W.fnOf "is_chain" "is_chain" (defArgs S33) (defBody S33) (defScope S33) .none kV33 dc33 pm33 an33 cd33 ct33), (34, PySem.W.fnOf "need_chain" "need_chain" (defArgs S34) (defBody S34) (defScope S34) .none kV34 dc34 pm34 an34 cd34 ct34), (35, PySem.W.fnOf "ways_on" "ways_on" (defArgs S35) (defBody S35) (defScope S35) .none kV35 dc35 pm35 an35 cd35 ct35), (36, PySem.W.fnOf "chains_between" "chains_between" (defArgs S36) (defBody S36) (defScope S36) .none kV36 dc36 pm36 an36 cd36 ct36), (39, PySem.W.fnOf "is_square" "is_square" (defArgs S39) (defBody S39) (defScope S39) .none kV39 dc39 pm39 an39 cd39 ct39), (40, PySem.W.fnOf "worth_of" "worth_of" (defArgs S40) (defBody S40) (defScope S40) .none kV40 dc40 pm40 an40 cd40 ct40), (41, PySem.W.fnOf "square_worth" "square_worth" (defArgs S41) (defBody S41) (defScope S41) .none kV41 dc41 pm41 an41 cd41 ct41), (42, PySem.W.fnOf "choices_of" "choices_of" (defArgs S42) (defBody S42) (defScope S42) .none kV42 dc42 pm42 an42 cd42 ct42), (44, PySem.W.fnOf "ways_by" "ways_by" (defArgs S44) (defBody S44) (defScope S44) .none kV44 dc44 pm44 an44 cd44 ct44), (45, PySem.W.fnOf "chains_by_square" "chains_by_square" (defArgs S45) (defBody S45) (defScope S45) .none kV45 dc45 pm45 an45 cd45 ct45), (46, PySem.W.fnOf "stacks_by_square" "stacks_by_square" (defArgs S46) (defBody S46) (defScope S46) .none kV46 dc46 pm46 an46 cd46 ct46), (48, PySem.W.fnOf "steps_on" "steps_on" (defArgs S48) (defBody S48) (defScope S48) .none kV48 dc48 pm48 an48 cd48 ct48), (49, PySem.W.fnOf "chain_at" "chain_at" (defArgs S49) (defBody S49) (defScope S49) .none kV49 dc49 pm49 an49 cd49 ct49), (50, PySem.W.fnOf "place_of_chain" "place_of_chain" (defArgs S50) (defBody S50) (defScope S50) .none kV50 dc50 pm50 an50 cd50 ct50), (52, PySem.W.fnOf "shares_up_to" "shares_up_to" (defArgs S52) (defBody S52) (defScope S52) .none kV52 dc52 pm52 an52 cd52 ct52), (53, PySem.W.fnOf "shares_in" "shares_in" (defArgs S53) (defBody S53) (defScope S53) .none kV53 dc53 pm53 an53 cd53 ct53), (54, PySem.W.fnOf "shares_of" "shares_of" (defArgs S54) (defBody S54) (defScope S54) .none kV54 dc54 pm54 an54 cd54 ct54), (56, PySem.W.fnOf "long_column" "long_column" (defArgs S56) (defBody S56) (defScope S56) .none kV56 dc56 pm56 an56 cd56 ct56), (57, PySem.W.fnOf "is_cell" "is_cell" (defArgs S57) (defBody S57) (defScope S57) .none kV57 dc57 pm57 an57 cd57 ct57), (58, PySem.W.fnOf "hook_of" "hook_of" (defArgs S58) (defBody S58) (defScope S58) .none kV58 dc58 pm58 an58 cd58 ct58), (59, PySem.W.fnOf "hooks_of" "hooks_of" (defArgs S59) (defBody S59) (defScope S59) .none kV59 dc59 pm59 an59 cd59 ct59), (61, PySem.W.fnOf "product_of" "product_of" (defArgs S61) (defBody S61) (defScope S61) .none kV61 dc61 pm61 an61 cd61 ct61), (62, PySem.W.fnOf "up_to" "up_to" (defArgs S62) (defBody S62) (defScope S62) .none kV62 dc62 pm62 an62 cd62 ct62), (63, PySem.W.fnOf "chains_to" "chains_to" (defArgs S63) (defBody S63) (defScope S63) .none kV63 dc63 pm63 an63 cd63 ct63), (65, PySem.W.fnOf "shares_between" "shares_between" (defArgs S65) (defBody S65) (defScope S65) .none kV65 dc65 pm65 an65 cd65 ct65), (67, PySem.W.fnOf "stacks_between" "stacks_between" (defArgs S67) (defBody S67) (defScope S67) .none kV67 dc67 pm67 an67 cd67 ct67), (69, PySem.W.fnOf "_law_begun" "_law_begun" (defArgs S69) (defBody S69) (defScope S69) .none kV69 dc69 pm69 an69 cd69 ct69), (70, PySem.W.fnOf "_law_take" "_law_take" (defArgs S70) (defBody S70) (defScope S70) .none kV70 dc70 pm70 an70 cd70 ct70), (71, PySem.W.fnOf "_law_cut" "_law_cut" (defArgs S71) (defBody S71) (defScope S71) .none kV71 dc71 pm71 an71 cd71 ct71), (72, PySem.W.fnOf "_law_drawn" "_law_drawn" (defArgs S72) (defBody S72) (defScope S72) .none kV72 dc72 pm72 an72 cd72 ct72), (73, PySem.W.fnOf "_law_inner" "_law_inner" (defArgs S73) (defBody S73) (defScope S73) .none kV73 dc73 pm73 an73 cd73 ct73), (74, PySem.W.fnOf "_law_product" "_law_product" (defArgs S74) (defBody S74) (defScope S74) .none kV74 dc74 pm74 an74 cd74 ct74), (75, PySem.W.fnOf "_law_hooks" "_law_hooks" (defArgs S75) (defBody S75) (defScope S75) .none kV75 dc75 pm75 an75 cd75 ct75), (76, PySem.W.fnOf "_law_roads_right" "_law_roads_right" (defArgs S76) (defBody S76) (defScope S76) .none kV76 dc76 pm76 an76 cd76 ct76), (77, PySem.W.fnOf "_law_through_right" "_law_through_right" (defArgs S77) (defBody S77) (defScope S77) .none kV77 dc77 pm77 an77 cd77 ct77), (78, PySem.W.fnOf "_law_last_right" "_law_last_right" (defArgs S78) (defBody S78) (defScope S78) .none kV78 dc78 pm78 an78 cd78 ct78), (79, PySem.W.fnOf "_law_all_right" "_law_all_right" (defArgs S79) (defBody S79) (defScope S79) .none kV79 dc79 pm79 an79 cd79 ct79), (80, PySem.W.fnOf "law" "law" (defArgs S80) (defBody S80) (defScope S80) .none kV80 dc80 pm80 an80 cd80 ct80)]) :=
    {
      is_whole := at_mk (st := S11) X G a11 F11 fun _ _ _ _ _ _ us hl => match us, hl with | [_], _ => rfl
      row_of := at_mk (st := S12) X G a12 F12 fun _ _ _ _ _ _ us hl => match us, hl with | [_, _], _ => rfl
      cells_in := at_mk (st := S13) X G a13 F13 fun _ _ _ _ _ _ us hl => match us, hl with | [_], _ => rfl
      turned_share := at_mk (st := S14) X G a14 F14 fun _ _ _ _ _ _ us hl => match us, hl with | [_], _ => rfl
      is_box := at_mk (st := S16) X G a16 F16 fun _ _ _ _ _ _ us hl => match us, hl with | [_], _ => rfl
      need_box := at_mk (st := S17) X G a17 F17 fun _ _ _ _ _ _ us hl => match us, hl with | [_], _ => rfl
      does_fit := at_mk (st := S18) X G a18 F18 fun _ _ _ _ _ _ us hl => match us, hl with | [_, _], _ => rfl
      fits_in := at_mk (st := S19) X G a19 F19 fun _ _ _ _ _ _ us hl => match us, hl with | [_, _], _ => rfl
      need_fit := at_mk (st := S20) X G a20 F20 fun _ _ _ _ _ _ us hl => match us, hl with | [_, _], _ => rfl
      other_share := at_mk (st := S21) X G a21 F21 fun _ _ _ _ _ _ us hl => match us, hl with | [_, _], _ => rfl
      with_cell := at_mk (st := S23) X G a23 F23 fun _ _ _ _ _ _ us hl => match us, hl with | [_, _], _ => rfl
      without_cell := at_mk (st := S24) X G a24 F24 fun _ _ _ _ _ _ us hl => match us, hl with | [_, _], _ => rfl
      in_rows := at_mk (st := S25) X G a25 F25 fun _ _ _ _ _ _ us hl => match us, hl with | [_], _ => rfl
      out_rows := at_mk (st := S26) X G a26 F26 fun _ _ _ _ _ _ us hl => match us, hl with | [_], _ => rfl
      put_in := at_mk (st := S27) X G a27 F27 fun _ _ _ _ _ _ us hl => match us, hl with | [_, _], _ => rfl
      taken_out := at_mk (st := S28) X G a28 F28 fun _ _ _ _ _ _ us hl => match us, hl with | [_, _], _ => rfl
      lies_within := at_mk (st := S30) X G a30 F30 fun _ _ _ _ _ _ us hl => match us, hl with | [_, _], _ => rfl
      chain_shares := at_mk (st := S32) X G a32 F32 fun _ _ _ _ _ _ us hl => match us, hl with | [_, _], _ => rfl
      is_chain := at_mk (st := S33) X G a33 F33 fun _ _ _ _ _ _ us hl => match us, hl with | [_, _, _], _ => rfl
      need_chain := at_mk (st := S34) X G a34 F34 fun _ _ _ _ _ _ us hl => match us, hl with | [_, _, _], _ => rfl
      ways_on := at_mk (st := S35) X G a35 F35 fun _ _ _ _ _ _ us hl => match us, hl with | [_, _], _ => rfl
      chains_between := at_mk (st := S36) X G a36 F36 fun _ _ _ _ _ _ us hl => match us, hl with | [_, _], _ => rfl
      is_square := at_mk (st := S39) X G a39 F39 fun _ _ _ _ _ _ us hl => match us, hl with | [_], _ => rfl
      worth_of := at_mk (st := S40) X G a40 F40 fun _ _ _ _ _ _ us hl => match us, hl with | [_, _], _ => rfl
      square_worth := at_mk (st := S41) X G a41 F41 fun _ _ _ _ _ _ us hl => match us, hl with | [_], _ => rfl
      choices_of := at_mk (st := S42) X G a42 F42 fun _ _ _ _ _ _ us hl => match us, hl with | [_, _], _ => rfl
      ways_by := at_mk (st := S44) X G a44 F44 fun _ _ _ _ _ _ us hl => match us, hl with | [_, _, _], _ => rfl
      chains_by_square := at_mk (st := S45) X G a45 F45 fun _ _ _ _ _ _ us hl => match us, hl with | [_, _], _ => rfl
      stacks_by_square := at_mk (st := S46) X G a46 F46 fun _ _ _ _ _ _ us hl => match us, hl with | [_, _, _], _ => rfl
      steps_on := at_mk (st := S48) X G a48 F48 fun _ _ _ _ _ _ us hl => match us, hl with | [_, _], _ => rfl
      chain_at := at_mk (st := S49) X G a49 F49 fun _ _ _ _ _ _ us hl => match us, hl with | [_, _, _], _ => rfl
      place_of_chain := at_mk (st := S50) X G a50 F50 fun _ _ _ _ _ _ us hl => match us, hl with | [_, _, _], _ => rfl
      shares_up_to := at_mk (st := S52) X G a52 F52 fun _ _ _ _ _ _ us hl => match us, hl with | [_, _], _ => rfl
      shares_in := at_mk (st := S53) X G a53 F53 fun _ _ _ _ _ _ us hl => match us, hl with | [_], _ => rfl
      shares_of := at_mk (st := S54) X G a54 F54 fun _ _ _ _ _ _ us hl => match us, hl with | [_, _], _ => rfl
      long_column := at_mk (st := S56) X G a56 F56 fun _ _ _ _ _ _ us hl => match us, hl with | [_, _], _ => rfl
      is_cell := at_mk (st := S57) X G a57 F57 fun _ _ _ _ _ _ us hl => match us, hl with | [_, _], _ => rfl
      hook_of := at_mk (st := S58) X G a58 F58 fun _ _ _ _ _ _ us hl => match us, hl with | [_, _], _ => rfl
      hooks_of := at_mk (st := S59) X G a59 F59 fun _ _ _ _ _ _ us hl => match us, hl with | [_], _ => rfl
      product_of := at_mk (st := S61) X G a61 F61 fun _ _ _ _ _ _ us hl => match us, hl with | [_], _ => rfl
      up_to := at_mk (st := S62) X G a62 F62 fun _ _ _ _ _ _ us hl => match us, hl with | [_], _ => rfl
      chains_to := at_mk (st := S63) X G a63 F63 fun _ _ _ _ _ _ us hl => match us, hl with | [_], _ => rfl
      shares_between := at_mk (st := S65) X G a65 F65 fun _ _ _ _ _ _ us hl => match us, hl with | [_, _], _ => rfl
      stacks_between := at_mk (st := S67) X G a67 F67 fun _ _ _ _ _ _ us hl => match us, hl with | [_, _, _], _ => rfl
      d_law_begun := at_mk (st := S69) X G a69 F69 fun _ _ _ _ _ _ us hl => match us, hl with | [_], _ => rfl
      d_law_take := at_mk (st := S70) X G a70 F70 fun _ _ _ _ _ _ us hl => match us, hl with | [_, _], _ => rfl
      d_law_cut := at_mk (st := S71) X G a71 F71 fun _ _ _ _ _ _ us hl => match us, hl with | [_], _ => rfl
      d_law_drawn := at_mk (st := S72) X G a72 F72 fun _ _ _ _ _ _ us hl => match us, hl with | [_, _, _], _ => rfl
      d_law_inner := at_mk (st := S73) X G a73 F73 fun _ _ _ _ _ _ us hl => match us, hl with | [_, _], _ => rfl
      d_law_product := at_mk (st := S74) X G a74 F74 fun _ _ _ _ _ _ us hl => match us, hl with | [_], _ => rfl
      d_law_hooks := at_mk (st := S75) X G a75 F75 fun _ _ _ _ _ _ us hl => match us, hl with | [_], _ => rfl
      d_law_roads_right := at_mk (st := S76) X G a76 F76 fun _ _ _ _ _ _ us hl => match us, hl with | [_, _], _ => rfl
      d_law_through_right := at_mk (st := S77) X G a77 F77 fun _ _ _ _ _ _ us hl => match us, hl with | [_, _, _], _ => rfl
      d_law_last_right := at_mk (st := S78) X G a78 F78 fun _ _ _ _ _ _ us hl => match us, hl with | [_, _], _ => rfl
      d_law_all_right := at_mk (st := S79) X G a79 F79 fun _ _ _ _ _ _ us hl => match us, hl with | [_], _ => rfl
      law := at_mk (st := S80) X G a80 F80 fun _ _ _ _ _ _ us hl => match us, hl with | [_], _ => rfl
      most := ⟨_, PySem.W.mg_of X G aM⟩
      side := ⟨_, PySem.W.mg_of X G aS⟩
      b_len := PySem.W.mg_none_of X G z0
      b_range := PySem.W.mg_none_of X G z1
      b_list := PySem.W.mg_none_of X G z2
      b_tuple := PySem.W.mg_none_of X G z3
      b_all := PySem.W.mg_none_of X G z4
      b_isinstance := PySem.W.mg_none_of X G z5
      b_int := PySem.W.mg_none_of X G z6
      b_bool := PySem.W.mg_none_of X G z7
      b_sum := PySem.W.mg_none_of X G z8
      b_min := PySem.W.mg_none_of X G z9
      b_max := PySem.W.mg_none_of X G z10
      b_enumerate := PySem.W.mg_none_of X G z11
      b_dict := PySem.W.mg_none_of X G z12
      b_sorted := PySem.W.mg_none_of X G z13
      b_abs := PySem.W.mg_none_of X G z14
    }
  have N : NoN K mg C := ⟨PySem.W.mg_of X G aC, xC, kC, bC, tC, exm_self bC iC tC sC⟩
  exact ⟨PySem.W.fnOf "law" "law" (defArgs S80) (defBody S80) (defScope S80) .none kV80 dc80 pm80 an80 cd80 ct80, fun s v => .of_eq rfl, fun base _ _ => ok80 T N⟩
theorem walk {l : PySem.W.OpenLaw} {q : Program} {loose : List Str} {XP : (Str → Option Value) → Heap → Prop} {YP : World → Heap → Prop} {d : DefRec} {K : Params → PySem.W.Frag} (hn : l.most = some 63) (hdf : d.params.defaults = [])
    (hY : ∀ (w : World) (h : Heap), YP w h → (K w.params).In h)
    (F : ∀ (w : World) (mg : Str → Option Value) (fa : Addr) (h : Heap), (K w.params).In h → h.Ns mainGlobals mg → mg d.name = some (.ref fa) →
      ∃ fd : FuncData, (∀ (s : Shared) (u : Value), BindsTo s fd ⟨[u], []⟩ [("_law_script", u)]) ∧ ∀ base : Heap, (K w.params).In base → base.Ns mainGlobals mg → FnOk l.prog w (K w.params) mg base CX0 12 fa fd ["_law_script"] (spLaw (K w.params))) :
    PySem.W.WalkO q loose XP YP l.row.toRowW d [] (fun f vs => PySem.call f vs) :=
  L2.walk_of (n := 63) (k := 12) (x := "_law_script") (CX := fun _ => CX0) (sp := fun w => spLaw (K w.params)) hn (by decide) hdf ⟨rfl, by decide, by decide⟩ hY F (fun _ _ a ns hl _ hS => ⟨a, ns, rfl, hS, hl, fun _ => rfl⟩) fun _ _ _ _ _ z => z
end GW
open PySem PySem.W PyProof.Rows
set_option maxRecDepth 100000 in
set_option maxHeartbeats 0 in
theorem PySem.Challenge.cw_gridshares_k67_whole_three_roads_holds : PySem.Challenge.rw_gridshares_k67_whole_three_roads.Holds := by
  w_on; o_law; k_head; (case hw => w_witness2)
  k_fill
  refine GW.walk (l := PySem.Challenge.rw_gridshares_k67_whole_three_roads) rfl rfl (fun w h Y => PySem.W.kIn_of Y) ?F
  case F =>
    intro w mg fa h KX G hmg
    refine' GW.all_mk KX G hmg ?a11 ?l11 ?c11 ?k11 ?a12 ?l12 ?c12 ?k12 ?a13 ?l13 ?c13 ?k13 ?a14 ?l14 ?c14 ?k14 ?a16 ?l16 ?c16 ?k16 ?a17 ?l17 ?c17 ?k17 ?a18 ?l18 ?c18 ?k18 ?a19 ?l19 ?c19 ?k19 ?a20 ?l20 ?c20 ?k20 ?a21 ?l21 ?c21 ?k21 ?a23 ?l23 ?c23 ?k23 ?a24 ?l24 ?c24 ?k24 ?a25 ?l25 ?c25 ?k25 ?a26 ?l26 ?c26 ?k26 ?a27 ?l27 ?c27 ?k27 ?a28 ?l28 ?c28 ?k28 ?a30 ?l30 ?c30 ?k30 ?a32 ?l32 ?c32 ?k32 ?a33 ?l33 ?c33 ?k33 ?a34 ?l34 ?c34 ?k34 ?a35 ?l35 ?c35 ?k35 ?a36 ?l36 ?c36 ?k36 ?a39 ?l39 ?c39 ?k39 ?a40 ?l40 ?c40 ?k40 ?a41 ?l41 ?c41 ?k41 ?a42 ?l42 ?c42 ?k42 ?a44 ?l44 ?c44 ?k44 ?a45 ?l45 ?c45 ?k45 ?a46 ?l46 ?c46 ?k46 ?a48 ?l48 ?c48 ?k48 ?a49 ?l49 ?c49 ?k49 ?a50 ?l50 ?c50 ?k50 ?a52 ?l52 ?c52 ?k52 ?a53 ?l53 ?c53 ?k53 ?a54 ?l54 ?c54 ?k54 ?a56 ?l56 ?c56 ?k56 ?a57 ?l57 ?c57 ?k57 ?a58 ?l58 ?c58 ?k58 ?a59 ?l59 ?c59 ?k59 ?a61 ?l61 ?c61 ?k61 ?a62 ?l62 ?c62 ?k62 ?a63 ?l63 ?c63 ?k63 ?a65 ?l65 ?c65 ?k65 ?a67 ?l67 ?c67 ?k67 ?a69 ?l69 ?c69 ?k69 ?a70 ?l70 ?c70 ?k70 ?a71 ?l71 ?c71 ?k71 ?a72 ?l72 ?c72 ?k72 ?a73 ?l73 ?c73 ?k73 ?a74 ?l74 ?c74 ?k74 ?a75 ?l75 ?c75 ?k75 ?a76 ?l76 ?c76 ?k76 ?a77 ?l77 ?c77 ?k77 ?a78 ?l78 ?c78 ?k78 ?a79 ?l79 ?c79 ?k79 ?a80 ?l80 ?c80 ?k80 ?aM ?aS ?z0 ?z1 ?z2 ?z3 ?z4 ?z5 ?z6 ?z7 ?z8 ?z9 ?z10 ?z11 ?z12 ?z13 ?z14 ?aC ?xC ?kC ?bC ?tC ?iC ?sC
    (case a11 => k_is); (case l11 => k_is); (case c11 => k_is); (case k11 => k_is)
    (case a12 => k_is); (case l12 => k_is); (case c12 => k_is); (case k12 => k_is)
    (case a13 => k_is); (case l13 => k_is); (case c13 => k_is); (case k13 => k_is)
    (case a14 => k_is); (case l14 => k_is); (case c14 => k_is); (case k14 => k_is)
    (case a16 => k_is); (case l16 => k_is); (case c16 => k_is); (case k16 => k_is)
    (case a17 => k_is); (case l17 => k_is); (case c17 => k_is); (case k17 => k_is)
    (case a18 => k_is); (case l18 => k_is); (case c18 => k_is); (case k18 => k_is)
    (case a19 => k_is); (case l19 => k_is); (case c19 => k_is); (case k19 => k_is)
    (case a20 => k_is); (case l20 => k_is); (case c20 => k_is); (case k20 => k_is)
    (case a21 => k_is); (case l21 => k_is); (case c21 => k_is); (case k21 => k_is)
    (case a23 => k_is); (case l23 => k_is); (case c23 => k_is); (case k23 => k_is)
    (case a24 => k_is); (case l24 => k_is); (case c24 => k_is); (case k24 => k_is)
    (case a25 => k_is); (case l25 => k_is); (case c25 => k_is); (case k25 => k_is)
    (case a26 => k_is); (case l26 => k_is); (case c26 => k_is); (case k26 => k_is)
    (case a27 => k_is); (case l27 => k_is); (case c27 => k_is); (case k27 => k_is)
    (case a28 => k_is); (case l28 => k_is); (case c28 => k_is); (case k28 => k_is)
    (case a30 => k_is); (case l30 => k_is); (case c30 => k_is); (case k30 => k_is)
    (case a32 => k_is); (case l32 => k_is); (case c32 => k_is); (case k32 => k_is)
    (case a33 => k_is); (case l33 => k_is); (case c33 => k_is); (case k33 => k_is)
    (case a34 => k_is); (case l34 => k_is); (case c34 => k_is); (case k34 => k_is)
    (case a35 => k_is); (case l35 => k_is); (case c35 => k_is); (case k35 => k_is)
    (case a36 => k_is); (case l36 => k_is); (case c36 => k_is); (case k36 => k_is)
    (case a39 => k_is); (case l39 => k_is); (case c39 => k_is); (case k39 => k_is)
    (case a40 => k_is); (case l40 => k_is); (case c40 => k_is); (case k40 => k_is)
    (case a41 => k_is); (case l41 => k_is); (case c41 => k_is); (case k41 => k_is)
    (case a42 => k_is); (case l42 => k_is); (case c42 => k_is); (case k42 => k_is)
    (case a44 => k_is); (case l44 => k_is); (case c44 => k_is); (case k44 => k_is)
    (case a45 => k_is); (case l45 => k_is); (case c45 => k_is); (case k45 => k_is)
    (case a46 => k_is); (case l46 => k_is); (case c46 => k_is); (case k46 => k_is)
    (case a48 => k_is); (case l48 => k_is); (case c48 => k_is); (case k48 => k_is)
    (case a49 => k_is); (case l49 => k_is); (case c49 => k_is); (case k49 => k_is)
    (case a50 => k_is); (case l50 => k_is); (case c50 => k_is); (case k50 => k_is)
    (case a52 => k_is); (case l52 => k_is); (case c52 => k_is); (case k52 => k_is)
    (case a53 => k_is); (case l53 => k_is); (case c53 => k_is); (case k53 => k_is)
    (case a54 => k_is); (case l54 => k_is); (case c54 => k_is); (case k54 => k_is)
    (case a56 => k_is); (case l56 => k_is); (case c56 => k_is); (case k56 => k_is)
    (case a57 => k_is); (case l57 => k_is); (case c57 => k_is); (case k57 => k_is)
    (case a58 => k_is); (case l58 => k_is); (case c58 => k_is); (case k58 => k_is)
    (case a59 => k_is); (case l59 => k_is); (case c59 => k_is); (case k59 => k_is)
    (case a61 => k_is); (case l61 => k_is); (case c61 => k_is); (case k61 => k_is)
    (case a62 => k_is); (case l62 => k_is); (case c62 => k_is); (case k62 => k_is)
    (case a63 => k_is); (case l63 => k_is); (case c63 => k_is); (case k63 => k_is)
    (case a65 => k_is); (case l65 => k_is); (case c65 => k_is); (case k65 => k_is)
    (case a67 => k_is); (case l67 => k_is); (case c67 => k_is); (case k67 => k_is)
    (case a69 => k_is); (case l69 => k_is); (case c69 => k_is); (case k69 => k_is)
    (case a70 => k_is); (case l70 => k_is); (case c70 => k_is); (case k70 => k_is)
    (case a71 => k_is); (case l71 => k_is); (case c71 => k_is); (case k71 => k_is)
    (case a72 => k_is); (case l72 => k_is); (case c72 => k_is); (case k72 => k_is)
    (case a73 => k_is); (case l73 => k_is); (case c73 => k_is); (case k73 => k_is)
    (case a74 => k_is); (case l74 => k_is); (case c74 => k_is); (case k74 => k_is)
    (case a75 => k_is); (case l75 => k_is); (case c75 => k_is); (case k75 => k_is)
    (case a76 => k_is); (case l76 => k_is); (case c76 => k_is); (case k76 => k_is)
    (case a77 => k_is); (case l77 => k_is); (case c77 => k_is); (case k77 => k_is)
    (case a78 => k_is); (case l78 => k_is); (case c78 => k_is); (case k78 => k_is)
    (case a79 => k_is); (case l79 => k_is); (case c79 => k_is); (case k79 => k_is)
    (case a80 => k_is); (case l80 => k_is); (case c80 => k_is); (case k80 => k_is)
    (case aM => k_is); (case aS => k_is)
    (case z0 => k_is)
    (case z1 => k_is)
    (case z2 => k_is)
    (case z3 => k_is)
    (case z4 => k_is)
    (case z5 => k_is)
    (case z6 => k_is)
    (case z7 => k_is)
    (case z8 => k_is)
    (case z9 => k_is)
    (case z10 => k_is)
    (case z11 => k_is)
    (case z12 => k_is)
    (case z13 => k_is)
    (case z14 => k_is)
    (case aC => k_is); (case xC => k_exc); (case kC => k_is); (case bC => k_is); (case tC => k_is); (case iC => k_is); (case sC => first | rfl | k_is)
