import PyProof.Rows.All
import Wide.All
import OpenK.AllK
import Wide.FinOn
import HandS.ForMost
import HandS.Evl
import HandS.Conv
import HandS.IsInst
import HandS.CallLocal
import HandS.Style
import HandS.TupAny
import HandS.Walk
import KE.DataMinMax
import KE.GoesEnum
import PyProof.ReprRoads
import PySem.Challenge.RW_hiddenties_k18_whole_best_offsets_put_to
set_option Elab.async false
set_option linter.all false
set_option maxRecDepth 100000
set_option maxHeartbeats 4000000
namespace HT
abbrev Pat := List (List (Option Int))
def ent (P : Pat) (i j : Nat) : Option Int := (P.getD i []).getD j none
/-- a square pattern of n rows, orders from 0 to 9 -/
structure IsPat (P : Pat) (n : Nat) : Prop where
  pos : 0 < n
  le : n ≤ 4
  len : P.length = n
  row : ∀ r ∈ P, r.length = n
  ord : ∀ i j a, ent P i j = some a → 0 ≤ a ∧ a ≤ 9

/-! sums -/
def sm (n : Nat) (f : Nat → Int) : Int := ((List.range n).map f).sum
theorem sm_zero (f : Nat → Int) : sm 0 f = 0 := rfl
theorem sm_succ (n : Nat) (f : Nat → Int) : sm (n + 1) f = sm n f + f n := by
  unfold sm
  rw [List.range_succ, List.map_append, List.sum_append]
  simp
theorem sm_congr {n : Nat} {f g : Nat → Int} (h : ∀ i, i < n → f i = g i) : sm n f = sm n g := by
  induction n with
  | zero => rfl
  | succ n ih => rw [sm_succ, sm_succ, ih (fun i hi => h i (by omega)), h n (by omega)]
theorem sm_le {n : Nat} {f g : Nat → Int} (h : ∀ i, i < n → f i ≤ g i) : sm n f ≤ sm n g := by
  induction n with
  | zero => exact Int.le_refl _
  | succ n ih =>
    rw [sm_succ, sm_succ]
    have h1 := ih (fun i hi => h i (by omega))
    have h2 := h n (by omega)
    omega
theorem sm_add {n : Nat} {f g : Nat → Int} : sm n (fun i => f i + g i) = sm n f + sm n g := by
  induction n with
  | zero => rfl
  | succ n ih =>
    rw [sm_succ, sm_succ, sm_succ, ih]
    omega
theorem sm_sub {n : Nat} {f g : Nat → Int} : sm n (fun i => f i - g i) = sm n f - sm n g := by
  induction n with
  | zero => rfl
  | succ n ih =>
    rw [sm_succ, sm_succ, sm_succ, ih]
    omega
theorem sm_eq_of_le {n : Nat} {f g : Nat → Int} (h : ∀ i, i < n → f i ≤ g i) (e : sm n g ≤ sm n f) : ∀ i, i < n → f i = g i := by
  induction n with
  | zero => intro i hi; omega
  | succ n ih =>
    rw [sm_succ, sm_succ] at e
    have h1 : sm n f ≤ sm n g := sm_le fun i hi => h i (by omega)
    have h2 := h n (by omega)
    intro i hi
    by_cases q : i = n
    · subst q; omega
    · exact ih (fun i hi => h i (by omega)) (by omega) i (by omega)
theorem sm_lt {n : Nat} {f g : Nat → Int} (h : ∀ i, i < n → f i ≤ g i) (k : Nat) (hk : k < n) (hlt : f k < g k) : sm n f < sm n g := by
  have h1 := sm_le h
  by_cases e : sm n g ≤ sm n f
  · have := sm_eq_of_le h e k hk
    omega
  · omega
theorem sm_list : ∀ (xs : List Int), xs.sum = sm xs.length (fun i => xs.getD i 0) := by
  intro xs
  unfold sm
  congr 1
  apply List.ext_getElem
  · simp
  · intro i h1 h2
    simp at h2
    simp [List.getD, h2]
theorem map_sum_perm {l1 l2 : List Nat} (f : Nat → Int) (p : l1.Perm l2) : (l1.map f).sum = (l2.map f).sum := by
  induction p with
  | nil => rfl
  | cons x _ ih => simp [ih]
  | swap x y l => simp; omega
  | trans _ _ h1 h2 => rw [h1, h2]

/-! choices -/
/-- n unlike numbers below n -/
structure IsPerm (s : List Nat) (n : Nat) : Prop where
  len : s.length = n
  nd : s.Nodup
  lt : ∀ j ∈ s, j < n
theorem IsPerm.all {s : List Nat} {n : Nat} (h : IsPerm s n) : ∀ j, j < n → j ∈ s := by
  intro j hj
  by_cases q : j ∈ s
  · exact q
  · exfalso
    have h1 : s ⊆ (List.range n).erase j := fun x hx => by
      have hx1 := h.lt x hx
      have hxj : x ≠ j := fun e => q (e ▸ hx)
      rw [List.Nodup.mem_erase_iff List.nodup_range]
      exact ⟨hxj, List.mem_range.mpr hx1⟩
    have h2 := List.Nodup.length_le_of_subset h.nd h1
    rw [List.length_erase_of_mem (List.mem_range.mpr hj), List.length_range, h.len] at h2
    omega
theorem IsPerm.perm {s : List Nat} {n : Nat} (h : IsPerm s n) : s.Perm (List.range n) := by
  rw [List.perm_iff_count]
  intro a
  by_cases q : a < n
  · rw [List.Nodup.count h.nd, List.Nodup.count List.nodup_range, if_pos (h.all a q), if_pos (List.mem_range.mpr q)]
  · rw [List.Nodup.count h.nd, List.Nodup.count List.nodup_range, if_neg (fun m => q (h.lt a m)), if_neg (fun m => q (List.mem_range.mp m))]
def sel (s : List Nat) (i : Nat) : Nat := s.getD i 0
theorem IsPerm.sel_lt {s : List Nat} {n : Nat} (h : IsPerm s n) {i : Nat} (hi : i < n) : sel s i < n := by
  unfold sel
  have : i < s.length := by rw [h.len]; exact hi
  rw [List.getD_eq_getElem?_getD, List.getElem?_eq_getElem this]
  exact h.lt _ (List.getElem_mem _)
theorem IsPerm.sum {s : List Nat} {n : Nat} (h : IsPerm s n) (f : Nat → Int) : sm n (fun i => f (sel s i)) = sm n f := by
  rw [show sm n f = (s.map f).sum from (map_sum_perm f h.perm).symm]
  unfold sm
  congr 1
  apply List.ext_getElem
  · simp [h.len]
  · intro i h1 h2
    simp at h1 h2
    simp [sel, List.getD, h2]
theorem IsPerm.onto {s : List Nat} {n : Nat} (h : IsPerm s n) {j : Nat} (hj : j < n) : ∃ i, i < n ∧ sel s i = j := by
  obtain ⟨i, hi, e⟩ := List.getElem_of_mem (h.all j hj)
  refine ⟨i, by rw [← h.len]; exact hi, ?_⟩
  unfold sel
  rw [List.getD_eq_getElem?_getD, List.getElem?_eq_getElem hi]
  exact e
theorem IsPerm.inj {s : List Nat} {n : Nat} (h : IsPerm s n) {i k : Nat} (hi : i < n) (hk : k < n) (e : sel s i = sel s k) : i = k := by
  have h1 : i < s.length := by rw [h.len]; exact hi
  have h2 : k < s.length := by rw [h.len]; exact hk
  unfold sel at e
  rw [List.getD_eq_getElem?_getD, List.getElem?_eq_getElem h1, List.getD_eq_getElem?_getD, List.getElem?_eq_getElem h2] at e
  exact (List.getElem_inj h.nd).mp (by simpa using e)

structure IsCh (P : Pat) (n : Nat) (s : List Nat) : Prop where
  perm : IsPerm s n
  some_ : ∀ i, i < n → ∃ a, ent P i (sel s i) = some a
def wt (P : Pat) (n : Nat) (s : List Nat) : Int := sm n fun i => (ent P i (sel s i)).getD 0
/-- W is the heaviest weight -/
structure IsW (P : Pat) (n : Nat) (W : Int) : Prop where
  ex : ∃ s, IsCh P n s ∧ wt P n s = W
  le : ∀ s, IsCh P n s → wt P n s ≤ W
theorem IsW.uniq {P : Pat} {n : Nat} {W V : Int} (h : IsW P n W) (k : IsW P n V) : W = V := by
  obtain ⟨s, h1, h2⟩ := h.ex
  obtain ⟨t, k1, k2⟩ := k.ex
  have a := h.le t k1
  have b := k.le s h1
  omega

/-! offsets, as functions -/
def Feas (P : Pat) (n : Nat) (c d : Nat → Int) : Prop := ∀ i j a, i < n → j < n → ent P i j = some a → a ≤ d j - c i
theorem weak {P : Pat} {n : Nat} {c d : Nat → Int} {s : List Nat} (h : Feas P n c d) (k : IsCh P n s) : wt P n s ≤ sm n d - sm n c := by
  have e : sm n d - sm n c = sm n (fun i => d (sel s i) - c i) := by
    rw [sm_sub, k.perm.sum d]
  rw [e]
  refine sm_le fun i hi => ?_
  obtain ⟨a, ha⟩ := k.some_ i hi
  show (ent P i (sel s i)).getD 0 ≤ _
  rw [ha]
  exact h i (sel s i) a hi (k.perm.sel_lt hi) ha
theorem tight_of {P : Pat} {n : Nat} {c d : Nat → Int} {s : List Nat} (h : Feas P n c d) (k : IsCh P n s) (e : sm n d - sm n c = wt P n s) :
    ∀ i a, i < n → ent P i (sel s i) = some a → a = d (sel s i) - c i := by
  have e1 : sm n d - sm n c = sm n (fun i => d (sel s i) - c i) := by
    rw [sm_sub, k.perm.sum d]
  have hle : ∀ i, i < n → (fun i => (ent P i (sel s i)).getD 0) i ≤ (fun i => d (sel s i) - c i) i := fun i hi => by
    obtain ⟨a, ha⟩ := k.some_ i hi
    show (ent P i (sel s i)).getD 0 ≤ _
    rw [ha]
    exact h i (sel s i) a hi (k.perm.sel_lt hi) ha
  intro i a hi ha
  have := sm_eq_of_le hle (by rw [← e1, e]; exact Int.le_refl _) i hi
  simp only [ha, Option.getD_some] at this
  exact this
theorem isW_of {P : Pat} {n : Nat} {c d : Nat → Int} {s : List Nat} (h : Feas P n c d) (k : IsCh P n s) (t : ∀ i a, i < n → ent P i (sel s i) = some a → a = d (sel s i) - c i) :
    wt P n s = sm n d - sm n c ∧ IsW P n (sm n d - sm n c) := by
  have e : wt P n s = sm n d - sm n c := by
    rw [show sm n d - sm n c = sm n (fun i => d (sel s i) - c i) by rw [sm_sub, k.perm.sum d]]
    refine sm_congr fun i hi => ?_
    obtain ⟨a, ha⟩ := k.some_ i hi
    show (ent P i (sel s i)).getD 0 = _
    rw [ha]
    exact t i a hi ha
  exact ⟨e, ⟨s, k, e⟩, fun s' k' => weak h k'⟩

/-- best offsets: from 0 on, feasible, their span the heaviest weight -/
structure Best (P : Pat) (n : Nat) (W : Int) (c d : Nat → Int) : Prop where
  c0 : ∀ i, i < n → 0 ≤ c i
  d0 : ∀ j, j < n → 0 ≤ d j
  feas : Feas P n c d
  span : sm n d - sm n c = W
structure Offs (P : Pat) (n : Nat) (c d : Nat → Int) : Prop where
  c0 : ∀ i, i < n → 0 ≤ c i
  d0 : ∀ j, j < n → 0 ≤ d j
  feas : Feas P n c d
theorem Best.offs {P n W c d} (h : Best P n W c d) : Offs P n c d := ⟨h.c0, h.d0, h.feas⟩
theorem offs_min {P n c d c' d'} (h : Offs P n c d) (k : Offs P n c' d') : Offs P n (fun i => min (c i) (c' i)) (fun i => min (d i) (d' i)) where
  c0 := fun i hi => by have := h.c0 i hi; have := k.c0 i hi; show 0 ≤ min (c i) (c' i); omega
  d0 := fun i hi => by have := h.d0 i hi; have := k.d0 i hi; show 0 ≤ min (d i) (d' i); omega
  feas := fun i j a hi hj e => by
    have := h.feas i j a hi hj e
    have := k.feas i j a hi hj e
    show a ≤ min (d j) (d' j) - min (c i) (c' i)
    omega
theorem offs_max {P n c d c' d'} (h : Offs P n c d) (k : Offs P n c' d') : Offs P n (fun i => max (c i) (c' i)) (fun i => max (d i) (d' i)) where
  c0 := fun i hi => by have := h.c0 i hi; have := k.c0 i hi; show 0 ≤ max (c i) (c' i); omega
  d0 := fun i hi => by have := h.d0 i hi; have := k.d0 i hi; show 0 ≤ max (d i) (d' i); omega
  feas := fun i j a hi hj e => by
    have := h.feas i j a hi hj e
    have := k.feas i j a hi hj e
    show a ≤ max (d j) (d' j) - max (c i) (c' i)
    omega
theorem sm_minmax {n : Nat} {f g : Nat → Int} : sm n (fun i => min (f i) (g i)) + sm n (fun i => max (f i) (g i)) = sm n f + sm n g := by
  rw [← sm_add, ← sm_add]
  refine sm_congr fun i hi => ?_
  show min (f i) (g i) + max (f i) (g i) = f i + g i
  omega
theorem IsW.le_span {P n W c d} (w : IsW P n W) (h : Feas P n c d) : W ≤ sm n d - sm n c := by
  obtain ⟨s, hs, e⟩ := w.ex
  rw [← e]
  exact weak h hs
theorem best_minmax {P n W c d c' d'} (w : IsW P n W) (h : Best P n W c d) (k : Best P n W c' d') :
    Best P n W (fun i => min (c i) (c' i)) (fun i => min (d i) (d' i)) ∧ Best P n W (fun i => max (c i) (c' i)) (fun i => max (d i) (d' i)) := by
  have o1 := offs_min h.offs k.offs
  have o2 := offs_max h.offs k.offs
  have l1 := w.le_span o1.feas
  have l2 := w.le_span o2.feas
  have e1 := h.span
  have e2 := k.span
  have m1 := sm_minmax (n := n) (f := c) (g := c')
  have m2 := sm_minmax (n := n) (f := d) (g := d')
  exact ⟨⟨o1.c0, o1.d0, o1.feas, by omega⟩, ⟨o2.c0, o2.d0, o2.feas, by omega⟩⟩
theorem best_up {P n W c d} (h : Best P n W c d) (u : Int) (hu : 0 ≤ u) : Best P n W (fun i => c i + u) (fun i => d i + u) where
  c0 := fun i hi => by have := h.c0 i hi; show 0 ≤ c i + u; omega
  d0 := fun i hi => by have := h.d0 i hi; show 0 ≤ d i + u; omega
  feas := fun i j a hi hj e => by have := h.feas i j a hi hj e; show a ≤ d j + u - (c i + u); omega
  span := by
    have e1 : sm n (fun i => d i + u) = sm n d + sm n (fun _ => u) := sm_add
    have e2 : sm n (fun i => c i + u) = sm n c + sm n (fun _ => u) := sm_add
    have := h.span
    rw [e1, e2]; omega
end HT

namespace HT
/-! the iteration -/
def topO (P : Pat) (c : Nat → Int) (j : Nat) : Nat → Option Int
  | 0 => none
  | k + 1 => match ent P k j, topO P c j k with
    | none, r => r
    | some a, none => some (c k + a)
    | some a, some m => some (max m (c k + a))
def top (P : Pat) (n : Nat) (c : Nat → Int) (j : Nat) : Int := (topO P c j n).getD 0
theorem topO_spec (P : Pat) (c : Nat → Int) (j : Nat) : ∀ n, match topO P c j n with
    | none => ∀ i, i < n → ent P i j = none
    | some m => (∃ i a, i < n ∧ ent P i j = some a ∧ m = c i + a) ∧ ∀ i a, i < n → ent P i j = some a → c i + a ≤ m := by
  intro n
  induction n with
  | zero => intro i hi; omega
  | succ n ih =>
    unfold topO
    cases e1 : ent P n j with
    | none =>
      cases e2 : topO P c j n with
      | none =>
        rw [e2] at ih
        intro i hi
        by_cases q : i = n
        · rw [q]; exact e1
        · exact ih i (by omega)
      | some m =>
        rw [e2] at ih
        obtain ⟨⟨i, a, h1, h2, h3⟩, h4⟩ := ih
        refine ⟨⟨i, a, by omega, h2, h3⟩, fun i a hi ha => ?_⟩
        by_cases q : i = n
        · rw [q, e1] at ha; cases ha
        · exact h4 i a (by omega) ha
    | some b =>
      cases e2 : topO P c j n with
      | none =>
        rw [e2] at ih
        refine ⟨⟨n, b, by omega, e1, rfl⟩, fun i a hi ha => ?_⟩
        by_cases q : i = n
        · rw [q, e1] at ha; cases ha; rw [q]; exact Int.le_refl _
        · have := ih i (by omega); rw [this] at ha; cases ha
      | some m =>
        rw [e2] at ih
        obtain ⟨⟨i, a, h1, h2, h3⟩, h4⟩ := ih
        refine ⟨?_, fun i a hi ha => ?_⟩
        · by_cases q : m ≤ c n + b
          · exact ⟨n, b, by omega, e1, by omega⟩
          · exact ⟨i, a, by omega, h2, by omega⟩
        · by_cases q : i = n
          · rw [q, e1] at ha; cases ha; rw [q]; omega
          · have := h4 i a (by omega) ha; omega
/-- each column has an entry -/
def Cols (P : Pat) (n : Nat) : Prop := ∀ j, j < n → ∃ i a, i < n ∧ ent P i j = some a
theorem IsCh.cols {P n s} (h : IsCh P n s) : Cols P n := fun j hj => by
  obtain ⟨i, hi, e⟩ := h.perm.onto hj
  obtain ⟨a, ha⟩ := h.some_ i hi
  exact ⟨i, a, hi, by rw [← e]; exact ha⟩
theorem top_spec {P n c j} (hc : Cols P n) (hj : j < n) : (∃ i a, i < n ∧ ent P i j = some a ∧ top P n c j = c i + a) ∧ ∀ i a, i < n → ent P i j = some a → c i + a ≤ top P n c j := by
  have h := topO_spec P c j n
  unfold top
  cases e : topO P c j n with
  | none =>
    rw [e] at h
    obtain ⟨i, a, hi, ha⟩ := hc j hj
    rw [h i hi] at ha; cases ha
  | some m =>
    rw [e] at h
    exact h
theorem top_of {P : Pat} {n : Nat} {c : Nat → Int} {j : Nat} {m : Int} (hc : Cols P n) (hj : j < n) (h1 : ∃ i a, i < n ∧ ent P i j = some a ∧ m = c i + a) (h2 : ∀ i a, i < n → ent P i j = some a → c i + a ≤ m) : m = top P n c j := by
  obtain ⟨⟨i, a, hi, ha, e⟩, g⟩ := top_spec (c := c) hc hj
  obtain ⟨i', a', hi', ha', e'⟩ := h1
  have := g i' a' hi' ha'
  have := h2 i a hi ha
  omega
def LeN (n : Nat) (c d : Nat → Int) : Prop := ∀ i, i < n → c i ≤ d i
theorem top_mono {P n c d} (hc : Cols P n) (h : LeN n c d) : LeN n (top P n c) (top P n d) := fun j hj => by
  obtain ⟨⟨i, a, hi, ha, e⟩, _⟩ := top_spec (c := c) hc hj
  have := (top_spec (c := d) hc hj).2 i a hi ha
  have := h i hi
  omega
def od (P : Pat) (s : List Nat) (i : Nat) : Int := (ent P i (sel s i)).getD 0
def nx (P : Pat) (n : Nat) (s : List Nat) (c : Nat → Int) : Nat → Int := fun i => top P n c (sel s i) - od P s i
theorem od_of {P n s} (k : IsCh P n s) {i : Nat} (hi : i < n) : ent P i (sel s i) = some (od P s i) := by
  obtain ⟨a, ha⟩ := k.some_ i hi
  unfold od
  rw [ha]; rfl
theorem nx_mono {P n s c d} (k : IsCh P n s) (h : LeN n c d) : LeN n (nx P n s c) (nx P n s d) := fun i hi => by
  have := top_mono k.cols h (sel s i) (k.perm.sel_lt hi)
  show top P n c _ - _ ≤ top P n d _ - _
  omega
theorem nx_infl {P n s} (c : Nat → Int) (k : IsCh P n s) : LeN n c (nx P n s c) := fun i hi => by
  have := (top_spec (c := c) k.cols (k.perm.sel_lt hi)).2 i _ hi (od_of k hi)
  show c i ≤ top P n c _ - _
  omega
theorem nx_congr {P n s} {c d : Nat → Int} (k : IsCh P n s) (h : ∀ i, i < n → c i = d i) : ∀ i, i < n → nx P n s c i = nx P n s d i := fun i hi => by
  have h1 := nx_mono k (c := c) (d := d) (fun i hi => by rw [h i hi]; exact Int.le_refl _) i hi
  have h2 := nx_mono k (c := d) (d := c) (fun i hi => by rw [h i hi]; exact Int.le_refl _) i hi
  omega
theorem top_congr {P n} {c d : Nat → Int} (k : Cols P n) (h : ∀ i, i < n → c i = d i) : ∀ i, i < n → top P n c i = top P n d i := fun i hi => by
  have h1 := top_mono k (c := c) (d := d) (fun i hi => by rw [h i hi]; exact Int.le_refl _) i hi
  have h2 := top_mono k (c := d) (d := c) (fun i hi => by rw [h i hi]; exact Int.le_refl _) i hi
  omega
/-- below best offsets the iteration stays below them -/
theorem best_tight {P n W c d s} (b : Best P n W c d) (k : IsCh P n s) (w : wt P n s = W) {i : Nat} (hi : i < n) : od P s i = d (sel s i) - c i :=
  tight_of b.feas k (by rw [w]; exact b.span) i _ hi (od_of k hi)
theorem top_le {P n W c d s c'} (b : Best P n W c d) (k : IsCh P n s) (h : LeN n c' c) : LeN n (top P n c') d := fun j hj => by
  obtain ⟨⟨i, a, hi, ha, e⟩, _⟩ := top_spec (c := c') k.cols hj
  have := b.feas i j a hi hj ha
  have := h i hi
  omega
theorem nx_le {P n W c d s c'} (b : Best P n W c d) (k : IsCh P n s) (w : wt P n s = W) (h : LeN n c' c) : LeN n (nx P n s c') c := fun i hi => by
  have h1 := top_le b k h (sel s i) (k.perm.sel_lt hi)
  have h2 := best_tight b k w hi
  show top P n c' _ - _ ≤ _
  omega
/-- a fixed place of the iteration is best -/
theorem fix_best {P n W s c} (iw : IsW P n W) (hp : ∀ i j a, ent P i j = some a → 0 ≤ a) (k : IsCh P n s) (w : wt P n s = W) (h0 : ∀ i, i < n → 0 ≤ c i) (h : ∀ i, i < n → nx P n s c i = c i) : Best P n W c (top P n c) := by
  have f : Feas P n c (top P n c) := fun i j a hi hj ha => by
    have := (top_spec (c := c) k.cols hj).2 i a hi ha
    omega
  refine ⟨h0, fun j hj => ?_, f, ?_⟩
  · obtain ⟨⟨i, a, hi, ha, e⟩, _⟩ := top_spec (c := c) k.cols hj
    have := h0 i hi
    have := hp i j a ha
    omega
  · rw [← w]
    refine (isW_of f k fun i a hi ha => ?_).1.symm
    have h1 := h i hi
    have h2 := od_of k hi
    rw [ha] at h2
    injection h2 with h2
    unfold nx at h1
    omega
theorem le_sm {n : Nat} {f : Nat → Int} (h : ∀ i, i < n → 0 ≤ f i) : ∀ i, i < n → f i ≤ sm n f := by
  induction n with
  | zero => intro i hi; omega
  | succ n ih =>
    intro i hi
    rw [sm_succ]
    have h0 : 0 ≤ sm n f := by
      have : sm n (fun _ => 0) ≤ sm n f := sm_le fun i hi => h i (by omega)
      have z : sm n (fun _ => 0) = 0 := by
        clear this ih h hi
        induction n with
        | zero => rfl
        | succ n ih => rw [sm_succ, ih]; rfl
      omega
    have hn := h n (by omega)
    by_cases q : i = n
    · subst q; omega
    · have := ih (fun i hi => h i (by omega)) i (by omega)
      omega
/-- feasible numbers with the span W can be raised above any start -/
theorem exists_above {P n W c d s} (hp : ∀ i j a, ent P i j = some a → 0 ≤ a) (k : IsCh P n s) (f : Feas P n c d) (e : sm n d - sm n c = W) (c0 : Nat → Int) (h0 : ∀ i, i < n → 0 ≤ c0 i) :
    ∃ cb db, Best P n W cb db ∧ LeN n c0 cb := by
  let M := sm n (fun i => (c0 i - c i).natAbs)
  have hM : ∀ i, i < n → c0 i ≤ c i + M := fun i hi => by
    have := le_sm (n := n) (f := fun i => ((c0 i - c i).natAbs : Int)) (fun i _ => by show (0 : Int) ≤ ((c0 i - c i).natAbs : Int); omega) i hi
    have h2 : ((c0 i - c i).natAbs : Int) ≤ M := this
    omega
  have cc : ∀ i, i < n → 0 ≤ c i + M := fun i hi => by have := hM i hi; have := h0 i hi; omega
  refine ⟨fun i => c i + M, fun j => d j + M, ⟨cc, fun j hj => ?_, fun i j a hi hj ha => ?_, ?_⟩, hM⟩
  · obtain ⟨i, a, hi, ha⟩ := k.cols j hj
    have := f i j a hi hj ha
    have := cc i hi
    have := hp i j a ha
    show 0 ≤ d j + M
    omega
  · have := f i j a hi hj ha
    show a ≤ d j + M - (c i + M)
    omega
  · have e1 : sm n (fun i => d i + M) = sm n d + sm n (fun _ => M) := sm_add
    have e2 : sm n (fun i => c i + M) = sm n c + sm n (fun _ => M) := sm_add
    rw [e1, e2]; omega

/-! the row c0, nx c0, .. -/
def it (P : Pat) (n : Nat) (s : List Nat) (c0 : Nat → Int) : Nat → Nat → Int
  | 0 => c0
  | t + 1 => nx P n s (it P n s c0 t)
theorem it_le_of {P n s c0 p} (k : IsCh P n s) (h0 : LeN n c0 p) (h : LeN n (nx P n s p) p) : ∀ t, LeN n (it P n s c0 t) p := by
  intro t
  induction t with
  | zero => exact h0
  | succ t ih => exact fun i hi => Int.le_trans (nx_mono k ih i hi) (h i hi)
theorem it_mono {P n s c0} (k : IsCh P n s) (t u : Nat) : LeN n (it P n s c0 t) (it P n s c0 (t + u)) := by
  induction u with
  | zero => exact fun i _ => Int.le_refl _
  | succ u ih => exact fun i hi => Int.le_trans (ih i hi) (nx_infl _ k i hi)
theorem it_stops {P n W s c0 cb db} (k : IsCh P n s) (w : wt P n s = W) (b : Best P n W cb db) (h : LeN n c0 cb) : ∀ (m t : Nat), sm n cb - sm n (it P n s c0 t) ≤ m → ∃ T, ∀ i, i < n → it P n s c0 (T + 1) i = it P n s c0 T i := by
  have hb : ∀ t, LeN n (it P n s c0 t) cb := it_le_of k h (nx_le b k w fun i _ => Int.le_refl _)
  intro m
  induction m with
  | zero =>
    intro t ht
    refine ⟨t, fun i hi => ?_⟩
    have e := sm_eq_of_le (hb t) (by omega) i hi
    have h1 := hb (t + 1) i hi
    have h2 := nx_infl (it P n s c0 t) k i hi
    have h3 : it P n s c0 (t + 1) i = nx P n s (it P n s c0 t) i := rfl
    omega
  | succ m ih =>
    intro t ht
    by_cases q : ∀ i, i < n → it P n s c0 (t + 1) i = it P n s c0 t i
    · exact ⟨t, q⟩
    · obtain ⟨i, hi, hne⟩ : ∃ i, i < n ∧ it P n s c0 (t + 1) i ≠ it P n s c0 t i := by
        refine Classical.byContradiction fun z => q fun i hi => Classical.byContradiction fun y => z ⟨i, hi, y⟩
      have l := nx_infl (it P n s c0 t) k
      have l2 := l i hi
      have : sm n (it P n s c0 t) < sm n (it P n s c0 (t + 1)) := sm_lt l i hi (by
        have h3 : it P n s c0 (t + 1) i = nx P n s (it P n s c0 t) i := rfl
        omega)
      exact ih (t + 1) (by omega)
def cnt (n : Nat) (c d : Nat → Int) : Int := sm n fun i => if c i = d i then 1 else 0
theorem cnt_le {n : Nat} {c d : Nat → Int} : 0 ≤ cnt n c d ∧ cnt n c d ≤ n ∧ (cnt n c d = n → ∀ i, i < n → c i = d i) := by
  unfold cnt
  induction n with
  | zero => exact ⟨Int.le_refl _, Int.le_refl _, fun _ i hi => by omega⟩
  | succ n ih =>
    obtain ⟨h1, h2, h3⟩ := ih
    rw [sm_succ]
    by_cases q : c n = d n
    · rw [if_pos q]
      refine ⟨by omega, by omega, fun e i hi => ?_⟩
      by_cases r : i = n
      · rw [r]; exact q
      · exact h3 (by omega) i (by omega)
    · rw [if_neg q]
      refine ⟨by omega, by omega, fun e i hi => ?_⟩
      omega
theorem cnt_self (n : Nat) (c : Nat → Int) : cnt n c c = n := by
  unfold cnt
  induction n with
  | zero => rfl
  | succ n ih => rw [sm_succ, ih, if_pos rfl]; omega
/-- n turns are enough -/
theorem it_settles {P n W s c0 cb db} (k : IsCh P n s) (w : wt P n s = W) (b : Best P n W cb db) (h : LeN n c0 cb) : ∀ i, i < n → it P n s c0 (n + 1) i = it P n s c0 n i := by
  obtain ⟨T, hT⟩ := it_stops k w b h (sm n cb - sm n (it P n s c0 0)).toNat 0 (by omega)
  let ci := it P n s c0 T
  have fixc : ∀ i, i < n → nx P n s ci i = ci i := hT
  have hle : ∀ t, LeN n (it P n s c0 t) ci := it_le_of k (by have := it_mono k (c0 := c0) 0 T; rw [Nat.zero_add] at this; exact this) fun i hi => by rw [fixc i hi]; exact Int.le_refl _
  have grow : ∀ t, (∃ i, i < n ∧ it P n s c0 t i ≠ ci i) → cnt n (it P n s c0 t) ci < cnt n (it P n s c0 (t + 1)) ci := by
    intro t ⟨i, hi, hne⟩
    have sub : ∀ i, i < n → (fun i => if it P n s c0 t i = ci i then (1 : Int) else 0) i ≤ (fun i => if it P n s c0 (t + 1) i = ci i then (1 : Int) else 0) i := fun i hi => by
      show (if it P n s c0 t i = ci i then (1 : Int) else 0) ≤ (if it P n s c0 (t + 1) i = ci i then (1 : Int) else 0)
      by_cases q : it P n s c0 t i = ci i
      · have h1 : it P n s c0 (t + 1) i = ci i := by
          have h2 := nx_infl (it P n s c0 t) k i hi
          have h3 := hle (t + 1) i hi
          have h4 : it P n s c0 (t + 1) i = nx P n s (it P n s c0 t) i := rfl
          omega
        rw [if_pos q, if_pos h1]; exact Int.le_refl _
      · rw [if_neg q]
        split <;> omega
    by_cases ex : ∃ j, j < n ∧ it P n s c0 t j ≠ ci j ∧ it P n s c0 (t + 1) j = ci j
    · obtain ⟨j, hj, h1, h2⟩ := ex
      refine sm_lt sub j hj ?_
      show (if it P n s c0 t j = ci j then (1 : Int) else 0) < (if it P n s c0 (t + 1) j = ci j then (1 : Int) else 0)
      rw [if_neg h1, if_pos h2]; omega
    · exfalso
      have none_ : ∀ j, j < n → it P n s c0 t j ≠ ci j → it P n s c0 (t + 1) j ≠ ci j := fun j hj a b => ex ⟨j, hj, a, b⟩
      let p : Nat → Int := fun i => if it P n s c0 t i = ci i then ci i else ci i - 1
      have pl : LeN n p ci := fun i hi => by
        show (if it P n s c0 t i = ci i then ci i else ci i - 1) ≤ ci i
        split <;> omega
      have p0 : LeN n c0 p := fun i hi => by
        show c0 i ≤ (if it P n s c0 t i = ci i then ci i else ci i - 1)
        have h1 := it_mono k (c0 := c0) 0 t i hi
        rw [Nat.zero_add] at h1
        have h1' : c0 i ≤ it P n s c0 t i := h1
        have h2 := hle t i hi
        split <;> omega
      have pf : LeN n (nx P n s p) p := fun i hi => by
        by_cases q : it P n s c0 t i = ci i
        · have e : p i = ci i := if_pos q
          have h1 := nx_mono k pl i hi
          rw [fixc i hi] at h1
          omega
        · have e : p i = ci i - 1 := if_neg q
          have hsi := k.perm.sel_lt hi
          obtain ⟨⟨l, a, hl, ha, et⟩, _⟩ := top_spec (c := p) k.cols hsi
          show top P n p (sel s i) - od P s i ≤ p i
          rw [et, e]
          by_cases ql : it P n s c0 t l = ci l
          · have el : p l = ci l := if_pos ql
            have h1 := (top_spec (c := it P n s c0 t) k.cols hsi).2 l a hl ha
            have h2 : it P n s c0 (t + 1) i = top P n (it P n s c0 t) (sel s i) - od P s i := rfl
            have h3 := hle (t + 1) i hi
            have h4 := none_ i hi q
            omega
          · have el : p l = ci l - 1 := if_neg ql
            have h1 := (top_spec (c := ci) k.cols hsi).2 l a hl ha
            have h2 : top P n ci (sel s i) - od P s i = ci i := fixc i hi
            omega
      have := it_le_of k p0 pf T i hi
      have e : p i = ci i - 1 := if_neg hne
      have : ci i ≤ p i := this
      omega
  have all : ∀ t : Nat, t ≤ n → (t : Int) ≤ cnt n (it P n s c0 t) ci := by
    intro t
    induction t with
    | zero => intro _; exact cnt_le.1
    | succ t ih =>
      intro ht
      have h1 := ih (by omega)
      by_cases q : ∃ i, i < n ∧ it P n s c0 t i ≠ ci i
      · have := grow t q; omega
      · have e : ∀ i, i < n → it P n s c0 t i = ci i := fun i hi => Classical.byContradiction fun z => q ⟨i, hi, z⟩
        have e2 : ∀ i, i < n → it P n s c0 (t + 1) i = ci i := fun i hi => by
          have := nx_congr k e i hi
          rw [fixc i hi] at this
          exact this
        have : cnt n (it P n s c0 (t + 1)) ci = cnt n ci ci := by
          unfold cnt
          refine sm_congr fun i hi => ?_
          rw [if_pos (e2 i hi), if_pos rfl]
        rw [this]
        have full : cnt n ci ci = n := cnt_self n ci
        omega
  have hn := (cnt_le (n := n) (c := it P n s c0 n) (d := ci)).2.2 (by have := all n (Nat.le_refl _); have := (cnt_le (n := n) (c := it P n s c0 n) (d := ci)).2.1; omega)
  intro i hi
  have h1 : it P n s c0 (n + 1) i = nx P n s (it P n s c0 n) i := rfl
  rw [h1, nx_congr k hn i hi, fixc i hi, hn i hi]
end HT

namespace HT
/-! the algorithm of Choosing -/
def Tight (P : Pat) (g t : Nat → Int) (e u : Nat) : Prop := ∃ a, ent P e u = some a ∧ t u - g e - a = 0
structure SInv (P : Pat) (n k : Nat) (g t : Nat → Int) (O : Nat → Option Nat) : Prop where
  feas : ∀ i j a, i < k → j < n → ent P i j = some a → a ≤ t j - g i
  zero : ∀ i, k ≤ i → i < n → g i = 0
  own : ∀ j e, j < n → O j = some e → e < k ∧ Tight P g t e j
  inj : ∀ j l e, j < n → l < n → O j = some e → O l = some e → j = l
  all : ∀ e, e < k → ∃ j, j < n ∧ O j = some e
structure MInv (P : Pat) (n k : Nat) (g t : Nat → Int) (O : Nat → Option Nat) : Prop where
  feas : ∀ i j a, i < k + 1 → j < n → ent P i j = some a → a ≤ t j - g i
  zero : ∀ i, k + 1 ≤ i → i < n → g i = 0
  own : ∀ j e, j < n → O j = some e → e < k ∧ Tight P g t e j
  inj : ∀ j l e, j < n → l < n → O j = some e → O l = some e → j = l
  all : ∀ e, e < k → ∃ j, j < n ∧ O j = some e
structure RPre (P : Pat) (n k : Nat) (g t : Nat → Int) (O : Nat → Option Nat) (lot : List Nat) (came : List (Nat × Nat)) : Prop where
  lot_eq : lot = k :: came.filterMap fun p => O p.1
  nd : (came.map (·.1)).Nodup
  lt : ∀ p ∈ came, p.1 < n
  path : ∀ pre p post, came = pre ++ p :: post → Tight P g t p.2 p.1 ∧ (p.2 = k ∨ ∃ q ∈ pre, O q.1 = some p.2)
structure Reach (P : Pat) (n k : Nat) (g t : Nat → Int) (O : Nat → Option Nat) (lot : List Nat) (came : List (Nat × Nat)) : Prop where
  pre : RPre P n k g t O lot came
  closed : ∀ e ∈ lot, ∀ u, u < n → Tight P g t e u → u ∈ came.map (·.1)
variable {P : Pat} {n k : Nat} {g t g' t' : Nat → Int} {O : Nat → Option Nat} {lot lot' : List Nat} {came came' : List (Nat × Nat)}
theorem RPre.start : RPre P n k g t O [k] [] where
  lot_eq := rfl
  nd := List.nodup_nil
  lt := fun p hp => by cases hp
  path := fun pre p post h => by simp at h
theorem RPre.mem (r : RPre P n k g t O lot came) {e : Nat} : e ∈ lot ↔ e = k ∨ ∃ q ∈ came, O q.1 = some e := by
  rw [r.lot_eq, List.mem_cons, List.mem_filterMap]
theorem keys_len (hnd : (came.map (·.1)).Nodup) (hlt : ∀ p ∈ came, p.1 < n) : came.length ≤ n := by
  have h : came.map (·.1) ⊆ List.range n := fun x hx => by
    obtain ⟨p, hp, e⟩ := List.mem_map.mp hx
    exact List.mem_range.mpr (e ▸ hlt p hp)
  have := List.Nodup.length_le_of_subset hnd h
  simpa using this
theorem RPre.len (r : RPre P n k g t O lot came) : came.length ≤ n ∧ lot.length ≤ n + 1 := by
  have h := keys_len r.nd r.lt
  refine ⟨h, ?_⟩
  rw [r.lot_eq, List.length_cons]
  have := List.length_filterMap_le (fun p : Nat × Nat => O p.1) came
  omega
/-- one more unknown is reached -/
theorem RPre.more (r : RPre P n k g t O lot came) {e u : Nat} (he : e ∈ lot) (hu : u < n) (ht : Tight P g t e u) (hn : u ∉ came.map (·.1)) :
    RPre P n k g t O (lot ++ (O u).toList) (came ++ [(u, e)]) where
  lot_eq := by
    rw [r.lot_eq, List.filterMap_append]
    cases h : O u <;> simp [h]
  nd := by
    rw [List.map_append, List.nodup_append]
    refine ⟨r.nd, by simp, fun a ha b hb => ?_⟩
    simp at hb
    subst hb
    exact fun q => hn (q ▸ ha)
  lt := fun p hp => by
    rw [List.mem_append] at hp
    rcases hp with hp | hp
    · exact r.lt p hp
    · simp at hp; subst hp; exact hu
  path := fun pre p post h => by
    rcases List.append_eq_append_iff.mp h with ⟨as, h1, h2⟩ | ⟨bs, h1, h2⟩
    · cases as with
      | nil =>
        simp at h1 h2
        obtain ⟨h2, h3⟩ := h2
        subst h2
        refine ⟨ht, ?_⟩
        rw [h1]
        exact r.mem.mp he
      | cons x xs =>
        simp at h2
    · cases bs with
      | nil =>
        simp at h1 h2
        obtain ⟨h2, h3⟩ := h2
        subst h2
        refine ⟨ht, ?_⟩
        rw [← h1]
        exact r.mem.mp he
      | cons x xs =>
        simp at h2
        obtain ⟨h2, h3⟩ := h2
        subst h2
        exact r.path pre p xs h1
theorem MInv.lot_nd (m : MInv P n k g t O) (r : RPre P n k g t O lot came) : lot.Nodup := by
  rw [r.lot_eq, List.nodup_cons]
  refine ⟨fun h => ?_, ?_⟩
  · obtain ⟨p, hp, e⟩ := List.mem_filterMap.mp h
    have := (m.own _ _ (r.lt p hp) e).1
    omega
  · have nd := r.nd
    have lt := r.lt
    clear r
    induction came with
    | nil => exact List.nodup_nil
    | cons p ps ih =>
      rw [List.map_cons, List.nodup_cons] at nd
      have ih' := ih nd.2 (fun q hq => lt q (List.mem_cons_of_mem _ hq))
      rw [List.filterMap_cons]
      cases e : O p.1 with
      | none => exact ih'
      | some x =>
        refine List.nodup_cons.mpr ⟨fun h => ?_, ih'⟩
        obtain ⟨q, hq, e2⟩ := List.mem_filterMap.mp h
        have := m.inj _ _ _ (lt p (List.mem_cons_self ..)) (lt q (List.mem_cons_of_mem _ hq)) e e2
        exact nd.1 (List.mem_map.mpr ⟨q, hq, this.symm⟩)
theorem MInv.lot_le (m : MInv P n k g t O) (r : RPre P n k g t O lot came) : ∀ e ∈ lot, e ≤ k := fun e he => by
  rcases r.mem.mp he with h | ⟨q, hq, h⟩
  · omega
  · have := (m.own _ _ (r.lt q hq) h).1
    omega
/-- with a choice some spot leads out of the reached unknowns -/
theorem leads_out {s : List Nat} (m : MInv P n k g t O) (r : RPre P n k g t O lot came) (c : IsCh P n s) (hk : k < n) (hf : ∀ p ∈ came, O p.1 ≠ none) :
    ∃ e u a, e ∈ lot ∧ u < n ∧ u ∉ came.map (·.1) ∧ ent P e u = some a := by
  refine Classical.byContradiction fun z => ?_
  have sub : lot.map (sel s) ⊆ came.map (·.1) := fun u hu => by
    obtain ⟨e, he, q⟩ := List.mem_map.mp hu
    have hen : e < n := by have := m.lot_le r e he; omega
    obtain ⟨a, ha⟩ := c.some_ e hen
    refine Classical.byContradiction fun y => z ⟨e, sel s e, a, he, c.perm.sel_lt hen, by rw [q]; exact y, ha⟩
  have nd : (lot.map (sel s)).Nodup := by
    have h1 := m.lot_nd r
    have h2 := m.lot_le r
    clear sub z r
    induction lot with
    | nil => exact List.nodup_nil
    | cons x xs ih =>
      rw [List.nodup_cons] at h1
      rw [List.map_cons, List.nodup_cons]
      refine ⟨fun h => ?_, ih h1.2 fun e he => h2 e (List.mem_cons_of_mem _ he)⟩
      obtain ⟨y, hy, q⟩ := List.mem_map.mp h
      have hx := h2 x (List.mem_cons_self ..)
      have hy2 := h2 y (List.mem_cons_of_mem _ hy)
      have := c.perm.inj (i := y) (k := x) (by omega) (by omega) q
      exact h1.1 (this ▸ hy)
  have l := List.Nodup.length_le_of_subset nd sub
  rw [List.length_map, List.length_map, r.lot_eq, List.length_cons] at l
  have : (came.filterMap fun p => O p.1).length = came.length := by
    clear l nd sub z r
    induction came with
    | nil => rfl
    | cons p ps ih =>
      rw [List.filterMap_cons]
      cases e : O p.1 with
      | none => exact (hf p (List.mem_cons_self ..) e).elim
      | some x => show (x :: _).length = _; rw [List.length_cons, List.length_cons, ih fun q hq => hf q (List.mem_cons_of_mem _ hq)]
  omega
/-- what is raised -/
structure Raised (lot : List Nat) (came : List (Nat × Nat)) (g t g' t' : Nat → Int) (d : Int) : Prop where
  gin : ∀ e, e ∈ lot → g' e = g e + d
  gout : ∀ e, e ∉ lot → g' e = g e
  tin : ∀ u, u ∈ came.map (·.1) → t' u = t u + d
  tout : ∀ u, u ∉ came.map (·.1) → t' u = t u
structure IsMin (P : Pat) (n : Nat) (g t : Nat → Int) (lot : List Nat) (came : List (Nat × Nat)) (d : Int) : Prop where
  ex : ∃ e u a, e ∈ lot ∧ u < n ∧ u ∉ came.map (·.1) ∧ ent P e u = some a ∧ d = t u - g e - a
  le : ∀ e u a, e ∈ lot → u < n → u ∉ came.map (·.1) → ent P e u = some a → d ≤ t u - g e - a
theorem raise_ok {d : Int} (m : MInv P n k g t O) (r : Reach P n k g t O lot came) (hk : k < n) (h : IsMin P n g t lot came d) (x : Raised lot came g t g' t' d) : MInv P n k g' t' O := by
  obtain ⟨e0, u0, a0, he0, hu0, hn0, ha0, hd⟩ := h.ex
  have d0 : 0 ≤ d := by
    have := m.feas e0 u0 a0 (by have := m.lot_le r.pre e0 he0; omega) hu0 ha0
    omega
  refine ⟨fun i j a hi hj ha => ?_, fun i h1 h2 => ?_, fun j e hj he => ?_, m.inj, m.all⟩
  · have f := m.feas i j a hi hj ha
    by_cases p : i ∈ lot <;> by_cases q : j ∈ came.map (·.1)
    · rw [x.gin i p, x.tin j q]; omega
    · rw [x.gin i p, x.tout j q]; have := h.le i j a p hj q ha; omega
    · rw [x.gout i p, x.tin j q]; omega
    · rw [x.gout i p, x.tout j q]; omega
  · rw [x.gout i (fun p => by have := m.lot_le r.pre i p; omega)]
    exact m.zero i h1 h2
  · obtain ⟨h1, a, ha, ht⟩ := m.own j e hj he
    refine ⟨h1, a, ha, ?_⟩
    by_cases q : j ∈ came.map (·.1)
    · obtain ⟨p, hp, e2⟩ := List.mem_map.mp q
      have : e ∈ lot := r.pre.mem.mpr (.inr ⟨p, hp, by rw [e2]; exact he⟩)
      rw [x.gin e this, x.tin j q]; omega
    · have : e ∉ lot := fun y => by
        rcases r.pre.mem.mp y with z | ⟨p, hp, e2⟩
        · omega
        · have := m.inj j p.1 e hj (r.pre.lt p hp) he e2
          exact q (List.mem_map.mpr ⟨p, hp, this.symm⟩)
      rw [x.gout e this, x.tout j q]; exact ht
/-- what was reached is reached behind the raise, and more -/
theorem raise_more {d : Int} (m : MInv P n k g t O) (r : Reach P n k g t O lot came) (hk : k < n) (h : IsMin P n g t lot came d) (x : Raised lot came g t g' t' d) (r' : Reach P n k g' t' O lot' came') : came.length < came'.length := by
  have tight_in : ∀ e u, e ∈ lot → u ∈ came.map (·.1) → Tight P g t e u → Tight P g' t' e u := fun e u he hu ⟨a, ha, hz⟩ => ⟨a, ha, by rw [x.gin e he, x.tin u hu]; omega⟩
  have mem_lot : ∀ pre p post, came = pre ++ p :: post → p.2 ∈ lot := fun pre p post e => by
    rcases (r.pre.path pre p post e).2 with z | ⟨q, hq, e2⟩
    · exact r.pre.mem.mpr (.inl z)
    · exact r.pre.mem.mpr (.inr ⟨q, by rw [e]; exact List.mem_append_left _ hq, e2⟩)
  have sub : ∀ (m : Nat) pre post, pre.length = m → came = pre ++ post → ∀ p ∈ pre, p.1 ∈ came'.map (·.1) := by
    intro m
    induction m with
    | zero => intro pre post hl e p hp; rw [List.length_eq_zero_iff.mp hl] at hp; cases hp
    | succ m ih =>
      intro pre post hl e p hp
      obtain ⟨pre0, z, rfl⟩ : ∃ pre0 z, pre = pre0 ++ [z] := by
        rcases List.eq_nil_or_concat pre with h | ⟨a, b, h⟩
        · rw [h] at hl; cases hl
        · exact ⟨a, b, by rw [h]; simp⟩
      rw [List.length_append, List.length_singleton] at hl
      have e' : came = pre0 ++ z :: post := by rw [e]; simp
      have ih' := ih pre0 (z :: post) (by omega) e'
      rw [List.mem_append] at hp
      rcases hp with hp | hp
      · exact ih' p hp
      · simp at hp
        subst hp
        obtain ⟨ht, hw⟩ := r.pre.path pre0 p post e'
        have hin : p.1 ∈ came.map (·.1) := List.mem_map.mpr ⟨p, by rw [e']; simp, rfl⟩
        have hlt : p.1 < n := r.pre.lt p (by rw [e']; simp)
        refine r'.closed p.2 ?_ p.1 hlt (tight_in _ _ (mem_lot pre0 p post e') hin ht)
        rcases hw with hw | ⟨q, hq, e2⟩
        · exact r'.pre.mem.mpr (.inl hw)
        · obtain ⟨q', hq', e3⟩ := List.mem_map.mp (ih' q hq)
          exact r'.pre.mem.mpr (.inr ⟨q', hq', by rw [e3]; exact e2⟩)
  have subk : came.map (·.1) ⊆ came'.map (·.1) := fun u hu => by
    obtain ⟨p, hp, e⟩ := List.mem_map.mp hu
    rw [← e]
    exact sub _ came [] rfl (by simp) p hp
  obtain ⟨e0, u0, a0, he0, hu0, hn0, ha0, hd⟩ := h.ex
  have he0' : e0 ∈ lot' := by
    rcases r.pre.mem.mp he0 with z | ⟨q, hq, e2⟩
    · exact r'.pre.mem.mpr (.inl z)
    · obtain ⟨q', hq', e3⟩ := List.mem_map.mp (subk (List.mem_map.mpr ⟨q, hq, rfl⟩))
      exact r'.pre.mem.mpr (.inr ⟨q', hq', by rw [e3]; exact e2⟩)
  have hu0' : u0 ∈ came'.map (·.1) := r'.closed e0 he0' u0 hu0 ⟨a0, ha0, by rw [x.gin e0 he0, x.tout u0 hn0]; omega⟩
  have nd2 : (u0 :: came.map (·.1)).Nodup := List.nodup_cons.mpr ⟨hn0, r.pre.nd⟩
  have l := List.Nodup.length_le_of_subset nd2 (l₂ := came'.map (·.1)) fun x hx => by
    rcases List.mem_cons.mp hx with h | h
    · rw [h]; exact hu0'
    · exact subk h
  rw [List.length_cons, List.length_map, List.length_map] at l
  omega
/-- handing on along the way back -/
structure HInv (P : Pat) (n k : Nat) (g t : Nat → Int) (O : Nat → Option Nat) (came pre : List (Nat × Nat)) (u e : Nat) (post : List (Nat × Nat)) (O1 : Nat → Option Nat) : Prop where
  split : came = pre ++ (u, e) :: post
  own : ∀ j e, j < n → j ≠ u → O1 j = some e → e < k ∧ Tight P g t e j
  inj : ∀ j l e, j < n → l < n → j ≠ u → l ≠ u → O1 j = some e → O1 l = some e → j = l
  all : ∀ e, e < k → ∃ j, j < n ∧ j ≠ u ∧ O1 j = some e
  pr : ∀ p ∈ pre, O1 p.1 = O p.1
  at_ : O1 u = O u
def put (O : Nat → Option Nat) (u e : Nat) : Nat → Option Nat := fun j => if j = u then some e else O j
theorem hand_start {u e : Nat} {pre post : List (Nat × Nat)} (m : MInv P n k g t O) (hs : came = pre ++ (u, e) :: post) (hu : O u = none) : HInv P n k g t O came pre u e post O where
  split := hs
  own := fun j e hj _ h => m.own j e hj h
  inj := fun j l e hj hl _ _ h1 h2 => m.inj j l e hj hl h1 h2
  all := fun e he => by
    obtain ⟨j, hj, h⟩ := m.all e he
    exact ⟨j, hj, fun q => (by rw [q, hu] at h; cases h), h⟩
  pr := fun _ _ => rfl
  at_ := rfl
theorem hand_nd {pre post : List (Nat × Nat)} {u e : Nat} (nd : ((pre ++ (u, e) :: post).map (·.1)).Nodup) : ∀ p ∈ pre, p.1 ≠ u := fun p hp q => by
  rw [List.map_append, List.nodup_append] at nd
  exact nd.2.2 p.1 (List.mem_map.mpr ⟨p, hp, rfl⟩) u (by simp) q
theorem hand_end {O1 : Nat → Option Nat} {u e : Nat} {pre post : List (Nat × Nat)} (m : MInv P n k g t O) (r : Reach P n k g t O lot came) (h : HInv P n k g t O came pre u e post O1) (he : e = k) :
    (∀ j, j < n → O1 j ≠ some e) ∧ SInv P n (k + 1) g t (put O1 u e) := by
  have hu : u < n := r.pre.lt (u, e) (by rw [h.split]; simp)
  have ht : Tight P g t e u := (r.pre.path pre (u, e) post h.split).1
  have no : ∀ j, j < n → O1 j ≠ some e := fun j hj q => by
    by_cases ju : j = u
    · rw [ju, h.at_] at q
      have := (m.own u e hu q).1
      omega
    · have := (h.own j e hj ju q).1
      omega
  refine ⟨no, ⟨m.feas, m.zero, fun j f hj hf => ?_, fun j l f hj hl h1 h2 => ?_, fun f hf => ?_⟩⟩
  · unfold put at hf
    by_cases ju : j = u
    · rw [if_pos ju] at hf
      injection hf with hf
      subst hf
      rw [ju]
      exact ⟨by omega, ht⟩
    · rw [if_neg ju] at hf
      have := h.own j f hj ju hf
      exact ⟨by omega, this.2⟩
  · unfold put at h1 h2
    by_cases ju : j = u <;> by_cases lu : l = u
    · omega
    · rw [if_pos ju] at h1
      rw [if_neg lu] at h2
      injection h1 with h1
      exact (no l hl (by rw [h1]; exact h2)).elim
    · rw [if_neg ju] at h1
      rw [if_pos lu] at h2
      injection h2 with h2
      exact (no j hj (by rw [h2]; exact h1)).elim
    · rw [if_neg ju] at h1
      rw [if_neg lu] at h2
      exact h.inj j l f hj hl ju lu h1 h2
  · by_cases q : f = k
    · exact ⟨u, hu, by unfold put; rw [if_pos rfl, he, q]⟩
    · obtain ⟨j, hj, ju, e2⟩ := h.all f (by omega)
      exact ⟨j, hj, by unfold put; rw [if_neg ju]; exact e2⟩
theorem hand_step {O1 : Nat → Option Nat} {u e : Nat} {pre post : List (Nat × Nat)} (m : MInv P n k g t O) (r : Reach P n k g t O lot came) (h : HInv P n k g t O came pre u e post O1) (he : e ≠ k) :
    ∃ v, v < n ∧ O1 v = some e ∧ (∀ j, j < n → O1 j = some e → j = v) ∧ ∃ pre' f post', pre'.length < pre.length ∧ HInv P n k g t O came pre' v f post' (put O1 u e) := by
  have hu : u < n := r.pre.lt (u, e) (by rw [h.split]; simp)
  obtain ⟨ht, hw⟩ := r.pre.path pre (u, e) post h.split
  have nd := r.pre.nd
  rw [h.split] at nd
  have ndu := hand_nd nd
  rcases hw with hw | ⟨q, hq, e2⟩
  · exact (he hw).elim
  have hqn : q.1 < n := r.pre.lt q (by rw [h.split]; exact List.mem_append_left _ hq)
  have hqu : q.1 ≠ u := ndu q hq
  have e3 : O1 q.1 = some e := by rw [h.pr q hq]; exact e2
  obtain ⟨ek, _⟩ := m.own q.1 e hqn e2
  have uni : ∀ j, j < n → O1 j = some e → j = q.1 := fun j hj hje => by
    by_cases ju : j = u
    · rw [ju, h.at_] at hje
      have := m.inj u q.1 e hu hqn hje e2
      omega
    · exact h.inj j q.1 e hj hqn ju hqu hje e3
  refine ⟨q.1, hqn, e3, uni, ?_⟩
  obtain ⟨pre', rest, hp⟩ := List.append_of_mem hq
  have split' : came = pre' ++ (q.1, q.2) :: (rest ++ (u, e) :: post) := by rw [h.split, hp]; simp
  refine ⟨pre', q.2, rest ++ (u, e) :: post, by rw [hp]; simp, ⟨split', fun j f hj jq hf => ?_, fun j l f hj hl jq lq h1 h2 => ?_, fun f hf => ?_, fun p hp' => ?_, ?_⟩⟩
  · unfold put at hf
    by_cases ju : j = u
    · rw [if_pos ju] at hf
      injection hf with hf
      subst hf
      rw [ju]
      exact ⟨ek, ht⟩
    · rw [if_neg ju] at hf
      exact h.own j f hj ju hf
  · unfold put at h1 h2
    by_cases ju : j = u <;> by_cases lu : l = u
    · omega
    · rw [if_pos ju] at h1
      rw [if_neg lu] at h2
      injection h1 with h1
      exact (lq (uni l hl (by rw [h1]; exact h2))).elim
    · rw [if_neg ju] at h1
      rw [if_pos lu] at h2
      injection h2 with h2
      exact (jq (uni j hj (by rw [h2]; exact h1))).elim
    · rw [if_neg ju] at h1
      rw [if_neg lu] at h2
      exact h.inj j l f hj hl ju lu h1 h2
  · obtain ⟨j, hj, ju, e4⟩ := h.all f hf
    by_cases jq : j = q.1
    · rw [jq, e3] at e4
      injection e4 with e4
      exact ⟨u, hu, fun z => hqu z.symm, by unfold put; rw [if_pos rfl, e4]⟩
    · exact ⟨j, hj, jq, by unfold put; rw [if_neg ju]; exact e4⟩
  · have hpp : p ∈ pre := by rw [hp]; exact List.mem_append_left _ hp'
    unfold put
    rw [if_neg (ndu p hpp)]
    exact h.pr p hpp
  · unfold put
    rw [if_neg hqu]
    exact h.pr q hq
theorem start_inv : SInv P n 0 (fun _ => 0) (fun _ => 0) (fun _ => none) where
  feas := fun i j a hi => by omega
  zero := fun _ _ _ => rfl
  own := fun j e _ h => by cases h
  inj := fun j l e _ _ h => by cases h
  all := fun e he => by omega
/-- equation k comes in with a number that makes its row feasible -/
theorem take_inv {x : Int} (s : SInv P n k g t O) (hk : k < n) (h : ∀ u a, u < n → ent P k u = some a → x ≤ t u - a) : MInv P n k (fun i => if i = k then x else g i) t O where
  feas := fun i j a hi hj ha => by
    show a ≤ t j - (if i = k then x else g i)
    by_cases q : i = k
    · rw [if_pos q]; subst q; have := h j a hj ha; omega
    · rw [if_neg q]; exact s.feas i j a (by omega) hj ha
  zero := fun i h1 h2 => by
    show (if i = k then x else g i) = 0
    rw [if_neg (by omega)]
    exact s.zero i (by omega) h2
  own := fun j e hj he => by
    obtain ⟨h1, a, ha, hz⟩ := s.own j e hj he
    refine ⟨h1, a, ha, ?_⟩
    show t j - (if e = k then x else g e) - a = 0
    rw [if_neg (by omega)]
    exact hz
  inj := s.inj
  all := s.all
/-- at the end: a heaviest choice, and the weight -/
theorem end_choice {s : List Nat} (f : SInv P n n g t O) (hl : s.length = n) (h : ∀ i, i < n → sel s i < n ∧ O (sel s i) = some i) :
    IsCh P n s ∧ Feas P n g t ∧ wt P n s = sm n t - sm n g ∧ IsW P n (sm n t - sm n g) := by
  have ch : IsCh P n s := by
    refine ⟨⟨hl, ?_, ?_⟩, ?_⟩
    · rw [List.nodup_iff_pairwise_ne, List.pairwise_iff_getElem]
      intro i j hi hj hij e
      have e1 : sel s i = s[i] := by unfold sel; rw [List.getD_eq_getElem?_getD, List.getElem?_eq_getElem hi]; rfl
      have e2 : sel s j = s[j] := by unfold sel; rw [List.getD_eq_getElem?_getD, List.getElem?_eq_getElem hj]; rfl
      have h1 := (h i (by omega)).2
      have h2 := (h j (by omega)).2
      rw [e1, e] at h1
      rw [e2, h1] at h2
      injection h2 with h2
      omega
    · intro j hj
      obtain ⟨i, hi, e⟩ := List.getElem_of_mem hj
      have e1 : sel s i = s[i] := by unfold sel; rw [List.getD_eq_getElem?_getD, List.getElem?_eq_getElem hi]; rfl
      have := (h i (by omega)).1
      rw [e1, e] at this
      exact this
    · intro i hi
      obtain ⟨h1, h2⟩ := h i hi
      obtain ⟨_, a, ha, _⟩ := f.own _ _ h1 h2
      exact ⟨a, ha⟩
  have fe : Feas P n g t := fun i j a hi hj ha => f.feas i j a hi hj ha
  have tg : ∀ i a, i < n → ent P i (sel s i) = some a → a = t (sel s i) - g i := fun i a hi ha => by
    obtain ⟨h1, h2⟩ := h i hi
    obtain ⟨_, b, hb, hz⟩ := f.own _ _ h1 h2
    rw [ha] at hb
    injection hb with hb
    omega
  exact ⟨ch, fe, isW_of fe ch tg⟩
theorem end_ex (f : SInv P n n g t O) : ∃ s : List Nat, s.length = n ∧ ∀ i, i < n → sel s i < n ∧ O (sel s i) = some i := by
  refine ⟨(List.range n).map fun i => if h : i < n then (f.all i h).choose else 0, by simp, fun i hi => ?_⟩
  have e : sel ((List.range n).map fun i => if h : i < n then (f.all i h).choose else 0) i = (f.all i hi).choose := by
    unfold sel
    rw [List.getD_eq_getElem?_getD, List.getElem?_map, List.getElem?_range hi]
    simp [hi]
  rw [e]
  exact (f.all i hi).choose_spec
end HT

namespace HR
open PySem PySem.Spec PyProof.Rows L2
section
variable {X : Cx}
/-- xs[i] read ahead of xs[i] op= e -/
theorem get_list : PGet X (rIxL X.K) := by
  intro pins s σ H o i ov iv Q I ro ri h
  obtain ⟨p, xs, k, z, rfl, rfl, hq, he, q⟩ := h
  cases ro
  obtain ⟨t, rfl⟩ := ri
  obtain ⟨its, r, pl, hz⟩ := I.list hq
  obtain ⟨j, h1, h2, h3, h4, h5⟩ := atI_get he
  obtain ⟨u, eu, ru⟩ := r.get h2
  have hl := r.length
  have hn := line63
  have fin : EP X pins σ Q u s := ⟨z, H, I, ru, q⟩
  by_cases h0 : 0 ≤ k
  · have hj : k.toNat = j := by
      rw [seqIndex_of h0 h5] at h1
      exact Option.some.inj h1
    exact wpAny_getItem_list pl.isList h0 (by omega) (by rw [hj]; simpa using eu) fin
  · have hj : (k + (its.toArray.size : Int)).toNat = j := by
      rw [seqIndex_neg (by omega) h4] at h1
      rw [List.size_toArray, ← hl]
      exact Option.some.inj h1
    exact wpAny_getItem_list_neg (Q := fun r s' => EP X pins σ Q r s') pl.isList (by omega) (by rw [List.size_toArray] <;> omega) (by omega) (by rw [hj]; simpa using eu) fin

/-- repr of data, where no repr is under way -/
def rRepr (K : PySem.W.Frag) : List V → Hp → VK → Prop := fun vs H Q => ∃ x d, vs = [x] ∧ (∃ a, x = .ref a) ∧ Dp K H x d ∧ d.showable = true ∧ d.hasDict = false ∧ d.shown.length ≤ sizeLine ∧ d.depth ≤ 8 ∧ Q (.str d.shown) H
theorem call_reprD (hg : X.A.guards = some []) (hu : X.A.units + 64 < cLine) : CallR X (.builtin "repr") (rRepr X.K) := by
  intro pins s σ H vs us Q I r h
  obtain ⟨x, d, rfl, ⟨a, rfl⟩, hd, hs, hn, hz, hdep, q⟩ := h
  obtain ⟨u, rfl, ru⟩ := vals1 r
  cases ru
  obtain ⟨as, rd⟩ := Dp.reads I d _ _ hd rfl
  refine repr_of_reads' rd hs (fun z => by rw [hn] at z; cases z) hg (by omega) (fun _ _ e => e) (fun h' u tk hk => ?_) hz
  exact ⟨.str _, H, I.kept hk, ⟨_, rfl⟩, q⟩
def rReprB : List V → Hp → VK → Prop := fun vs H Q => ∃ b, vs = [.bl b] ∧ ∀ x, x = (PyData.bool b).shown → Q (.str x) H
theorem call_reprB : CallR X (.builtin "repr") rReprB := by
  intro pins s σ H vs us Q I r h
  obtain ⟨b, rfl, q⟩ := h
  obtain ⟨u, rfl, ru⟩ := vals1 r
  cases ru
  refine call_repr_gives (PySem.typeIs_bool s b) F.slot_bool_repr F.entry_bool_repr (F.args_bool_repr_1 _) (gives_bool_repr b) ⟨.str _, H, I.tok _, ⟨_, rfl⟩, q _ ?_⟩ (hx := by cases b <;> decide)
  cases b <;> rfl
/-- min, max of a tuple of two whole numbers -/
def rMinT (K : PySem.W.Frag) : List V → Hp → VK → Prop := fun vs H Q => ∃ a i j, vs = [.ref a] ∧ SqT K H a [.int i, .int j] ∧ Q (.int (min i j)) H
def rMaxT (K : PySem.W.Frag) : List V → Hp → VK → Prop := fun vs H Q => ∃ a i j, vs = [.ref a] ∧ SqT K H a [.int i, .int j] ∧ Q (.int (max i j)) H
theorem alike2 (i j : Int) : PySem.W.AlikeAll [.int i, .int j] := by
  refine ⟨fun x hx y hy => ?_, fun x hx => ?_⟩
  · simp at hx hy
    rcases hx with rfl | rfl <;> rcases hy with rfl | rfl <;> rfl
  · simp at hx
    rcases hx with rfl | rfl <;> exact fun z => nomatch z
theorem call_minT (hc : X.calm = true) (hu : X.A.units + 64 < cLine) : CallR X (.builtin "min") (rMinT X.K) := by
  intro pins s σ H vs us Q I r h
  obtain ⟨a, i, j, rfl, ht, q⟩ := h
  rw [Vals.ref1 r]
  obtain ⟨its, rv, hT, _⟩ := I.tuple ht
  obtain ⟨as, rd⟩ := Dp.readsAll I [.int i, .int j] _ its (.cons (.int i) (.cons (.int j) .nil)) rv
  refine PySem.W.min_tuple_data (I.ok.hd hc) (show s.heap.IsTuple a its.toArray from hT) (by simpa using rd) (alike2 i j) (by have : PyData.depthAll [PyData.int i, .int j] ≤ 8 := (by simp [PyData.depthAll, PyData.depth]); omega) fun k v h' tk bs hk rr hh => ?_
  rw [show PySem.W.minD (.int i) [.int j] = .int (min i j) from PySem.W.minD_ints i [j]] at rr
  cases rr
  exact ⟨.int _, H, I.kept hh, ⟨_, rfl⟩, q⟩
theorem call_maxT (hc : X.calm = true) (hu : X.A.units + 64 < cLine) : CallR X (.builtin "max") (rMaxT X.K) := by
  intro pins s σ H vs us Q I r h
  obtain ⟨a, i, j, rfl, ht, q⟩ := h
  rw [Vals.ref1 r]
  obtain ⟨its, rv, hT, _⟩ := I.tuple ht
  obtain ⟨as, rd⟩ := Dp.readsAll I [.int i, .int j] _ its (.cons (.int i) (.cons (.int j) .nil)) rv
  refine PySem.W.max_tuple_data (I.ok.hd hc) (show s.heap.IsTuple a its.toArray from hT) (by simpa using rd) (alike2 i j) (by have : PyData.depthAll [PyData.int i, .int j] ≤ 8 := (by simp [PyData.depthAll, PyData.depth]); omega) fun k v h' tk bs hk rr hh => ?_
  rw [show PySem.W.maxD (.int i) [.int j] = .int (max i j) from PySem.W.maxD_ints i [j]] at rr
  cases rr
  exact ⟨.int _, H, I.kept hh, ⟨_, rfl⟩, q⟩

/-- sum of a tuple of whole numbers -/
def rSumT (K : PySem.W.Frag) : List V → Hp → VK → Prop := fun vs H Q => ∃ (a : Addr) (ns : List Int), vs = [V.ref a] ∧ SqT K H a (ns.map V.int) ∧ Q (.int ns.sum) H
theorem call_sumT (hc : X.calm = true) : CallR X (.builtin "sum") (rSumT X.K) := by
  intro pins s σ H vs us Q I r h
  obtain ⟨a, ns, rfl, ht, q⟩ := h
  rw [Vals.ref1 r]
  obtain ⟨its, rv, hT, _⟩ := I.tuple ht
  have hi := rv.ints
  obtain ⟨xs, e⟩ := hi.allInts.items
  have hn : numsOf (intItems xs).toList = ns := by rw [← e]; exact hi.numsOf
  rw [nums_intItems] at hn
  rw [e] at hT
  have hT : s.heap.IsTuple a (intItems xs) := hT
  have hal : a < s.heap.objs.size := by obtain ⟨_, q, _⟩ := id hT; exact Heap.lt_size q
  refine call_sum_walkG (wpAny_pyIter_tuple hT ?_)
  refine ⟨_, _, _, _, _, _, numAt xs, rfl, Walks.tuple (A := X.A.in1) (I.ok.hd hc) _ a (Nat.ne_of_lt hal) (intItems xs), ⟨⟨_, Heap.get?_push_size _ rfl, rfl, rfl⟩, hT.push _⟩, fun b hb => ?_, fun _ _ => intItems_at, fun h' tk t' hk => ?_⟩
  · show b < (s.heap.push _).objs.size
    rw [Heap.size_push]
    rcases (by simpa using hb : b = s.heap.objs.size ∨ b = a) with z | z
    · rw [z]; exact Nat.lt_succ_self _
    · rw [z]; exact Nat.lt_succ_of_lt hal
  · have old : ∀ b o, s.heap.get? b = some o → h'.get? b = some o := fun b o hb => hk b o (by
      have := Heap.lt_size hb
      simp only [List.mem_singleton]
      exact Nat.ne_of_lt this) (Heap.get?_push_of_some _ hb)
    have hs : preSum (numAt xs) (intItems xs).size = ns.sum := by
      rw [preSum_eq, List.take_of_length_le (by simp [intItems]), hn]
    exact ⟨.int _, H, I.kept (h' := h') (t' := tk) old, ⟨t', rfl⟩, by rw [hs]; exact q⟩

/-! enumerate of a tuple -/
theorem enum_new_tup (t : Addr) (items : Array Value) (n : Nat) (dct : Option Addr) (sl : Array (Option Value)) :
    Meets (Builtin.«enumerate.__new__» ⟨[.type "enumerate", .ref t], []⟩) (fun _ R s => s.heap.get? t = some { cls := .type "tuple", dict := dct, data := .seq items n, slots := sl } ∧
      R (.ok (.ret (.ref (s.heap.push { cls := .type "tuple_iterator", data := .fields #[.ref t, .int 0 0] }).objs.size)))
        { s with heap := (s.heap.push { cls := .type "tuple_iterator", data := .fields #[.ref t, .int 0 0] }).push { cls := .type "enumerate", data := .fields #[.none, .bool false, .ref s.heap.objs.size, rawInt 0, .none, .none] } }) :=
  .of_wp fun prog w A R s h => by
    obtain ⟨hp, g, d, tk, os⟩ := s
    obtain ⟨ht, h⟩ := h
    have sub := sub_enumerate
    have hT : Heap.IsTuple (Shared.heap ⟨hp, g, d, tk, os⟩) t items := ⟨_, ht, rfl, n, rfl⟩
    wp_walk using AutoSeq1.wpAny_loadPart' ht
    refine wpAny_stack_any fun st => wpAny_pure ?_
    split
    · rename_i c _ _ _ _ _
      cases (c == Value.type "enumerate") <;>
      · wp_walk using AutoSeq1.wpAny_loadPart' ht, wpAny_pyIter_tuple hT
        exact ⟨_, rfl, h⟩
    · wp_walk using AutoSeq1.wpAny_loadPart' ht, wpAny_pyIter_tuple hT
      exact ⟨_, rfl, h⟩
theorem call_enum_tup {prog : Program} {w : World} {A : Around} {E : Value → Shared → Prop} {s : Shared} {t : Addr} {items : Array Value} {Q : Value → Shared → Prop} (hT : s.heap.IsTuple t items)
    (h : ∀ h', IsEnum h' (s.heap.objs.size + 1) s.heap.objs.size 0 .none → h'.IsTupleIter s.heap.objs.size t 0 →
      (∀ b o, s.heap.get? b = some o → h'.get? b = some o) → Q (.ref (s.heap.objs.size + 1)) { s with heap := h' }) :
    wpAny (model prog w) A (call (.type "enumerate") [.ref t]) Q E s := by
  obtain ⟨⟨c, dct, dt, sl⟩, ht, hc, n, hd⟩ := hT
  have hc : c = .type "tuple" := hc
  have hd : dt = .seq items n := hd
  subst hc hd
  refine callType_new F.called_enumerate (by decide) (F.typeCall_enumerate_1 _) (F.newCall_enumerate_1 _) (fun obj => F.args_object_init_2 obj _) F.entry_enumerate_new
    (enum_new_tup t items n dct sl) ⟨ht, ?_⟩
  have hz : (s.heap.push { cls := .type "tuple_iterator", data := .fields #[.ref t, .int 0 0] }).objs.size = s.heap.objs.size + 1 := Heap.size_push ..
  have e0 := Heap.get?_push_size (s.heap.push { cls := .type "tuple_iterator", data := .fields #[.ref t, .int 0 0] })
      (o := { cls := .type "enumerate", data := .fields #[.none, .bool false, .ref s.heap.objs.size, rawInt 0, .none, .none] }) rfl
  rw [hz] at e0
  show _ ∧ _
  rw [hz]
  exact ⟨⟨_, e0, rfl⟩, h _ e0 ⟨_, Heap.get?_push_of_some _ (Heap.get?_push_size _ rfl), rfl, rfl⟩ fun b o x => Heap.get?_push_of_some _ (Heap.get?_push_of_some _ x)⟩
/-- the tuple at a, its items in new pairs with their places -/
def Itet (K : PySem.W.Frag) (a : Addr) : It :=
  ⟨fun i H => ∃ (xs : List V) (x : V), SqT K H a xs ∧ xs[i]? = some x, fun i H v H' => ∃ T x, v = .ref T ∧ H T = none ∧ H' = upd H T (.tup [.int (i : Nat), x]) ∧ ∀ xs, SqT K H a xs → xs[i]? = some x, fun i H => ∃ xs : List V, SqT K H a xs ∧ xs.length = i⟩
def StE (a e it : Addr) (i : Nat) (h : Heap) : Prop := (∃ old, IsEnum h e it ((i : Nat) : Int) old) ∧ h.IsTupleIter it a i ∧ e ≠ it
theorem turn_enumT {P : Program} {w : World} {K : PySem.W.Frag} {elts : List Expr} {kk : Nat} {tpos : Pos} (a e it : Addr) (hae : a ≠ e) (hai : a ≠ it) :
    Turn P w K (.Tuple elts kk tpos) (Itet K a) [e, it] e (StE a e it) where
  mem := by simp
  obj := fun i h st b hb => by
    obtain ⟨⟨old, he⟩, ⟨o, ho, hc, hd⟩, _⟩ := st
    rcases (by simpa using hb : b = e ∨ b = it) with z | z
    · rw [z]; exact ⟨_, he, fun v q => nomatch q⟩
    · rw [z]; exact ⟨o, ho, fun v q => by rw [hd] at q; cases q⟩
  keep := fun i h h' st k => let ⟨⟨old, he⟩, hi, hne⟩ := st; ⟨⟨old, k e (by simp) _ he⟩, hi.at fun o q => k it (by simp) o q, hne⟩
  item := by
    intro X hP hw hK hc i pins s σ H E I hf st hg
    subst hP hw hK
    obtain ⟨⟨old, he⟩, hit, hne⟩ := st
    obtain ⟨xs, x, hq, hx⟩ := hg
    obtain ⟨its, rv, p, hz⟩ := I.tuple hq
    obtain ⟨u, hu, ru⟩ := rv.get hx
    have hT : s.heap.IsTuple a its.toArray := p
    have hel : e < s.heap.objs.size := Heap.lt_size he
    have hil : it < s.heap.objs.size := by obtain ⟨_, q, _⟩ := hit; exact Heap.lt_size q
    have D := Draws.tuple (prog := X.prog) (w := X.w) (A := X.A.in1) (I.ok.hd hc) it a hai its.toArray
    have hlt : i < its.toArray.size := by rw [List.size_toArray]; exact (List.getElem?_eq_some_iff.mp hu).1
    refine wpAny_pyNext_enum_itemD D he ⟨hit, hT⟩ hlt hne (by simp only [List.mem_cons, List.not_mem_nil, or_false]; exact fun z => z.elim hne fun z => hae z.symm) (fun y h' tk hy ho hit' hTn hsz hk => ?_)
    have ey : y = u := by
      have hy : its.toArray[i]? = some y := hy
      have : its[i]? = some y := by simpa using hy
      rw [hu] at this
      exact (Option.some.inj this).symm
    subst ey
    refine ⟨_, rfl, wpAny_letOwnedTupleGo_enum (s := { s with heap := h', toks := tk + 1 }) ho fun h'' he' sb => ?_⟩
    have hT2 : h''.get? s.heap.objs.size = some { cls := .type "tuple", data := .seq #[.int i tk, y] } := (sb.2 _ (Nat.ne_of_gt hel)).trans hTn
    have new : ObjOk X.prog X.w (upd H s.heap.objs.size (.tup [.int (i : Nat), x])) h'' s.heap.objs.size (.tup [.int (i : Nat), x]) :=
      ⟨by show 2 ≤ sizeLine; decide, [.int i tk, y], .cons ⟨_, rfl⟩ (.cons ru .nil), ⟨_, hT2, rfl, _, rfl⟩⟩
    have I1 : Inv X pins σ (upd H s.heap.objs.size (.tup [.int (i : Nat), x])) { s with heap := h'', toks := tk + 1 } :=
      I.turnedNew (ch := [e, it]) (fun b ob hb q => (sb.2 b (fun z => hb (by simp [z]))).trans (hk b ob (fun z => hb (by simp [z])) (fun z => hb (by simp [z])) q)) hf (Nat.le_refl _) new
    refine ⟨.ref s.heap.objs.size, _, I1, rfl, ⟨_, x, rfl, I.hok.fresh (Nat.le_refl _), rfl, fun ys hy => by rw [I.tuple_inj hy hq]; exact hx⟩, ⟨⟨y, ?_⟩, hit'.1.at fun o q => (sb.2 it (Ne.symm hne)).trans q, hne⟩, fun b hb => ?_⟩
    · rw [show ((i + 1 : Nat) : Int) = (i : Int) + 1 by omega]
      exact he'
    · have hb' : b < s.heap.objs.size := by
        rcases (by simpa using hb : b = e ∨ b = it) with z | z
        · exact z ▸ hel
        · exact z ▸ hil
      rw [upd_ne (Nat.ne_of_lt hb')]
      exact (hf b hb).1
  done := by
    intro X hP hw hK hc i pins s σ H E I hf st hg
    subst hP hw hK
    obtain ⟨⟨old, he⟩, hit, hne⟩ := st
    obtain ⟨xs, hq, hx⟩ := hg
    obtain ⟨its, rv, p, hz⟩ := I.tuple hq
    have hT : s.heap.IsTuple a its.toArray := p
    obtain ⟨f0, f1, f2, f3, f4, f5⟩ := hf it (by simp)
    have hl := rv.length
    have e0 : i = its.toArray.size := by rw [List.size_toArray, ← hl, hx]
    subst e0
    exact wpAny_pyNext_enum_endD (Draws.tuple (prog := X.prog) (w := X.w) (A := X.A.in1) (I.ok.hd hc) it a hai its.toArray) he ⟨hit, hT⟩ fun h' eb => ⟨rfl, I.turned (t' := s.toks) (fun b o hb q => eb b o hb q) f0 f1 f3 f4 f5⟩
  self := fun A i s Q E st h => let ⟨⟨_, he⟩, _⟩ := st; wpAny_pyIter_enum he h
def iEnumT (K : PySem.W.Frag) (ta : TA) : TI := fun σ H R => ta σ H fun vs H1 => ∃ a xs, vs = [.ref a] ∧ SqT K H1 a xs ∧ R (Itet K a) H1
theorem pi_enumT {e : Expr} {ta : TA} {p pos tpos : Pos} {elts : List Expr} {kk : Nat} (hg : Gl X "enumerate") (hm : X.mg "enumerate" = none) (ha : PA X [e] ta) (hs : starEach [e] X.env = [(false, eval e X.env)] := by rfl) :
    PI X (.Tuple elts kk tpos) (.Call (.Name "enumerate" p) [e] [] pos) (iEnumT X.K ta) := by
  refine ⟨fun pins s σ H R I h => ?_⟩
  refine Call_ (ld_blt I hg hm boot_enumerate (PyProof.Rows.callWith_type1 (thn (ha.run pos pins s σ H _ I h) fun us s1 ⟨vs, H1, I1, r1, q1⟩ => ?_) hs rfl))
  obtain ⟨a, xs, rfl, hq, q⟩ := q1
  cases r1 with
  | cons r rr =>
    cases rr
    cases r
    obtain ⟨its, rv, pt, hz⟩ := I1.tuple hq
    have hT : s1.heap.IsTuple a its.toArray := pt
    have hal : a < s1.heap.objs.size := by obtain ⟨_, q, _⟩ := id hT; exact Heap.lt_size q
    refine call_enum_tup hT fun h' he hit hk => wpAny_pyIter_enum he ?_
    have I2 : Inv X pins σ H1 { s1 with heap := h' } := I1.kept (t' := s1.toks) hk
    refine ⟨s1.heap.objs.size + 1, [s1.heap.objs.size + 1, s1.heap.objs.size], _, _, H1, rfl, I2, turn_enumT a (s1.heap.objs.size + 1) s1.heap.objs.size (Nat.ne_of_lt (Nat.lt_succ_of_lt hal)) (Nat.ne_of_lt hal), ⟨⟨.none, he⟩, hit, Nat.succ_ne_self _⟩, fun b hb => ?_, q⟩
    have hle : s1.heap.objs.size ≤ b := by
      rcases (by simpa using hb : b = s1.heap.objs.size + 1 ∨ b = s1.heap.objs.size) with z | z
      · rw [z]; exact Nat.le_add_right _ _
      · rw [z]; exact Nat.le_refl _
    exact I1.fpOk hle (I1.hok.fresh hle)
theorem walk_enumT {K : PySem.W.Frag} {a : Addr} {xs : List V} : Walk (Itet K a) xs.length (fun H => SqT K H a xs) (YPair (fun i => some (.int (i : Nat))) (fun i => xs[i]?)) := by
  refine ⟨fun i _ hi q => ⟨xs, xs[i], q, by simp [hi]⟩, fun _ q => ⟨xs, q, rfl⟩, fun i H v H' _ q y => ?_⟩
  obtain ⟨T, x, h1, h2, h3, h4⟩ := y
  exact ⟨T, .int (i : Nat), x, h1, h2, h3, rfl, h4 xs q⟩
end
end HR

/-! Promises of defs that are called where no repr is under way (guards = some []). -/
namespace HR
open PySem PySem.Spec PyProof.Rows L2
/-- as FnOk, for arounds without guards and defs that let no exception out -/
structure FnG (P : Program) (w : World) (K : PySem.W.Frag) (mg : Str → Option Value) (base : Heap) (k : Nat) (f : Addr) (fd : FuncData) (ps : List Str) (sp : Sp) : Prop where
  len : ∀ vs H Q E, sp vs H Q E → vs.length = ps.length
  run : ∀ (A : Around) (outer : List Env) (s : Shared) (H : Hp) (args : Args) (us : List Value) (vs : List V) (Q : VK), A.guards = some [] → Room k A → Env0 P w K mg base A outer s H → BindsTo s fd args (ps.zip us) → Vals vs us → sp vs H Q E0 →
    codeAny (model P w) A (.call (.ref f) args) (CR CX0 outer P w H s Q E0) s
section
variable {P : Program} {w : World} {K : PySem.W.Frag} {mg : Str → Option Value} {base : Heap}
theorem Fun.okG {x qual : Str} {st : Stmt} {f : Addr} {fd : FuncData} {N ps : List Str} {k : Nat} {sp : Sp} (F : Fun K x qual st f fd) (S : FnScope N ps (defScope st)) (len : ∀ vs H Q E, sp vs H Q E → vs.length = ps.length)
    (hbody : ∀ (cdv : Value) (A : Around) (outer : List Env) (s : Shared) (H : Hp) (vs : List V) (Q : VK) (E : XK), (A.deeper (envOfC qual (defScope st) s.heap.objs.size f cdv)).guards = some [] → Room k (A.deeper (envOfC qual (defScope st) s.heap.objs.size f cdv)) → sp vs H Q E →
      ∃ t, PSs (cxOf CX0 P w K mg base N qual (defScope st) f cdv A outer s H E).nox (defBody st) t ∧ t { nx := fun _ H' => Q .non H', rt := Q } (start N vs) H) : FnG P w K mg base (k + 1) f fd ps sp := by
  obtain ⟨oc, od, kV, doc, pm, an, cdv, ct, osl, rfl, lk, hcd⟩ := F.ex
  refine ⟨len, fun A outer s H args us vs Q hgd hr e0 hb r hsp => ?_⟩
  have KX : K.In s.heap := e0.mod.kin.keeps fun b o e => (e0.bs b o e).1
  have lim : s.heap.NoLimit := e0.mod.nolimit.keeps fun b o e => (e0.bs b o e).1
  have hl := len _ _ _ _ hsp
  have kinds : ∀ y ∈ ps.zip us, (defScope st).names.lookup y.1 = some .local ∨ ((defScope st).names.lookup y.1 = some .cell ∧ ((cellsFrom (s.heap.objs.size + 1) (defScope st).names []).lookup y.1).isSome = true) := by
    rintro ⟨n, v⟩ hy
    exact (S.par n (List.of_mem_zip hy).1).imp id fun q => ⟨q, PySem.W.cellsFrom_some _ _ _ (.inl q)⟩
  refine codeAny_call_function hr.depth (KX _ _ lk) rfl S.co S.gen rfl (PySem.W.codeRec_of KX hcd) (hb _ _ _ _ ?_)
  refine wpAny_newFunctionEnv_cells S.kind kinds fun env he s1 x => ?_
  subst he
  refine ⟨lim.keeps x.toInCall.keep, codeAny_func ?_⟩
  obtain ⟨t, ht, hq⟩ := hbody cdv A outer s H vs Q E0 hgd (hr.deeper _) hsp
  have I := inv_start (CX := CX0) (E := E0) S hr.hd e0 hl r x
  refine wpAny_mono (ht.nox.run [] s1 (start N vs) H _ I hq) (fun fl s' hs => ?_) fun e s' hs => hs
  cases fl with
  | ret u => obtain ⟨v, σ', H', J, rv, q⟩ := hs; exact ⟨v, H', J.os, J.bare, J.base, J.hok, rv, q⟩
  | next => obtain ⟨σ', H', J, q⟩ := hs; exact ⟨.non, H', J.os, J.bare, J.base, J.hok, rfl, q⟩
  | brk => obtain ⟨_, _, _, q⟩ := hs; exact q.elim
  | cont => obtain ⟨_, _, _, q⟩ := hs; exact q.elim
end
section
variable {X : Cx} {k : Nat} {f : Addr} {fd : FuncData} {ps : List Str} {sp : Sp} {x : Str} {p pos : Pos} {e : Expr} {es : List Expr} {t : TA}
theorem pe_callG (F : FnG X.prog X.w X.K X.mg X.base k f fd ps sp) (hgd : X.A.guards = some []) (hr : Room k X.A) (hg : Gl X x) (hm : X.mg x = some (.ref f)) (hk : PySem.W.keepIn X.K (.ref f) = true) (hb : Binds X.K fd ps [])
    (ha : PA X (e :: es) t) (hdb : (x == ("__debug__" : Str)) = false := by decide) (he : starEach (e :: es) X.env = (false, eval e X.env) :: starEach es X.env := by rfl) (hpl : (backTo pos (starEach es X.env)).any (·.1) = false := by rfl) :
    PE X (.Call (.Name x p) (e :: es) [] pos) (tCall sp [] E0 t) := by
  refine ⟨fun pins s σ H Q I h => wpAny_Call_Name_kw (ld_glob I hg hm ?_ hdb)⟩
  refine PySem.W.callWith_K (h₀ := X.base) I.ok.mod.kin hk (thn (ha.run pos pins s σ H _ I h) fun us s1 ⟨vs, H1, I1, r, q⟩ => ⟨I1.kIn, ?_⟩) he hpl
  have q : sp (vs ++ []) H1 Q E0 := q
  rw [List.append_nil] at q
  have hl : (us ++ []).length = ps.length := by rw [List.append_nil, ← r.length]; exact F.len _ _ _ _ q
  have b0 := hb s1 us I1.kIn hl
  rw [List.append_nil] at b0
  refine wpAny_call (codeAny_mono (F.run X.A X.stack s1 H1 ⟨us, []⟩ us vs Q hgd hr I1.env0 b0 r q) fun r s' hq => ?_)
  cases r with
  | error e => exact hq.elim
  | ok fl =>
    cases fl with
    | ret u => exact I1.after hq
    | next => exact hq.elim
    | brk => exact hq.elim
    | cont => exact hq.elim
end
/-- the script of a law, tracked (if it is no object of the module's own) -/
def scr (K : PySem.W.Frag) (a : Addr) (vs : List Value) (ns : List Int) : Hp := fun b =>
  if b = a ∧ K.lookup a = none then some (.frz { cls := .type "list", data := .seq vs.toArray } (.lst (ns.map V.int))) else none
theorem scr_some {K : PySem.W.Frag} {a b : Addr} {vs : List Value} {ns : List Int} {u : HO} (h : scr K a vs ns b = some u) : b = a ∧ K.lookup a = none ∧ u = .frz { cls := .type "list", data := .seq vs.toArray } (.lst (ns.map V.int)) := by
  unfold scr at h
  split at h
  · rename_i q
    cases h
    exact ⟨q.1, q.2, rfl⟩
  · cases h
theorem law_callG {P : Program} {w : World} {K : PySem.W.Frag} {mg mb : Str → Option Value} {k : Nat} {fa a : Addr} {fd : FuncData} {x : Str} {sp : Sp} {s : Shared} {vs : List Value} {ns : List Int}
    (KX : K.In s.heap) (hns : s.heap.Ns mainGlobals mg) (hb : s.heap.Ns builtinsNs mb) (hbb : ∀ x : Str, x ≠ "__name__" → mb x = bootBuiltins x) (hlim : s.heap.NoLimit) (hg : s.gens = #[])
    (ha : s.heap.get? a = some { cls := .type "list", data := .seq vs.toArray }) (hi : IntsAre vs ns) (hl : ns.length ≤ sizeLine) (hr : Room k callerA)
    (F : ∀ base : Heap, K.In base → base.Ns mainGlobals mg → FnG P w K mg base k fa fd [x] sp) (hbind : ∀ (s : Shared) (u : Value), BindsTo s fd ⟨[u], []⟩ [(x, u)])
    (hsp : ∀ H : Hp, SqL K H a (ns.map V.int) → sp [.ref a] H (fun v _ => v = .bl true) E0) :
    codeAny (model P w) callerA (.call (.ref fa) ⟨[.ref a], []⟩) (fun r s' => r = .ok (.ret (.bool true)) ∧ OldK s.heap s'.heap ∧ s'.os = s.os ∧ AllBare s'.gens) s := by
  have rv := vals_ints hi
  have lenV := hi.length
  generalize hH : scr K a vs ns = H
  have some_ : ∀ {b u}, H b = some u → b = a ∧ K.lookup a = none ∧ u = .frz { cls := .type "list", data := .seq vs.toArray } (.lst (ns.map V.int)) := fun {b u} e => scr_some (hH ▸ e)
  have none_ : ∀ {b : Addr} {o : Obj}, s.heap.get? b = some o → (∀ es ep, o.data = .dict es ep → H b = none) := fun {b o} e es ep d => by
    cases q : H b with
    | none => rfl
    | some u =>
      rw [(some_ q).1, ha] at e
      cases e
      cases (show Data.seq vs.toArray _ = Data.dict es ep from d)
  have ok : HOk P w H s.heap := fun b u e => by
    obtain ⟨rfl, _, rfl⟩ := some_ e
    exact ⟨ha, by rw [List.length_map]; exact hl, vs, _, rv, ha⟩
  have hS : SqL K H a (ns.map V.int) := by
    cases hk : K.lookup a with
    | some o =>
      have e := KX a o hk
      rw [ha] at e
      cases e
      exact .inr ⟨_, vs.toArray, _, hk, rfl, rfl, rfl, by rw [List.size_toArray, lenV]; exact hl, by simpa using rv⟩
    | none =>
      refine .inl (.inr ⟨{ cls := .type "list", data := .seq vs.toArray }, ?_⟩)
      rw [← hH]
      exact if_pos ⟨rfl, hk⟩
  have nsK : ∀ {b : Addr} {m : Str → Option Value}, s.heap.Ns b m → (hidT s.heap H).Ns b m := fun {b m} ⟨o, es, ep, e, d, r⟩ => ⟨o, es, ep, hidT_get e (none_ e es ep d), d, r⟩
  have hKb : K.In (hidT s.heap H) := fun b o e => hidT_get (KX b o e) (by
    cases q : H b with
    | none => rfl
    | some u =>
      obtain ⟨rfl, z, _⟩ := some_ q
      rw [z] at e
      cases e)
  have hM : Mod K mg (hidT s.heap H) := ⟨hKb, nsK hns, ⟨mb, nsK hb, hbb⟩, let ⟨mc, h1, h2⟩ := hlim; ⟨mc, nsK h1, h2⟩⟩
  have e0 : Env0 P w K mg (hidT s.heap H) callerA [] s H := ⟨rfl, hM, fun b o e => of_hidT e, Nat.le_of_eq (hidT_size _ _), trivial, fun b hb => absurd (show b ∈ ([] : List Addr) from hb) (by simp), ok, .of_eq hg⟩
  refine codeAny_mono ((F _ hKb (nsK hns)).run callerA [] s H ⟨[.ref a], []⟩ [.ref a] [.ref a] _ rfl hr e0 (hbind s (.ref a)) (.cons rfl .nil) (hsp H hS)) fun r s' h => ?_
  cases r with
  | error e => exact h.elim
  | ok fl =>
    cases fl with
    | next => exact h.elim
    | brk => exact h.elim
    | cont => exact h.elim
    | ret u =>
      obtain ⟨v, H', os, bare, un, hok', r', q⟩ := h
      obtain rfl : v = .bl true := q
      obtain rfl : u = Value.bool true := r'
      refine ⟨rfl, OldK.of_keep fun b o e => ?_, os, bare⟩
      cases q : H b with
      | none => exact un.keep b o e q (by intro z; exact absurd (show b ∈ ([] : List Addr) from z) (by simp)) (by simp)
      | some u =>
        obtain ⟨rfl, _, rfl⟩ := some_ q
        obtain ⟨e2, _⟩ := hok' b _ (un.frzs b _ _ q)
        rw [ha] at e
        cases e
        exact e2
theorem walk_ofG {l : PySem.W.OpenLaw} {n k : Nat} {q : Program} {loose : List Str} {XP : (Str → Option Value) → Heap → Prop} {YP : World → Heap → Prop} {d : DefRec} {K : Params → PySem.W.Frag} {sp : PySem.W.Frag → Sp} {x : Str}
    (hn : l.most = some n) (hn2 : n ≤ sizeLine) (hdf : d.params.defaults = []) (hr : Room k callerA)
    (hY : ∀ (w : World) (h : Heap), YP w h → (K w.params).In h)
    (F : ∀ (w : World) (mg : Str → Option Value) (fa : Addr) (h : Heap), (K w.params).In h → h.Ns mainGlobals mg → mg d.name = some (.ref fa) →
      ∃ fd : FuncData, (∀ (s : Shared) (u : Value), BindsTo s fd ⟨[u], []⟩ [(x, u)]) ∧
        ∀ base : Heap, (K w.params).In base → base.Ns mainGlobals mg → FnG l.prog w (K w.params) mg base k fa fd [x] (sp (K w.params)))
    (hsp : ∀ (K : PySem.W.Frag) (H : Hp) (a : Addr) (ns : List Int), ns.length ≤ n → SqL K H a (ns.map V.int) → sp K [.ref a] H (fun v _ => v = .bl true) E0) :
    PySem.W.WalkO q loose XP YP l.row.toRowW d [] (fun f vs => PySem.call f vs) := by
  refine Att.attach_call hn hdf fun w s₀ s₁ mg mb fa o pm cd doc a vs ns G Y ho hd hcd hmg hobj hints hlen hg => ?_
  have KX := hY w _ Y
  obtain ⟨fd, hb, hF⟩ := F w mg fa _ KX G.T.g hmg
  exact law_callG KX G.T.g G.T.b G.T.builtins G.T.nolimit hg hobj hints (Nat.le_trans hlen hn2) hr hF hb fun H hS => hsp _ H a ns hlen hS
end HR

/-! Data over two heaps: p.1 what is known as data (never changed), p.2 the heap as it stands. -/
namespace HR
open PySem PySem.Spec PyProof.Rows L2
open Evl (Ex)
mutual
inductive Da (D : Hp) : V → PyData → Prop
  | non : Da D .non .none
  | bl (b : Bool) : Da D (.bl b) (.bool b)
  | int (i : Int) : Da D (.int i) (.int i)
  | lst {a : Addr} {xs : List V} {ds : List PyData} : D a = some (.lst xs) → DaAll D xs ds → Da D (.ref a) (.list ds)
  | tup {a : Addr} {xs : List V} {ds : List PyData} : D a = some (.tup xs) → DaAll D xs ds → Da D (.ref a) (.tuple ds)
inductive DaAll (D : Hp) : List V → List PyData → Prop
  | nil : DaAll D [] []
  | cons {v : V} {vs : List V} {d : PyData} {ds : List PyData} : Da D v d → DaAll D vs ds → DaAll D (v :: vs) (d :: ds)
end
mutual
theorem Da.mono {D D' : Hp} (e : Ex D D') : ∀ (d : PyData) (v : V), Da D v d → Da D' v d
  | .none, _, h => by cases h; exact .non
  | .bool b, _, h => by cases h; exact .bl b
  | .int i, _, h => by cases h; exact .int i
  | .str x, _, h => by cases h
  | .list ds, _, h => by
    cases h with
    | lst h1 h2 => exact .lst (e _ _ h1) (DaAll.mono e ds _ h2)
  | .tuple ds, _, h => by
    cases h with
    | tup h1 h2 => exact .tup (e _ _ h1) (DaAll.mono e ds _ h2)
  | .dict _, _, h => by cases h
theorem DaAll.mono {D D' : Hp} (e : Ex D D') : ∀ (ds : List PyData) (vs : List V), DaAll D vs ds → DaAll D' vs ds
  | [], _, h => by cases h; exact .nil
  | d :: ds, _, h => by
    cases h with
    | cons h1 h2 => exact .cons (Da.mono e d _ h1) (DaAll.mono e ds _ h2)
end
mutual
theorem Da.dp {K : PySem.W.Frag} {D H : Hp} (e : Ex D H) : ∀ (d : PyData) (v : V), Da D v d → Dp K H v d
  | .none, _, h => by cases h; exact .non
  | .bool b, _, h => by cases h; exact .bl b
  | .int i, _, h => by cases h; exact .int i
  | .str x, _, h => by cases h
  | .list ds, _, h => by
    cases h with
    | lst h1 h2 => exact .lst (.of (e _ _ h1)) (DaAll.dp e ds _ h2)
  | .tuple ds, _, h => by
    cases h with
    | tup h1 h2 => exact .tup (.of (e _ _ h1)) (DaAll.dp e ds _ h2)
  | .dict _, _, h => by cases h
theorem DaAll.dp {K : PySem.W.Frag} {D H : Hp} (e : Ex D H) : ∀ (ds : List PyData) (vs : List V), DaAll D vs ds → DpAll K H vs ds
  | [], _, h => by cases h; exact .nil
  | d :: ds, _, h => by
    cases h with
    | cons h1 h2 => exact .cons (Da.dp e d _ h1) (DaAll.dp e ds _ h2)
end
section
variable {D D' : Hp}
theorem Da.up {v : V} {d : PyData} (h : Da D v d) (e : Ex D D') : Da D' v d := Da.mono e d v h
theorem DaAll.up {v : List V} {d : List PyData} (h : DaAll D v d) (e : Ex D D') : DaAll D' v d := DaAll.mono e d v h
theorem DaAll.length : ∀ {vs : List V} {ds : List PyData}, DaAll D vs ds → vs.length = ds.length
  | _, _, .nil => rfl
  | _, _, .cons _ t => by rw [List.length_cons, List.length_cons, DaAll.length t]
theorem DaAll.get : ∀ {vs : List V} {ds : List PyData} {i : Nat} {d : PyData}, DaAll D vs ds → ds[i]? = some d → ∃ v, vs[i]? = some v ∧ Da D v d
  | _, _, _, _, .nil, e => by simp at e
  | _, _, 0, _, .cons r _, e => by simp at e; subst e; exact ⟨_, rfl, r⟩
  | _, _, i + 1, x, .cons _ t, e => by
    obtain ⟨u, h1, h2⟩ := DaAll.get (i := i) (d := x) t (by simpa using e)
    exact ⟨u, by simpa using h1, h2⟩
theorem DaAll.getV : ∀ {vs : List V} {ds : List PyData} {i : Nat} {v : V}, DaAll D vs ds → vs[i]? = some v → ∃ d, ds[i]? = some d ∧ Da D v d
  | _, _, _, _, .nil, e => by simp at e
  | _, _, 0, _, .cons r _, e => by simp at e; subst e; exact ⟨_, rfl, r⟩
  | _, _, i + 1, x, .cons _ t, e => by
    obtain ⟨u, h1, h2⟩ := DaAll.getV (i := i) (v := x) t (by simpa using e)
    exact ⟨u, by simpa using h1, h2⟩
theorem DaAll.append : ∀ {vs ws : List V} {ds es : List PyData}, DaAll D vs ds → DaAll D ws es → DaAll D (vs ++ ws) (ds ++ es)
  | _, _, _, _, .nil, s => s
  | _, _, _, _, .cons r t, s => .cons r (DaAll.append t s)
theorem DaAll.one {v : V} {d : PyData} (h : Da D v d) : DaAll D [v] [d] := .cons h .nil
theorem DaAll.rep {vs : List V} {ds : List PyData} (h : DaAll D vs ds) : ∀ n : Nat, DaAll D (List.replicate n vs).flatten (List.replicate n ds).flatten
  | 0 => .nil
  | n + 1 => by
    rw [List.replicate_succ, List.flatten_cons, List.replicate_succ, List.flatten_cons]
    exact h.append (DaAll.rep h n)
theorem DaAll.set {v : V} {d : PyData} (r : Da D v d) : ∀ {vs : List V} {ds : List PyData} (i : Nat), DaAll D vs ds → DaAll D (vs.set i v) (ds.set i d)
  | _, _, _, .nil => .nil
  | _, _, 0, .cons _ t => .cons r t
  | _, _, i + 1, .cons q t => .cons q (DaAll.set r i t)
theorem DaAll.take : ∀ {vs : List V} {ds : List PyData} (n : Nat), DaAll D vs ds → DaAll D (vs.take n) (ds.take n)
  | _, _, 0, _ => .nil
  | _, _, _ + 1, .nil => .nil
  | _, _, n + 1, .cons r t => .cons r (DaAll.take n t)
theorem DaAll.drop : ∀ {vs : List V} {ds : List PyData} (n : Nat), DaAll D vs ds → DaAll D (vs.drop n) (ds.drop n)
  | _, _, 0, r => r
  | _, _, _ + 1, .nil => .nil
  | _, _, n + 1, .cons _ t => DaAll.drop n t
theorem DaAll.ints : ∀ {ns : List Int} {vs : List V}, DaAll D vs (ns.map PyData.int) → vs = ns.map V.int
  | [], _, h => by cases h; rfl
  | n :: ns, _, h => by
    cases h with
    | cons h1 h2 =>
      cases h1
      rw [DaAll.ints h2]; rfl
theorem DaAll.ofInts : ∀ (ns : List Int), DaAll D (ns.map V.int) (ns.map PyData.int)
  | [] => .nil
  | n :: ns => .cons (.int n) (DaAll.ofInts ns)
theorem DaAll.bools : ∀ {ns : List Bool} {vs : List V}, DaAll D vs (ns.map PyData.bool) → vs = ns.map V.bl
  | [], _, h => by cases h; rfl
  | n :: ns, _, h => by
    cases h with
    | cons h1 h2 =>
      cases h1
      rw [DaAll.bools h2]; rfl
/-- an optional number -/
def eO : Option Int → PyData
  | none => .none
  | some a => .int a
def vO : Option Int → V
  | none => .non
  | some a => .int a
theorem Da.opt {v : V} {o : Option Int} (h : Da D v (eO o)) : v = vO o := by
  cases o with
  | none => cases h; rfl
  | some a => cases h; rfl
theorem Da.ofOpt (o : Option Int) : Da D (vO o) (eO o) := by
  cases o with
  | none => exact .non
  | some a => exact .int a
theorem DaAll.opts : ∀ {os : List (Option Int)} {vs : List V}, DaAll D vs (os.map eO) → vs = os.map vO
  | [], _, h => by cases h; rfl
  | n :: ns, _, h => by
    cases h with
    | cons h1 h2 =>
      rw [h1.opt, DaAll.opts h2]; rfl
theorem DaAll.ofOpts : ∀ (os : List (Option Int)), DaAll D (os.map vO) (os.map eO)
  | [] => .nil
  | o :: os => .cons (.ofOpt o) (DaAll.ofOpts os)
end

/-! two heaps -/
abbrev Two := Hp × Hp
def Ok (p : Two) : Prop := Ex p.1 p.2
structure Le (p q : Two) : Prop where
  d : Ex p.1 q.1
  h : Ex p.2 q.2
  s : Ex q.1 q.2
  f : ∀ a, p.1 a = none → p.2 a ≠ none → q.1 a = none
theorem ex_free {H H' : Hp} {a : Addr} (e : Ex H H') (h : H' a = none) : H a = none := Evl.fresh_back e h
theorem Le.refl {p : Two} (ok : Ok p) : Le p p := ⟨Ex.refl _, Ex.refl _, ok, fun _ h _ => h⟩
theorem Le.trans {p q r : Two} (a : Le p q) (b : Le q r) : Le p r := ⟨a.d.trans b.d, a.h.trans b.h, b.s, fun x h1 h2 => b.f x (a.f x h1 h2) (by
  cases e : p.2 x with
  | none => exact absurd e h2
  | some o => rw [a.h x o e]; exact fun z => nomatch z)⟩
theorem Le.ok {p q : Two} (a : Le p q) : Ok q := a.s
/-- a mutable object stays apart from the data -/
theorem Le.keep {p q : Two} (a : Le p q) {x : Addr} {o : HO} (h1 : p.1 x = none) (h2 : p.2 x = some o) : q.1 x = none ∧ q.2 x = some o :=
  ⟨a.f x h1 (by rw [h2]; exact fun z => nomatch z), a.h x o h2⟩
theorem ex_upd {H H' : Hp} {a : Addr} {o : HO} (e : Ex H H') (h : H a = none) : Ex H (upd H' a o) := Evl.Ex.mut e h
theorem ex_upd2 {H H' : Hp} {a : Addr} {o : HO} (e : Ex H H') : Ex (upd H a o) (upd H' a o) := fun b u hb => by
  unfold upd at hb ⊢
  split
  · rename_i q; rw [if_pos q] at hb; exact hb
  · rename_i q; rw [if_neg q] at hb; exact e b u hb
/-- a new object of data -/
theorem Le.new {p : Two} (ok : Ok p) {a : Addr} {o : HO} (h : p.2 a = none) : Le p (upd p.1 a o, upd p.2 a o) :=
  ⟨Evl.Ex.new (ex_free ok h), Evl.Ex.new h, ex_upd2 ok, fun x h1 h2 => by
    show upd p.1 a o x = none
    rw [upd_ne (fun e : x = a => h2 (by rw [e]; exact h))]
    exact h1⟩
/-- a new object that may change -/
theorem Le.newM {p : Two} (ok : Ok p) {a : Addr} {o : HO} (h : p.2 a = none) : Le p (p.1, upd p.2 a o) :=
  ⟨Ex.refl _, Evl.Ex.new h, ex_upd ok (ex_free ok h), fun _ h1 _ => h1⟩
/-- what the entry p did not know may change .. -/
theorem Le.mut {p q : Two} (l : Le p q) {a : Addr} {o : HO} (h : p.2 a = none) (h1 : q.1 a = none) : Le p (q.1, upd q.2 a o) :=
  ⟨l.d, ex_upd l.h h, ex_upd l.s h1, l.f⟩
/-- .. and becomes data -/
theorem Le.frz {p q : Two} (l : Le p q) {a : Addr} {o : HO} (h : p.2 a = none) (h1 : q.1 a = none) (h2 : q.2 a = some o) : Le p (upd q.1 a o, q.2) :=
  ⟨l.d.trans (Evl.Ex.new h1), l.h, fun b u hb => by
    have hb : upd q.1 a o b = some u := hb
    by_cases e : b = a
    · subst e; rw [upd_same] at hb; cases hb; exact h2
    · rw [upd_ne e] at hb; exact l.s b u hb, fun x hx1 hx2 => by
    show upd q.1 a o x = none
    rw [upd_ne (fun e : x = a => hx2 (by rw [e]; exact h))]
    exact l.f x hx1 hx2⟩
theorem Da.new {D : Hp} {a : Addr} {xs : List V} {ds : List PyData} (h : D a = none) (hd : DaAll D xs ds) : Da (upd D a (.lst xs)) (.ref a) (.list ds) := .lst upd_same (hd.up (Evl.Ex.new h))
theorem Da.newT {D : Hp} {a : Addr} {xs : List V} {ds : List PyData} (h : D a = none) (hd : DaAll D xs ds) : Da (upd D a (.tup xs)) (.ref a) (.tuple ds) := .tup upd_same (hd.up (Evl.Ex.new h))

/-! what evaluates to what -/
def EvD (te : TE) (σ : L2.St) (p : Two) (d : PyData) : Prop := ∀ q, Le p q → ∀ Q : VK, (∀ v r, Le q r → Da r.1 v d → Q v r.2) → te σ q.2 Q
def EvB (tt : TT) (σ : L2.St) (p : Two) (b : Bool) : Prop := ∀ q, Le p q → ∀ Q : Bool → Hp → Prop, (∀ r, Le q r → Q b r.2) → tt σ q.2 Q
def EvA (ta : TA) (σ : L2.St) (p : Two) (ds : List PyData) : Prop := ∀ q, Le p q → ∀ Q : List V → Hp → Prop, (∀ vs r, Le q r → DaAll r.1 vs ds → Q vs r.2) → ta σ q.2 Q
/-- a new list that may change -/
def EvN (te : TE) (σ : L2.St) (p : Two) (ds : List PyData) : Prop := ∀ q, Le p q → ∀ Q : VK, (∀ l vs r, Le q r → q.2 l = none → r.1 l = none → r.2 l = some (.lst vs) → DaAll r.1 vs ds → Q (.ref l) r.2) → te σ q.2 Q
/-- by values -/
def RD (r : R2) (x y : V) (p : Two) (d : PyData) : Prop := ∀ Q : VK, (∀ z q, Le p q → Da q.1 z d → Q z q.2) → r x y p.2 Q
def RCD (r : List V → Hp → VK → Prop) (vs : List V) (p : Two) (d : PyData) : Prop := ∀ Q : VK, (∀ z q, Le p q → Da q.1 z d → Q z q.2) → r vs p.2 Q
section
variable {K : PySem.W.Frag} {σ : L2.St} {p p' : Two} {ta tb te tx : TE} {t u : TT} {v : V} {r : R2} {d e : PyData} {ds es : List PyData} {i j : Int} {b c : Bool}
theorem EvD.up (h : EvD te σ p d) (l : Le p p') : EvD te σ p' d := fun q a => h q (l.trans a)
theorem EvB.up (h : EvB t σ p b) (l : Le p p') : EvB t σ p' b := fun q a => h q (l.trans a)
theorem EvA.up {ta : TA} (h : EvA ta σ p ds) (l : Le p p') : EvA ta σ p' ds := fun q a => h q (l.trans a)
theorem EvN.up (h : EvN te σ p ds) (l : Le p p') : EvN te σ p' ds := fun q a => h q (l.trans a)
theorem EvD.is (h : EvD te σ p d) (x : d = e) : EvD te σ p e := x ▸ h
theorem EvB.is (h : EvB t σ p b) (x : b = c) : EvB t σ p c := x ▸ h
theorem EvN.is (h : EvN te σ p ds) (x : ds = es) : EvN te σ p es := x ▸ h
theorem EvN.toD (h : EvN te σ p ds) : EvD te σ p (.list ds) := fun q a Q k => h q a Q fun l vs r lr h0 h1 h2 h3 => k _ (upd r.1 l (.lst vs), r.2) (lr.frz h0 h1 h2) (.new h1 h3)
theorem ev_var {i : Nat} (h : σ[i]? = some (some v)) (hd : Da p.1 v d) : EvD (tVar i) σ p d := fun q a Q k => ⟨v, h, k v q (.refl a.ok) (hd.up a.d)⟩
theorem ev_int : EvD (tC (.int i)) σ p (.int i) := fun q a Q k => k _ q (.refl a.ok) (.int i)
theorem ev_bl : EvD (tC (.bl b)) σ p (.bool b) := fun q a Q k => k _ q (.refl a.ok) (.bl b)
theorem ev_non : EvD (tC .non) σ p .none := fun q a Q k => k _ q (.refl a.ok) .non
theorem ev_op (ha : EvD ta σ p d) (hb : EvD tb σ p e) {f : PyData} (hr : ∀ x y q, Le p q → Da q.1 x d → Da q.1 y e → RD r x y q f) : EvD (tOp r ta tb) σ p f := fun q a Q k =>
  ha q a _ fun x r1 l1 hx => hb r1 (a.trans l1) _ fun y r2 l2 hy => hr x y r2 ((a.trans l1).trans l2) (hx.up l2.d) hy Q fun z r3 l3 hz => k z r3 ((l1.trans l2).trans l3) hz
theorem RD.mk {x y z : V} (ok : Ok p) (hz : Da p.1 z d) (h : ∀ Q : VK, Q z p.2 → r x y p.2 Q) : RD r x y p d := fun Q k => h Q (k z p (.refl ok) hz)
theorem ev_I0 {g : Int → Int → V} (ha : EvD ta σ p (.int i)) (hb : EvD tb σ p (.int j)) (hg : ∀ D, Da D (g i j) d) : EvD (tOp (rI0 g) ta tb) σ p d := ev_op ha hb fun x y q l hx hy => by
  cases hx; cases hy
  exact RD.mk l.ok (hg _) fun Q k => ⟨i, j, rfl, rfl, k⟩
theorem ev_I {C : Int → Int → Prop} {g : Int → Int → V} (ha : EvD ta σ p (.int i)) (hb : EvD tb σ p (.int j)) (hc : C i j) (hg : ∀ D, Da D (g i j) d) : EvD (tOp (rI C g) ta tb) σ p d := ev_op ha hb fun x y q l hx hy => by
  cases hx; cases hy
  exact RD.mk l.ok (hg _) fun Q k => ⟨i, j, rfl, rfl, hc, k⟩
theorem ev_add (ha : EvD ta σ p (.int i)) (hb : EvD tb σ p (.int j)) : EvD (tOp (rI0 fun i j => .int (i + j)) ta tb) σ p (.int (i + j)) := ev_I0 ha hb fun _ => .int _
theorem ev_sub (ha : EvD ta σ p (.int i)) (hb : EvD tb σ p (.int j)) : EvD (tOp (rI0 fun i j => .int (i - j)) ta tb) σ p (.int (i - j)) := ev_I0 ha hb fun _ => .int _
theorem ev_mul (ha : EvD ta σ p (.int i)) (hb : EvD tb σ p (.int j)) (h : CMul i j) : EvD (tOp (rI CMul fun i j => .int (i * j)) ta tb) σ p (.int (i * j)) := ev_I ha hb h fun _ => .int _
theorem ev_mod (ha : EvD ta σ p (.int i)) (hb : EvD tb σ p (.int j)) (h : 0 < j) : EvD (tOp (rI (fun _ j => 0 < j) fun i j => .int (i % j)) ta tb) σ p (.int (i % j)) := ev_I ha hb h fun _ => .int _
theorem ev_lt (ha : EvD ta σ p (.int i)) (hb : EvD tb σ p (.int j)) : EvD (tOp (rI0 fun i j => .bl (decide (i < j))) ta tb) σ p (.bool (decide (i < j))) := ev_I0 ha hb fun _ => .bl _
theorem ev_gt (ha : EvD ta σ p (.int i)) (hb : EvD tb σ p (.int j)) : EvD (tOp (rI0 fun i j => .bl (decide (j < i))) ta tb) σ p (.bool (decide (j < i))) := ev_I0 ha hb fun _ => .bl _
theorem ev_ge (ha : EvD ta σ p (.int i)) (hb : EvD tb σ p (.int j)) : EvD (tOp (rI0 fun i j => .bl (decide (j ≤ i))) ta tb) σ p (.bool (decide (j ≤ i))) := ev_I0 ha hb fun _ => .bl _
theorem ev_eqI (ha : EvD ta σ p (.int i)) (hb : EvD tb σ p (.int j)) : EvD (tOp rEq ta tb) σ p (.bool (decide (i = j))) := ev_op ha hb fun x y q l hx hy => by
  cases hx; cases hy
  refine RD.mk l.ok (z := .bl (decide (V.int i = V.int j))) ?_ fun Q k => ⟨rfl, k⟩
  rw [dec_int]
  have : (i == j) = decide (i = j) := by by_cases h : i = j <;> simp [h]
  rw [this]; exact .bl _
theorem ev_neI (ha : EvD ta σ p (.int i)) (hb : EvD tb σ p (.int j)) : EvD (tOp rNe ta tb) σ p (.bool (!decide (i = j))) := ev_op ha hb fun x y q l hx hy => by
  cases hx; cases hy
  refine RD.mk l.ok (z := .bl (!decide (V.int i = V.int j))) ?_ fun Q k => ⟨rfl, k⟩
  rw [dec_int]
  have : (i == j) = decide (i = j) := by by_cases h : i = j <;> simp [h]
  rw [this]; exact .bl _
abbrev rIsN : R2 := fun x y H Q => y = .non ∧ Q (.bl (decide (x = .non))) H
abbrev rNotN : R2 := fun x y H Q => y = .non ∧ Q (.bl (!decide (x = .non))) H
theorem vO_non (o : Option Int) : decide (vO o = V.non) = o.isNone := by cases o <;> rfl
theorem ev_isN {o : Option Int} (ha : EvD ta σ p (eO o)) : EvD (tOp rIsN ta (tC .non)) σ p (.bool o.isNone) := ev_op ha ev_non fun x y q l hx hy => by
  cases hy
  rw [hx.opt]
  refine RD.mk l.ok (z := .bl (decide (vO o = .non))) ?_ fun Q k => ⟨rfl, k⟩
  rw [vO_non]; exact .bl _
theorem ev_notN {o : Option Int} (ha : EvD ta σ p (eO o)) : EvD (tOp rNotN ta (tC .non)) σ p (.bool o.isSome) := ev_op ha ev_non fun x y q l hx hy => by
  cases hy
  rw [hx.opt]
  refine RD.mk l.ok (z := .bl (!decide (vO o = .non))) ?_ fun Q k => ⟨rfl, k⟩
  rw [vO_non]; cases o <;> exact .bl _
theorem at_nat {ds : List PyData} {D : Hp} {xs : List V} {n : Nat} (h : DaAll D xs ds) (hd : ds[n]? = some d) : ∃ v, atI xs (n : Int) = some v ∧ Da D v d := by
  obtain ⟨v, h1, h2⟩ := h.get hd
  exact ⟨v, atI_nat h1, h2⟩
theorem ev_ixT {n : Nat} (ha : EvD ta σ p (.tuple ds)) (hb : EvD tb σ p (.int (n : Int))) (hd : ds[n]? = some d) : EvD (tOp (rIxT K) ta tb) σ p d := ev_op ha hb fun x y q l hx hy => by
  cases hy
  cases hx with
  | tup h1 h2 =>
    obtain ⟨v, h3, h4⟩ := at_nat h2 hd
    exact RD.mk l.ok h4 fun Q k => ⟨_, _, _, v, rfl, rfl, .of (l.s _ _ h1), h3, k⟩
theorem ev_ixL {n : Nat} (ha : EvD ta σ p (.list ds)) (hb : EvD tb σ p (.int (n : Int))) (hd : ds[n]? = some d) : EvD (tOp (rIxL K) ta tb) σ p d := ev_op ha hb fun x y q l hx hy => by
  cases hy
  cases hx with
  | lst h1 h2 =>
    obtain ⟨v, h3, h4⟩ := at_nat h2 hd
    exact RD.mk l.ok h4 fun Q k => ⟨_, _, _, v, rfl, rfl, .of (l.s _ _ h1), h3, k⟩
/-- an item of a list that may change, at a known address -/
theorem ev_ixM {a : Addr} {xs : List V} {n : Nat} (ha : ∀ q, Le p q → ∀ Q : VK, Q (.ref a) q.2 → ta σ q.2 Q) (h : p.2 a = some (.lst xs)) (hb : EvD tb σ p (.int (n : Int))) (hx : xs[n]? = some v) (hd : ∀ D, Da D v d) : EvD (tOp (rIxL K) ta tb) σ p d := fun q l Q k =>
  ha q l _ (hb q l _ fun y r lr hy => by
    cases hy
    exact ⟨a, xs, _, v, rfl, rfl, .of (lr.h _ _ (l.h _ _ h)), atI_nat hx, k v r lr (hd _)⟩)
theorem ev_eqD (ha : EvD ta σ p d) (hb : EvD tb σ p e) (hd : SeqAt.shaped d = true) (he : SeqAt.shaped e = true) : EvD (tOp (rEqD K) ta tb) σ p (.bool (PyData.eqv d e)) := ev_op ha hb fun x y q l hx hy =>
  RD.mk l.ok (z := .bl (PyData.eqv d e)) (.bl _) fun Q k => ⟨d, e, hx.dp l.s, hy.dp l.s, hd, he, k⟩
theorem ev_neD (ha : EvD ta σ p d) (hb : EvD tb σ p e) (hd : SeqAt.shaped d = true) (he : SeqAt.shaped e = true) : EvD (tOp (rNeD K) ta tb) σ p (.bool (!PyData.eqv d e)) := ev_op ha hb fun x y q l hx hy =>
  RD.mk l.ok (z := .bl (!PyData.eqv d e)) (.bl _) fun Q k => ⟨d, e, hx.dp l.s, hy.dp l.s, hd, he, k⟩
theorem flat_int (ns : List Int) : (ns.map V.int).all flatV = true := by
  rw [List.all_eq_true]
  intro x hx
  obtain ⟨n, _, rfl⟩ := List.mem_map.mp hx
  rfl
theorem inV_int (n : Int) : ∀ (ns : List Int), inV (.int n) (ns.map V.int) = decide (n ∈ ns) := by
  intro ns
  unfold inV
  induction ns with
  | nil => rfl
  | cons m ms ih =>
    rw [List.map_cons, List.any_cons, ih]
    have : eqV (.int m) (.int n) = (m == n) := rfl
    rw [this]
    by_cases h : m = n
    · subst h; simp
    · have h' : ¬ n = m := fun q => h q.symm
      simp [h, h']
theorem ev_niT {ns : List Int} (ha : EvD ta σ p (.int i)) (hb : EvD tb σ p (.tuple (ns.map .int))) : EvD (tOp (rIn K true) ta tb) σ p (.bool (!decide (i ∈ ns))) := ev_op ha hb fun x y q l hx hy => by
  cases hx
  cases hy with
  | tup h1 h2 =>
    rw [h2.ints] at h1
    refine RD.mk l.ok (z := .bl (!inV (.int i) (ns.map V.int))) ?_ fun Q k => ⟨_, _, rfl, .inr (.of (l.s _ _ h1)), rfl, flat_int ns, k⟩
    rw [inV_int]; exact .bl _
/-- xs + ys of lists: a new list -/
theorem en_cat (ha : EvD ta σ p (.list ds)) (hb : EvD tb σ p (.list es)) (hz : ds.length + es.length ≤ 100000) : EvN (tOp rCat ta tb) σ p (ds ++ es) := fun q a Q k =>
  ha q a _ fun x r1 l1 hx => hb r1 (a.trans l1) _ fun y r2 l2 hy => by
    cases hx with
    | lst h1 h2 =>
      cases hy with
      | lst h3 h4 =>
        refine ⟨_, _, _, _, rfl, rfl, l2.h _ _ (l1.s _ _ h1), l2.s _ _ h3, ?_, fun z hz => ?_⟩
        · rw [h2.length, h4.length]; exact Evl.sz_of hz
        · have l12 := l1.trans l2
          exact k z _ (r2.1, upd r2.2 z (.lst _)) (l12.trans (.newM l2.ok hz)) (ex_free l12.h hz) (ex_free l2.s hz) upd_same ((h2.up l2.d).append h4)
/-- xs + ys of tuples -/
theorem ev_catT (ha : EvD ta σ p (.tuple ds)) (hb : EvD tb σ p (.tuple es)) (hz : ds.length + es.length ≤ 100000) : EvD (tOp (rCatA K) ta tb) σ p (.tuple (ds ++ es)) := ev_op ha hb fun x y q l hx hy => by
  cases hx with
  | tup h1 h2 =>
    cases hy with
    | tup h3 h4 =>
      refine fun Q k => ⟨_, _, _, _, rfl, rfl, .of (l.s _ _ h1), .of (l.s _ _ h3), by rw [h2.length, h4.length]; exact Evl.sz_of hz, fun e => ?_, fun _ e => ?_, fun _ _ z hz => ?_⟩
      · subst e
        cases h2
        exact k _ q (.refl l.ok) (.tup h3 h4)
      · subst e
        cases h4
        rw [List.append_nil] at k
        exact k _ q (.refl l.ok) (.tup h1 h2)
      · exact k _ _ (.new l.ok hz) (.newT (ex_free l.s hz) (h2.append h4))
/-- [x] * n -/
theorem en_rep {n : Nat} (ha : EvN ta σ p ds) (hb : EvD tb σ p (.int (n : Int))) (hz : n ≤ 100000) (hd : ds.length ≤ 1) : EvN (tOp rRep ta tb) σ p (List.replicate n ds).flatten := fun q a Q k =>
  ha q a _ fun l vs r1 l1 h0 h1 h2 h3 => hb r1 (a.trans l1) _ fun y r2 l2 hy => by
    cases hy
    have hl := h3.length
    refine ⟨l, (n : Int), vs, rfl, rfl, l2.h _ _ h2, by omega, by omega, ?_, fun z hz => ?_⟩
    · show vs.length * ((n : Int)).toNat ≤ sizeLine
      rw [Int.toNat_natCast]
      have : vs.length * n ≤ 1 * n := Nat.mul_le_mul_right n (by omega)
      exact Evl.sz_of (by omega)
    · have l12 := l1.trans l2
      rw [Int.toNat_natCast]
      refine k z _ (r2.1, upd r2.2 z (.lst _)) (l12.trans (.newM l2.ok hz)) (ex_free l12.h hz) (ex_free l2.s hz) upd_same ?_
      exact DaAll.rep (h3.up l2.d) n
/-! tests -/
theorem et_D (h : EvD te σ p (.bool b)) : EvB (tTest te) σ p b := fun q a Q k => h q a _ fun v r l hv => by
  cases hv
  exact ⟨b, rfl, k r l⟩
theorem et_B (h : EvD te σ p (.bool b)) : EvB (tB te) σ p b := fun q a Q k => h q a _ fun v r l hv => by
  cases hv
  exact ⟨b, rfl, k r l⟩
theorem et_and {a b : Bool} (h1 : EvB t σ p a) (h2 : a = true → EvB u σ p b) : EvB (tAnd t u) σ p (a && b) := fun q l Q k => h1 q l _ fun r l1 => by
  cases a with
  | true => exact h2 rfl r (l.trans l1) Q fun r2 l2 => k r2 (l1.trans l2)
  | false => exact k r l1
theorem et_or {a b : Bool} (h1 : EvB t σ p a) (h2 : a = false → EvB u σ p b) : EvB (tOr t u) σ p (a || b) := fun q l Q k => h1 q l _ fun r l1 => by
  cases a with
  | true => exact k r l1
  | false => exact h2 rfl r (l.trans l1) Q fun r2 l2 => k r2 (l1.trans l2)
theorem et_not {a : Bool} (h1 : EvB t σ p a) : EvB (tNot t) σ p (!a) := fun q l Q k => h1 q l _ fun r l1 => k r l1
theorem et_yes : EvB tYes σ p true := fun q l Q k => k q (.refl l.ok)
theorem ev_andV {a b : Bool} (h1 : EvD ta σ p (.bool a)) (h2 : a = true → EvD tb σ p (.bool b)) : EvD (tAndV ta tb) σ p (.bool (a && b)) := fun q l Q k => h1 q l _ fun v r l1 hv => by
  cases hv
  refine ⟨a, rfl, ?_⟩
  cases a with
  | true => exact h2 rfl r (l.trans l1) Q fun v r2 l2 => k v r2 (l1.trans l2)
  | false => exact k _ r l1 (.bl _)
theorem ev_orV {a b : Bool} (h1 : EvD ta σ p (.bool a)) (h2 : a = false → EvD tb σ p (.bool b)) : EvD (tOrV ta tb) σ p (.bool (a || b)) := fun q l Q k => h1 q l _ fun v r l1 hv => by
  cases hv
  refine ⟨a, rfl, ?_⟩
  cases a with
  | true => exact k _ r l1 (.bl _)
  | false => exact h2 rfl r (l.trans l1) Q fun v r2 l2 => k v r2 (l1.trans l2)
theorem ev_notV {a : Bool} (h1 : EvD ta σ p (.bool a)) : EvD (tNotV ta) σ p (.bool (!a)) := fun q l Q k => h1 q l _ fun v r l1 hv => by
  cases hv
  exact ⟨a, rfl, k _ r l1 (.bl _)⟩
theorem ev_if (h : EvB t σ p b) (h1 : b = true → EvD ta σ p d) (h2 : b = false → EvD tb σ p d) : EvD (tIf t ta tb) σ p d := fun q l Q k => h q l _ fun r l1 => by
  cases b with
  | true => exact h1 rfl r (l.trans l1) Q fun v r2 l2 => k v r2 (l1.trans l2)
  | false => exact h2 rfl r (l.trans l1) Q fun v r2 l2 => k v r2 (l1.trans l2)
/-! arguments, displays, calls -/
theorem ea_nil : EvA tNil σ p [] := fun q l Q k => k _ q (.refl l.ok) .nil
theorem ea_cons {tr : TA} (h : EvD ta σ p d) (hr : EvA tr σ p ds) : EvA (tCons ta tr) σ p (d :: ds) := fun q l Q k =>
  h q l _ fun v r1 l1 hv => hr r1 (l.trans l1) _ fun vs r2 l2 hvs => k _ r2 (l1.trans l2) (.cons (hv.up l2.d) hvs)
theorem ev_tup {ta : TA} (h : EvA ta σ p ds) (hz : ds.length ≤ 100000 := by simp) : EvD (tTup ta) σ p (.tuple ds) := fun q l Q k =>
  h q l _ fun vs r1 l1 hv => ⟨by rw [hv.length]; exact Evl.sz_of hz, fun z hz => k _ (_, upd r1.2 z (.tup vs)) (l1.trans (.new l1.ok hz)) (.newT (ex_free l1.s hz) hv)⟩
theorem en_lst {ta : TA} (h : EvA ta σ p ds) (hz : ds.length ≤ 100000 := by simp) : EvN (tLst ta) σ p ds := fun q l Q k =>
  h q l _ fun vs r1 l1 hv => ⟨by rw [hv.length]; exact Evl.sz_of hz, fun z hz => k z vs (r1.1, upd r1.2 z (.lst vs)) (l1.trans (.newM l1.ok hz)) (ex_free l1.h hz) (ex_free l1.s hz) upd_same hv⟩
theorem ev_cb {ta : TA} {f : List V → Hp → VK → Prop} (h : EvA ta σ p ds) (hr : ∀ vs q, Le p q → DaAll q.1 vs ds → RCD f vs q d) : EvD (tCB f ta) σ p d := fun q l Q k =>
  h q l _ fun vs r1 l1 hv => hr vs r1 (l.trans l1) hv Q fun z r2 l2 hz => k z r2 (l1.trans l2) hz
theorem RCD.mk {f : List V → Hp → VK → Prop} {vs : List V} {z : V} (ok : Ok p) (hz : Da p.1 z d) (h : ∀ Q : VK, Q z p.2 → f vs p.2 Q) : RCD f vs p d := fun Q k => h Q (k z p (.refl ok) hz)
abbrev rLen (K : PySem.W.Frag) : List V → Hp → VK → Prop := fun xs H Q => ∃ a ys, xs = [.ref a] ∧ (SqL K H a ys ∨ SqT K H a ys) ∧ Q (.int ys.length) H
theorem ev_lenT (h : EvD te σ p (.tuple ds)) : EvD (tCB (rLen K) (tCons te tNil)) σ p (.int (ds.length : Int)) := ev_cb (ea_cons h ea_nil) fun vs q l hv => by
  cases hv with
  | cons h1 h2 =>
    cases h2
    cases h1 with
    | tup h3 h4 => exact RCD.mk l.ok (z := .int (ds.length : Int)) (.int _) fun Q k => ⟨_, _, rfl, .inr (.of (l.s _ _ h3)), by rw [h4.length]; exact k⟩
theorem ev_lenL (h : EvD te σ p (.list ds)) : EvD (tCB (rLen K) (tCons te tNil)) σ p (.int (ds.length : Int)) := ev_cb (ea_cons h ea_nil) fun vs q l hv => by
  cases hv with
  | cons h1 h2 =>
    cases h2
    cases h1 with
    | lst h3 h4 => exact RCD.mk l.ok (z := .int (ds.length : Int)) (.int _) fun Q k => ⟨_, _, rfl, .inl (.of (l.s _ _ h3)), by rw [h4.length]; exact k⟩
theorem ev_sum {ns : List Int} (h : EvD te σ p (.list (ns.map .int))) : EvD (tCB (rSum K) (tCons te tNil)) σ p (.int ns.sum) := ev_cb (ea_cons h ea_nil) fun vs q l hv => by
  cases hv with
  | cons h1 h2 =>
    cases h2
    cases h1 with
    | lst h3 h4 =>
      rw [h4.ints] at h3
      exact RCD.mk l.ok (.int _) fun Q k => ⟨_, ns, rfl, .of (l.s _ _ h3), k⟩
theorem ev_sumT {ns : List Int} (h : EvD te σ p (.tuple (ns.map .int))) : EvD (tCB (rSumT K) (tCons te tNil)) σ p (.int ns.sum) := ev_cb (ea_cons h ea_nil) fun vs q l hv => by
  cases hv with
  | cons h1 h2 =>
    cases h2
    cases h1 with
    | tup h3 h4 =>
      rw [h4.ints] at h3
      exact RCD.mk l.ok (.int _) fun Q k => ⟨_, ns, rfl, .of (l.s _ _ h3), k⟩
theorem ev_all {bs : List Bool} (h : EvD te σ p (.list (bs.map .bool))) : EvD (tCB (rAll K) (tCons te tNil)) σ p (.bool (bs.all id)) := ev_cb (ea_cons h ea_nil) fun vs q l hv => by
  cases hv with
  | cons h1 h2 =>
    cases h2
    cases h1 with
    | lst h3 h4 =>
      rw [h4.bools] at h3
      exact RCD.mk l.ok (.bl _) fun Q k => ⟨_, bs, rfl, .of (l.s _ _ h3), k⟩
/-- the greatest, the least of some numbers -/
def IsMx (ns : List Int) (m : Int) : Prop := m ∈ ns ∧ ∀ y ∈ ns, y ≤ m
def IsMn (ns : List Int) (m : Int) : Prop := m ∈ ns ∧ ∀ y ∈ ns, m ≤ y
theorem ev_max {ns : List Int} {m : Int} (h : EvD te σ p (.list (ns.map .int))) (hm : IsMx ns m) : EvD (tCB (rMax K) (tCons te tNil)) σ p (.int m) := ev_cb (ea_cons h ea_nil) fun vs q l hv => by
  cases hv with
  | cons h1 h2 =>
    cases h2
    cases h1 with
    | lst h3 h4 =>
      rw [h4.ints] at h3
      refine RCD.mk l.ok (.int _) fun Q k => ⟨_, ns, rfl, .of (l.s _ _ h3), List.length_pos_of_mem hm.1, fun m' h5 h6 => ?_⟩
      have e1 := h6 m hm.1
      have e2 := hm.2 m' h5
      have e3 : m' = m := by omega
      rw [e3]; exact k
theorem ev_min {ns : List Int} {m : Int} (h : EvD te σ p (.list (ns.map .int))) (hm : IsMn ns m) : EvD (tCB (rMin K) (tCons te tNil)) σ p (.int m) := ev_cb (ea_cons h ea_nil) fun vs q l hv => by
  cases hv with
  | cons h1 h2 =>
    cases h2
    cases h1 with
    | lst h3 h4 =>
      rw [h4.ints] at h3
      refine RCD.mk l.ok (.int _) fun Q k => ⟨_, ns, rfl, .of (l.s _ _ h3), List.length_pos_of_mem hm.1, fun m' h5 h6 => ?_⟩
      have e1 := h6 m hm.1
      have e2 := hm.2 m' h5
      have e3 : m' = m := by omega
      rw [e3]; exact k
abbrev rTupOf (K : PySem.W.Frag) : List V → Hp → VK → Prop := fun xs H Q => ∃ a ys, xs = [.ref a] ∧ ((SqL K H a ys ∧ ∀ l, H l = none → Q (.ref l) (upd H l (.tup ys))) ∨ (SqT K H a ys ∧ Q (.ref a) H))
theorem ev_tupL (h : EvD te σ p (.list ds)) : EvD (tCB (rTupOf K) (tCons te tNil)) σ p (.tuple ds) := ev_cb (ea_cons h ea_nil) fun vs q l hv => by
  cases hv with
  | cons h1 h2 =>
    cases h2
    cases h1 with
    | lst h3 h4 => exact fun Q k => ⟨_, _, rfl, .inl ⟨.of (l.s _ _ h3), fun z hz => k _ (_, upd q.2 z (.tup _)) (.new l.ok hz) (.newT (ex_free l.s hz) h4)⟩⟩
abbrev rLstOf (K : PySem.W.Frag) : List V → Hp → VK → Prop := fun xs H Q => ∃ a ys, xs = [.ref a] ∧ (SqL K H a ys ∨ SqT K H a ys) ∧ ∀ l, H l = none → Q (.ref l) (upd H l (.lst ys))
theorem en_lstT (h : EvD te σ p (.tuple ds)) : EvN (tCB (rLstOf K) (tCons te tNil)) σ p ds := fun q l Q k => h q l _ fun v r l1 hv => by
  cases hv with
  | tup h3 h4 => exact ⟨_, _, rfl, .inr (.of (l1.s _ _ h3)), fun z hz => k z _ (r.1, upd r.2 z (.lst _)) (l1.trans (.newM l1.ok hz)) (ex_free l1.h hz) (ex_free l1.s hz) upd_same h4⟩
theorem en_lstL (h : EvD te σ p (.list ds)) : EvN (tCB (rLstOf K) (tCons te tNil)) σ p ds := fun q l Q k => h q l _ fun v r l1 hv => by
  cases hv with
  | lst h3 h4 => exact ⟨_, _, rfl, .inl (.of (l1.s _ _ h3)), fun z hz => k z _ (r.1, upd r.2 z (.lst _)) (l1.trans (.newM l1.ok hz)) (ex_free l1.h hz) (ex_free l1.s hz) upd_same h4⟩
abbrev rMx2 : List V → Hp → VK → Prop := fun xs H Q => ∃ i j, xs = [.int i, .int j] ∧ Q (.int (if j > i then j else i)) H
abbrev rMn2 : List V → Hp → VK → Prop := fun xs H Q => ∃ i j, xs = [.int i, .int j] ∧ Q (.int (if j < i then j else i)) H
theorem ev_max2 (ha : EvD ta σ p (.int i)) (hb : EvD tb σ p (.int j)) : EvD (tCB rMx2 (tCons ta (tCons tb tNil))) σ p (.int (max i j)) := ev_cb (ea_cons ha (ea_cons hb ea_nil)) fun vs q l hv => by
  cases hv with
  | cons h1 h2 =>
    cases h2 with
    | cons h3 h4 =>
      cases h1; cases h3; cases h4
      have e : (if j > i then j else i) = max i j := by split <;> omega
      exact RCD.mk l.ok (.int (max i j)) fun Q k => ⟨i, j, rfl, by rw [e]; exact k⟩
theorem ev_min2 (ha : EvD ta σ p (.int i)) (hb : EvD tb σ p (.int j)) : EvD (tCB rMn2 (tCons ta (tCons tb tNil))) σ p (.int (min i j)) := ev_cb (ea_cons ha (ea_cons hb ea_nil)) fun vs q l hv => by
  cases hv with
  | cons h1 h2 =>
    cases h2 with
    | cons h3 h4 =>
      cases h1; cases h3; cases h4
      have e : (if j < i then j else i) = min i j := by split <;> omega
      exact RCD.mk l.ok (.int (min i j)) fun Q k => ⟨i, j, rfl, by rw [e]; exact k⟩
theorem ev_minP (h : EvD te σ p (.tuple [.int i, .int j])) : EvD (tCB (rMinT K) (tCons te tNil)) σ p (.int (min i j)) := ev_cb (ea_cons h ea_nil) fun vs q l hv => by
  cases hv with
  | cons h1 h2 =>
    cases h2
    cases h1 with
    | tup h3 h4 =>
      rw [DaAll.ints (ns := [i, j]) h4] at h3
      exact RCD.mk l.ok (.int _) fun Q k => ⟨_, i, j, rfl, .of (l.s _ _ h3), k⟩
theorem ev_maxP (h : EvD te σ p (.tuple [.int i, .int j])) : EvD (tCB (rMaxT K) (tCons te tNil)) σ p (.int (max i j)) := ev_cb (ea_cons h ea_nil) fun vs q l hv => by
  cases hv with
  | cons h1 h2 =>
    cases h2
    cases h1 with
    | tup h3 h4 =>
      rw [DaAll.ints (ns := [i, j]) h4] at h3
      exact RCD.mk l.ok (.int _) fun Q k => ⟨_, i, j, rfl, .of (l.s _ _ h3), k⟩
end
end HR

namespace HR
open PySem PySem.Spec PyProof.Rows L2
open Evl (Ex)
/-! ### what is walked -/
structure Kp (r q : Two) : Prop where
  e : Ex r.1 q.1
  s : Ex q.1 q.2
theorem Kp.of {r q : Two} (l : Le r q) : Kp r q := ⟨l.d, l.s⟩
theorem Kp.trans {p r q : Two} (a : Kp p r) (b : Kp r q) : Kp p q := ⟨a.e.trans b.e, b.s⟩
structure WalkD (J : It) (r : Two) (ds : List PyData) : Prop where
  goes : ∀ i q, i < ds.length → Kp r q → J.go i q.2
  stops : ∀ q, Kp r q → J.stop ds.length q.2
  yields : ∀ i q x H', i < ds.length → Kp r q → J.yld i q.2 x H' → ∃ D', Le q (D', H') ∧ ∃ d, ds[i]? = some d ∧ Da D' x d
def EvI (wi : TI) (σ : L2.St) (p : Two) (ds : List PyData) : Prop := ∀ q, Le p q → ∀ R : It → Hp → Prop, (∀ J r, Le q r → WalkD J r ds → R J r.2) → wi σ q.2 R
section
variable {K : PySem.W.Frag} {σ : L2.St} {p p' q r : Two} {ta tb te tx tl : TE} {t u tt : TT} {v : V} {d e : PyData} {ds es : List PyData} {i j : Int} {b c : Bool}
theorem walkD_list {a : Addr} {xs : List V} (h : r.1 a = some (.lst xs)) (hd : DaAll r.1 xs ds) : WalkD (Itl K a) r ds where
  goes := fun i q hi l => ⟨xs, xs[i]'(by rw [hd.length]; exact hi), .of (l.s _ _ (l.e _ _ h)), by simp [hd.length, hi]⟩
  stops := fun q l => ⟨xs, .of (l.s _ _ (l.e _ _ h)), by rw [hd.length]; exact Nat.le_refl _⟩
  yields := fun i q x H' hi l y => by
    obtain ⟨rfl, y⟩ := y
    obtain ⟨d, h1, h2⟩ := hd.getV (y xs (.of (l.s _ _ (l.e _ _ h))))
    exact ⟨q.1, .refl l.s, d, h1, h2.up l.e⟩
theorem walkD_tup {a : Addr} {xs : List V} (h : r.1 a = some (.tup xs)) (hd : DaAll r.1 xs ds) : WalkD (Itt K a) r ds where
  goes := fun i q hi l => ⟨xs, xs[i]'(by rw [hd.length]; exact hi), .of (l.s _ _ (l.e _ _ h)), by simp [hd.length, hi]⟩
  stops := fun q l => ⟨xs, .of (l.s _ _ (l.e _ _ h)), by rw [hd.length]; exact Nat.le_refl _⟩
  yields := fun i q x H' hi l y => by
    obtain ⟨rfl, y⟩ := y
    obtain ⟨d, h1, h2⟩ := hd.getV (y xs (.of (l.s _ _ (l.e _ _ h))))
    exact ⟨q.1, .refl l.s, d, h1, h2.up l.e⟩
/-- places and items -/
def enumD (ds : List PyData) : List PyData := ds.zipIdx.map fun x => .tuple [.int (x.2 : Int), x.1]
theorem enumD_len (ds : List PyData) : (enumD ds).length = ds.length := by unfold enumD; rw [List.length_map, List.length_zipIdx]
theorem enumD_get {ds : List PyData} {i : Nat} {d : PyData} (h : ds[i]? = some d) : (enumD ds)[i]? = some (.tuple [.int (i : Int), d]) := by
  unfold enumD
  rw [List.getElem?_map, List.getElem?_zipIdx, h]
  simp
theorem walkD_enumT {a : Addr} {xs : List V} (h : r.1 a = some (.tup xs)) (hd : DaAll r.1 xs ds) : WalkD (Itet K a) r (enumD ds) where
  goes := fun i q hi l => by
    rw [enumD_len] at hi
    exact ⟨xs, xs[i]'(by rw [hd.length]; exact hi), .of (l.s _ _ (l.e _ _ h)), by simp [hd.length, hi]⟩
  stops := fun q l => ⟨xs, .of (l.s _ _ (l.e _ _ h)), by rw [hd.length, enumD_len]⟩
  yields := fun i q x H' hi l y => by
    obtain ⟨T, z, rfl, hT, rfl, y⟩ := y
    obtain ⟨d, h1, h2⟩ := hd.getV (y xs (.of (l.s _ _ (l.e _ _ h))))
    exact ⟨_, .new l.s hT, _, enumD_get h1, .newT (ex_free l.s hT) (.cons (.int _) (.cons (h2.up l.e) .nil))⟩
def rngD (n : Nat) : List PyData := (List.range n).map fun i : Nat => .int (i : Int)
theorem walkD_rng {n : Nat} : WalkD (Itr 0 n) r (rngD n) where
  goes := fun i q hi l => by unfold rngD at hi; rw [List.length_map, List.length_range] at hi; exact hi
  stops := fun q l => by unfold rngD; rw [List.length_map, List.length_range]; exact Nat.le_refl _
  yields := fun i q x H' hi l y => by
    obtain ⟨rfl, rfl⟩ := y
    unfold rngD at hi ⊢
    rw [List.length_map, List.length_range] at hi
    rw [Int.zero_add]
    exact ⟨q.1, .refl l.s, .int (i : Int), by rw [List.getElem?_map, List.getElem?_range hi]; rfl, .int _⟩
theorem ei_list (h : EvD tl σ p (.list ds)) : EvI (iList K tl) σ p ds := fun q l R k => h q l _ fun v r l1 hv => by
  cases hv with
  | lst h1 h2 => exact ⟨_, rfl, ⟨_, .of (l1.s _ _ h1)⟩, k _ r l1 (walkD_list h1 h2)⟩
theorem ei_tup (h : EvD tl σ p (.tuple ds)) : EvI (iTup K tl) σ p ds := fun q l R k => h q l _ fun v r l1 hv => by
  cases hv with
  | tup h1 h2 => exact ⟨_, rfl, ⟨_, .of (l1.s _ _ h1)⟩, k _ r l1 (walkD_tup h1 h2)⟩
theorem ei_enumT (h : EvD tl σ p (.tuple ds)) : EvI (iEnumT K (tCons tl tNil)) σ p (enumD ds) := fun q l R k => h q l _ fun v r l1 hv => by
  cases hv with
  | tup h1 h2 => exact ⟨_, _, rfl, .of (l1.s _ _ h1), k _ r l1 (walkD_enumT h1 h2)⟩
theorem ei_rng1 {n : Nat} (h : EvD tl σ p (.int (n : Int))) (hn : n ≤ 100000) : EvI (iRng1 (tCons tl tNil)) σ p (rngD n) := fun q l R k => h q l _ fun v r l1 hv => by
  cases hv
  exact ⟨_, rfl, by omega, by omega, by rw [Int.toNat_natCast]; exact k _ r l1 walkD_rng⟩
theorem EvI.up {wi : TI} (h : EvI wi σ p ds) (l : Le p p') : EvI wi σ p' ds := fun q a => h q (l.trans a)
theorem EvI.is {wi : TI} (h : EvI wi σ p ds) (x : ds = es) : EvI wi σ p es := x ▸ h

/-! ### comprehensions -/
structure LcI {α : Type} (p : Two) (L : Addr) (as : List α) (f : α → Bool) (e : α → PyData) (r : Two) (i : Nat) (q : Two) : Prop where
  l : Le p q
  k : Le r q
  d : q.1 L = none
  x : ∃ vs, q.2 L = some (.lst vs) ∧ DaAll q.1 vs (((as.take i).filter f).map e)
theorem take_snoc {α : Type} {as : List α} {i : Nat} {a : α} (h : as[i]? = some a) : as.take (i + 1) = as.take i ++ [a] := by
  rw [List.take_add_one, h]; rfl
/-- Le of what the entry did not know: r's own new list may change -/
theorem en_lc {α : Type} {wi : TI} {g : TG} {vs : List Nat} (as : List α) (enc : α → PyData) (f : α → Bool) (e : α → PyData) (hi : EvI wi σ p (as.map enc))
    (hb : ∀ a, a ∈ as → ∀ x q, Le p q → Da q.1 x (enc a) → ∀ Q2 : L2.St → Hp → Prop, (∀ σ2, wipe σ2 vs = wipe σ vs → EvB tt σ2 q (f a) → (f a = true → EvD te σ2 q (e a)) → Q2 σ2 q.2) → g x (wipe σ vs) q.2 Q2)
    (hz : as.length ≤ 50000 := by simp) : EvN (tLc wi g tt te vs) σ p ((as.filter f).map e) := fun q l Q k => hi q l _ fun J r l1 W => fun L hL => by
  have hL1 : r.1 L = none := ex_free l1.s hL
  have hq2 : q.2 L = none := ex_free l1.h hL
  -- the state ahead of the comprehension, and the data's part of what it has made so far
  let I : Nat → Hp → Prop := fun i H => ∃ z : Two, z.2 = H ∧ Le q z ∧ Kp r z ∧ (∀ a, r.1 a = none → r.2 a ≠ none → z.1 a = none) ∧ Ex r.2 z.2 ∧ z.1 L = none ∧ ∃ vs, z.2 L = some (.lst vs) ∧ DaAll z.1 vs (((as.take i).filter f).map e)
  refine ⟨fun i m H => m = as.length - i ∧ i ≤ as.length ∧ I i H, ⟨_, rfl, Nat.zero_le _, (r.1, upd r.2 L (.lst [])), rfl, ?_, ⟨Ex.refl _, ex_upd l1.s hL1⟩, fun _ h _ => h, Evl.Ex.new hL, hL1, [], upd_same, ?_⟩, ?_⟩
  · exact l1.mut hq2 hL1
  · rw [List.take_zero]; exact .nil
  · rintro i m H ⟨rfl, hle, z, rfl, lz, kz, fz, xz, dz, ys, h1, h2⟩
    by_cases hlt : i < as.length
    · refine .inr ⟨W.goes i z (by rw [List.length_map]; exact hlt) kz, I (i + 1), fun H' h' => ⟨_, by omega, rfl, hlt, h'⟩, fun x H' y => ?_⟩
      obtain ⟨D', ly, dd, hd, hx⟩ := W.yields i z x H' (by rw [List.length_map]; exact hlt) kz y
      have ha : as[i]? = some as[i] := by simp [hlt]
      rw [List.getElem?_map, ha] at hd
      have hd : enc as[i] = dd := Option.some.inj hd
      subst hd
      have lz2 : Le q (D', H') := lz.trans ly
      have keepL := ly.keep dz h1
      have pl : Le p (D', H') := l.trans lz2
      have hts : (as.take (i + 1)).filter f = (as.take i).filter f ++ (if f as[i] = true then [as[i]] else []) := by
        rw [take_snoc ha, List.filter_append, List.filter_cons]; rfl
      refine hb as[i] (List.getElem_mem _) x (D', H') pl hx _ fun σ2 hw ht he => ⟨hw, ?_⟩
      refine ht (D', H') (.refl ly.s) _ fun w lw => ?_
      have fw : ∀ a, r.1 a = none → r.2 a ≠ none → w.1 a = none := fun a h0 h3 => lw.f a (ly.f a (fz a h0 h3) (by
        cases ez : r.2 a with
        | none => exact absurd ez h3
        | some o => rw [xz a o ez]; exact fun q => nomatch q)) (by
        cases ez : r.2 a with
        | none => exact absurd ez h3
        | some o => rw [ly.h a o (xz a o ez)]; exact fun q => nomatch q)
      have keepw := lw.keep keepL.1 keepL.2
      have low : Le q w := lz2.trans lw
      cases hf : f as[i] with
      | false =>
        rw [hf] at hts
        refine ⟨w, rfl, low, ⟨(kz.e.trans ly.d).trans lw.d, lw.s⟩, fw, (xz.trans ly.h).trans lw.h, keepw.1, ys, keepw.2, ?_⟩
        rw [hts, if_neg (by decide), List.append_nil]
        exact (h2.up ly.d).up lw.d
      | true =>
        rw [hf] at hts
        refine he hf w lw _ fun v w2 lw2 hv => ?_
        have keep2 := lw2.keep keepw.1 keepw.2
        have hz2 : ys.length < sizeLine := by
          have := h2.length
          rw [List.length_map] at this
          have h5 : ((as.take i).filter f).length ≤ as.length := Nat.le_trans (List.length_filter_le _ _) (by rw [List.length_take]; omega)
          exact Evl.sz_lt (by omega)
        refine ⟨ys, keep2.2, hz2, (w2.1, upd w2.2 L (.lst (ys ++ [v]))), rfl, (low.trans lw2).mut hq2 keep2.1, ⟨((kz.e.trans ly.d).trans lw.d).trans lw2.d, ex_upd lw2.s keep2.1⟩, fun a h0 h3 => ?_, ?_, keep2.1, _, upd_same, ?_⟩
        · refine lw2.f a (fw a h0 h3) ?_
          cases ez : r.2 a with
          | none => exact absurd ez h3
          | some o => rw [lw.h a o (ly.h a o (xz a o ez))]; exact fun q => nomatch q
        · exact ex_upd (((xz.trans ly.h).trans lw.h).trans lw2.h) hL
        · rw [hts, if_pos rfl, List.map_append]
          exact (((h2.up ly.d).up lw.d).up lw2.d).append (.one hv)
    · have e0 : i = as.length := by omega
      subst e0
      refine .inl ⟨by have := W.stops z kz; rw [List.length_map] at this; exact this, ?_⟩
      rw [List.take_length] at h2
      exact k L ys z lz hq2 dz h1 h2
end
end HR

namespace HR
open PySem PySem.Spec PyProof.Rows L2
open Evl (Ex)
section
variable {K : PySem.W.Frag} {σ : L2.St} {p p' q r z w : Two} {ta tb te tx tl : TE} {t u tt tt1 : TT} {v : V} {d e : PyData} {ds es : List PyData} {i j : Int} {b c : Bool}
structure Acc (q r : Two) (L : Addr) (acc : List PyData) (z : Two) : Prop where
  l : Le q z
  k : Kp r z
  f : ∀ a, r.1 a = none → r.2 a ≠ none → z.1 a = none
  x : Ex r.2 z.2
  d : z.1 L = none
  v : ∃ vs, z.2 L = some (.lst vs) ∧ DaAll z.1 vs acc
theorem ne_none {H H' : Hp} {a : Addr} (x : Ex H H') (h : H a ≠ none) : H' a ≠ none := by
  cases e : H a with
  | none => exact absurd e h
  | some o => rw [x a o e]; exact fun q => nomatch q
theorem Acc.le {L : Addr} {acc : List PyData} (h : Acc q r L acc z) (l : Le z w) : Acc q r L acc w := by
  obtain ⟨ys, h1, h2⟩ := h.v
  have kp := l.keep h.d h1
  exact ⟨h.l.trans l, ⟨h.k.e.trans l.d, l.s⟩, fun a h0 h3 => l.f a (h.f a h0 h3) (ne_none h.x h3), h.x.trans l.h, kp.1, ys, kp.2, h2.up l.d⟩
theorem Acc.app {L : Addr} {acc : List PyData} {ys : List V} (h : Acc q r L acc z) (hq : q.2 L = none) (hr : r.2 L = none) (hy : z.2 L = some (.lst ys)) (hv : Da z.1 v d) : Acc q r L (acc ++ [d]) (z.1, upd z.2 L (.lst (ys ++ [v]))) := by
  obtain ⟨ys', h1, h2⟩ := h.v
  rw [hy] at h1
  cases h1
  exact ⟨h.l.mut hq h.d, ⟨h.k.e, ex_upd h.k.s h.d⟩, h.f, ex_upd h.x hr, h.d, _, upd_same, h2.append (.one hv)⟩
theorem en_lc2 {α β : Type} {wi wi1 : TI} {g g1 : TG} {vs vs1 : List Nat} (as : List α) (enc : α → PyData) (bs : α → List β) (enc1 : β → PyData) (f : α → β → Bool) (e : α → β → PyData) (hi : EvI wi σ p (as.map enc))
    (hb : ∀ a, a ∈ as → ∀ x q, Le p q → Da q.1 x (enc a) → ∀ Q2 : L2.St → Hp → Prop, (∀ σ2, wipe σ2 vs = wipe σ vs → EvI wi1 σ2 q ((bs a).map enc1) →
      (∀ b, b ∈ bs a → ∀ x1 q1, Le p q1 → Ex q.1 q1.1 → Da q1.1 x1 (enc1 b) → ∀ Q3 : L2.St → Hp → Prop, (∀ σ3, wipe σ3 vs1 = wipe σ2 vs1 → EvB tt1 σ3 q1 (f a b) → (f a b = true → EvD te σ3 q1 (e a b)) → Q3 σ3 q1.2) → g1 x1 (wipe σ2 vs1) q1.2 Q3) → Q2 σ2 q.2) → g x (wipe σ vs) q.2 Q2)
    (hz : as.length ≤ 100) (hz1 : ∀ a ∈ as, (bs a).length ≤ 100) : EvN (tLc2 wi g tYes wi1 g1 tt1 te vs vs1) σ p (as.flatMap fun a => ((bs a).filter (f a)).map (e a)) := fun q l Q k => hi q l _ fun J r l1 W => fun L hL => by
  have hL1 : r.1 L = none := ex_free l1.s hL
  have hq2 : q.2 L = none := ex_free l1.h hL
  let one : α → List PyData := fun a => ((bs a).filter (f a)).map (e a)
  have hone : ∀ a ∈ as, (one a).length ≤ 100 := fun a ha => by
    show (((bs a).filter (f a)).map (e a)).length ≤ 100
    rw [List.length_map]
    exact Nat.le_trans (List.length_filter_le _ _) (hz1 a ha)
  have hacc : ∀ (xs : List α), (∀ a ∈ xs, a ∈ as) → (xs.flatMap one).length ≤ 100 * xs.length := by
    intro xs
    induction xs with
    | nil => intro _; exact Nat.zero_le _
    | cons x xs ih =>
      intro h
      rw [List.flatMap_cons, List.length_append, List.length_cons]
      have := hone x (h x (List.mem_cons_self ..))
      have := ih fun a ha => h a (List.mem_cons_of_mem _ ha)
      omega
  let I : Nat → Hp → Prop := fun i H => ∃ z : Two, z.2 = H ∧ Acc q r L ((as.take i).flatMap one) z
  refine ⟨fun i m H => m = as.length - i ∧ i ≤ as.length ∧ I i H, ⟨_, rfl, Nat.zero_le _, (r.1, upd r.2 L (.lst [])), rfl, ?_⟩, ?_⟩
  · exact ⟨l1.mut hq2 hL1, ⟨Ex.refl _, ex_upd l1.s hL1⟩, fun _ h _ => h, Evl.Ex.new hL, hL1, [], upd_same, .nil⟩
  · rintro i m H ⟨rfl, hle, z, rfl, az⟩
    by_cases hlt : i < as.length
    · refine .inr ⟨W.goes i z (by rw [List.length_map]; exact hlt) az.k, I (i + 1), fun H' h' => ⟨_, by omega, rfl, hlt, h'⟩, fun x H' y => ?_⟩
      obtain ⟨D', ly, dd, hd, hx⟩ := W.yields i z x H' (by rw [List.length_map]; exact hlt) az.k y
      have ha : as[i]? = some as[i] := by simp [hlt]
      rw [List.getElem?_map, ha] at hd
      have hd : enc as[i] = dd := Option.some.inj hd
      subst hd
      have ma : as[i] ∈ as := List.getElem_mem _
      have az2 := az.le ly
      refine hb as[i] ma x (D', H') (l.trans az2.l) hx _ fun σ2 hw hi1 hb1 => ⟨hw, ?_⟩
      show wi1 σ2 H' _
      refine hi1 (D', H') (.refl ly.s) _ fun J1 r1 lr1 W1 => ?_
      have az3 := az2.le lr1
      let I1 : Nat → Hp → Prop := fun j H => ∃ z : Two, z.2 = H ∧ Acc q r L ((as.take i).flatMap one ++ (((bs as[i]).take j).filter (f as[i])).map (e as[i])) z ∧ Kp r1 z
      refine ⟨fun j k H => k = (bs as[i]).length - j ∧ j ≤ (bs as[i]).length ∧ I1 j H, ⟨_, rfl, Nat.zero_le _, r1, rfl, ?_, .of (.refl lr1.s)⟩, ?_⟩
      · rw [List.take_zero, List.filter_nil, List.map_nil, List.append_nil]; exact az3
      · rintro j m2 H2 ⟨rfl, hle2, z2, rfl, a2, k2⟩
        by_cases hlt2 : j < (bs as[i]).length
        · refine .inr ⟨W1.goes j z2 (by rw [List.length_map]; exact hlt2) k2, I1 (j + 1), fun H' h' => ⟨_, by omega, rfl, hlt2, h'⟩, fun x1 H3 y1 => ?_⟩
          obtain ⟨D3, l3, dd1, hd1, hx1⟩ := W1.yields j z2 x1 H3 (by rw [List.length_map]; exact hlt2) k2 y1
          have hbj : (bs as[i])[j]? = some (bs as[i])[j] := by simp [hlt2]
          rw [List.getElem?_map, hbj] at hd1
          have hd1 : enc1 (bs as[i])[j] = dd1 := Option.some.inj hd1
          subst hd1
          have a3 := a2.le l3
          have k3 : Kp r1 (D3, H3) := k2.trans (.of l3)
          have hts : ((bs as[i]).take (j + 1)).filter (f as[i]) = ((bs as[i]).take j).filter (f as[i]) ++ (if f as[i] (bs as[i])[j] = true then [(bs as[i])[j]] else []) := by
            rw [take_snoc hbj, List.filter_append, List.filter_cons]; rfl
          refine hb1 (bs as[i])[j] (List.getElem_mem _) x1 (D3, H3) (l.trans a3.l) (lr1.d.trans k3.e) hx1 _ fun σ3 hw3 ht he => ⟨hw3, ?_⟩
          refine ht (D3, H3) (.refl l3.s) _ fun w lw => ?_
          have a4 := a3.le lw
          cases hf : f as[i] (bs as[i])[j] with
          | false =>
            rw [hf, if_neg (by decide), List.append_nil] at hts
            exact ⟨w, rfl, by rw [hts]; exact a4, k3.trans (.of lw)⟩
          | true =>
            rw [hf, if_pos rfl] at hts
            refine he hf w lw _ fun v w2 lw2 hv => ?_
            have a5 := a4.le lw2
            obtain ⟨ys, hy, hys⟩ := a5.v
            refine ⟨ys, hy, ?_, (w2.1, upd w2.2 L (.lst (ys ++ [v]))), rfl, ?_, ⟨(k3.trans (.of lw)).e.trans lw2.d, ex_upd lw2.s a5.d⟩⟩
            · have e1 := hys.length
              rw [List.length_append, List.length_map] at e1
              have e2 := hacc (as.take i) (fun a ha => List.mem_of_mem_take ha)
              have e3 : (((bs as[i]).take j).filter (f as[i])).length ≤ (bs as[i]).length := Nat.le_trans (List.length_filter_le _ _) (by rw [List.length_take]; omega)
              have e4 := hz1 _ ma
              rw [List.length_take] at e2
              refine Evl.sz_lt ?_
              have e6 : 100 * min i as.length ≤ 100 * 100 := Nat.mul_le_mul_left 100 (by omega)
              omega
            · rw [hts, List.map_append, ← List.append_assoc]
              exact a5.app hq2 hL hy hv
        · have e0 : j = (bs as[i]).length := by omega
          subst e0
          refine .inl ⟨by have := W1.stops z2 k2; rw [List.length_map] at this; exact this, z2, rfl, ?_⟩
          rw [take_snoc ha, List.flatMap_append, List.flatMap_cons, List.flatMap_nil, List.append_nil]
          rw [List.take_length] at a2
          exact a2
    · have e0 : i = as.length := by omega
      subst e0
      refine .inl ⟨by have := W.stops z az.k; rw [List.length_map] at this; exact this, ?_⟩
      have h2 := az.v
      rw [List.take_length] at h2
      obtain ⟨ys, h1, h2⟩ := h2
      exact k L ys z az.l hq2 az.d h1 h2
/-! ### statements -/
theorem q_asg {tz : TS} {D : Ends} {n : Nat} (ok : Ok p) (h : EvD te σ p d) (k : ∀ v q, Le p q → Da q.1 v d → tz D (σ.set n (some v)) q.2) : tSeq (tAsg te (gName n)) tz D σ p.2 := h p (.refl ok) _ fun v q l hv => k v q l hv
theorem q_asgN {tz : TS} {D : Ends} {n : Nat} (ok : Ok p) (h : EvN te σ p ds) (k : ∀ L vs q, Le p q → p.2 L = none → q.1 L = none → q.2 L = some (.lst vs) → DaAll q.1 vs ds → tz D (σ.set n (some (.ref L))) q.2) : tSeq (tAsg te (gName n)) tz D σ p.2 := h p (.refl ok) _ fun L vs q l h0 h1 h2 h3 => k L vs q l h0 h1 h2 h3
theorem s_ret {D : Ends} (ok : Ok p) (h : EvD te σ p d) (k : ∀ v q, Le p q → Da q.1 v d → D.rt v q.2) : tRet te D σ p.2 := h p (.refl ok) _ k
theorem s_if {tu tw : TS} {D : Ends} (ok : Ok p) (h : EvB t σ p b) (h1 : b = true → ∀ q, Le p q → tu D σ q.2) (h2 : b = false → ∀ q, Le p q → tw D σ q.2) : tIfS t tu tw D σ p.2 := h p (.refl ok) _ fun q l => by
  cases b with
  | true => exact h1 rfl q l
  | false => exact h2 rfl q l
theorem q_when {tu tz : TS} {D : Ends} (ok : Ok p) (h : EvB t σ p b) (h1 : b = true → ∀ q, Le p q → tu { D with nx := tz D } σ q.2) (h2 : b = false → ∀ q, Le p q → tz D σ q.2) : tSeq (tIfS t tu tNext) tz D σ p.2 := s_if (D := { D with nx := tz D }) ok h h1 h2
theorem s_drop {D : Ends} (ok : Ok p) (h : EvD te σ p d) (k : ∀ q, Le p q → D.nx σ q.2) : tDrop te D σ p.2 := h p (.refl ok) _ fun v q l hv => k q l
theorem q_drop {tz : TS} {D : Ends} (ok : Ok p) (h : EvD te σ p d) (k : ∀ q, Le p q → tz D σ q.2) : tSeq (tDrop te) tz D σ p.2 := h p (.refl ok) _ fun v q l hv => k q l
/-- a for -/
theorem s_for {α : Type} {wi : TI} {g : TG} {tu : TS} {D : Ends} (ok : Ok p) (as : List α) (enc : α → PyData) (hi : EvI wi σ p (as.map enc))
    (h : ∀ r, Le p r → ∃ Pv : Nat → L2.St → Two → Prop, Pv 0 σ r ∧ (∀ i σ' q, Pv i σ' q → Kp r q) ∧
      (∀ i a σ' q x q', as[i]? = some a → Pv i σ' q → Le q q' → Da q'.1 x (enc a) → g x σ' q'.2 fun σ2 H2 => tu { D with nx := fun σ3 H3 => ∃ z : Two, z.2 = H3 ∧ Pv (i + 1) σ3 z, ct := fun σ3 H3 => ∃ z : Two, z.2 = H3 ∧ Pv (i + 1) σ3 z, bk := D.nx } σ2 H2) ∧
      (∀ σ' q, Pv as.length σ' q → D.nx σ' q.2)) : tFor wi g tu D σ p.2 := hi p (.refl ok) _ fun J r l W => by
  obtain ⟨Pv, h0, hk, hs, hd⟩ := h r l
  refine ⟨fun i m σ' H => m = as.length - i ∧ i ≤ as.length ∧ ∃ z : Two, z.2 = H ∧ Pv i σ' z, ⟨_, rfl, Nat.zero_le _, r, rfl, h0⟩, ?_⟩
  rintro i m σ' H ⟨rfl, hle, z, rfl, pz⟩
  have kz := hk _ _ _ pz
  by_cases hlt : i < as.length
  · refine .inr ⟨W.goes i z (by rw [List.length_map]; exact hlt) kz, fun σ3 H3 => ∃ z : Two, z.2 = H3 ∧ Pv (i + 1) σ3 z, fun σ3 H3 h3 => ⟨_, by omega, rfl, hlt, h3⟩, fun x H' y => ?_⟩
    obtain ⟨D', ly, dd, hd', hx⟩ := W.yields i z x H' (by rw [List.length_map]; exact hlt) kz y
    have ha : as[i]? = some as[i] := by simp [hlt]
    rw [List.getElem?_map, ha] at hd'
    have e : enc as[i] = dd := Option.some.inj hd'
    subst e
    exact hs i as[i] σ' z x (D', H') ha pz ly hx
  · have e0 : i = as.length := by omega
    subst e0
    exact .inl ⟨by have := W.stops z kz; rw [List.length_map] at this; exact this, hd _ _ pz⟩
theorem q_for {α : Type} {wi : TI} {g : TG} {tu tz : TS} {D : Ends} (ok : Ok p) (as : List α) (enc : α → PyData) (hi : EvI wi σ p (as.map enc))
    (h : ∀ r, Le p r → ∃ Pv : Nat → L2.St → Two → Prop, Pv 0 σ r ∧ (∀ i σ' q, Pv i σ' q → Kp r q) ∧
      (∀ i a σ' q x q', as[i]? = some a → Pv i σ' q → Le q q' → Da q'.1 x (enc a) → g x σ' q'.2 fun σ2 H2 => tu { D with nx := fun σ3 H3 => ∃ z : Two, z.2 = H3 ∧ Pv (i + 1) σ3 z, ct := fun σ3 H3 => ∃ z : Two, z.2 = H3 ∧ Pv (i + 1) σ3 z, bk := tz D } σ2 H2) ∧
      (∀ σ' q, Pv as.length σ' q → tz D σ' q.2)) : tSeq (tFor wi g tu) tz D σ p.2 := s_for (D := { D with nx := tz D }) ok as enc hi h
/-- a while -/
theorem s_while {tu : TS} {D : Ends} (W : Nat → L2.St → Two → Prop) (m0 : Nat) (h0 : W m0 σ p)
    (hs : ∀ m σ' q, W m σ' q → Ok q ∧ ∃ b, EvB t σ' q b ∧ (b = true → ∀ q', Le q q' → ∃ N : L2.St → Hp → Prop, (∀ σ2 H2, N σ2 H2 → ∃ m' z, z.2 = H2 ∧ m' < m ∧ W m' σ2 z) ∧ tu { D with nx := N, ct := N, bk := D.nx } σ' q'.2) ∧ (b = false → ∀ q', Le q q' → D.nx σ' q'.2)) : tWhile t tu D σ p.2 := by
  refine ⟨fun m σ' H => ∃ z : Two, z.2 = H ∧ W m σ' z, ⟨m0, p, rfl, h0⟩, ?_⟩
  rintro m σ' H ⟨z, rfl, wz⟩
  obtain ⟨ok, b, hb, h1, h2⟩ := hs m σ' z wz
  refine hb z (.refl ok) _ fun q l => ?_
  cases b with
  | true =>
    obtain ⟨N, hN, ht⟩ := h1 rfl q l
    exact ⟨N, fun σ2 H2 h => by obtain ⟨m', z', e, hm, hw⟩ := hN σ2 H2 h; exact ⟨m', hm, z', e, hw⟩, ht⟩
  | false => exact h2 rfl q l
/-! ### calls of defs that only read -/
abbrev Rel := List PyData → PyData → Prop
def spF (R : Rel) : Sp := fun vs H Q _ => ∃ (p : Two) (ds : List PyData) (d : PyData), p.2 = H ∧ Ok p ∧ DaAll p.1 vs ds ∧ R ds d ∧ ∀ v q, Le p q → Da q.1 v d → Q v q.2
theorem ev_call {R : Rel} {ta : TA} (ha : EvA ta σ p ds) (h : R ds d) : EvD (tCall (spF R) [] E0 ta) σ p d := fun q l Q k => ha q l _ fun vs r l1 hv => by
  show spF R (vs ++ []) r.2 Q E0
  rw [List.append_nil]
  exact ⟨r, ds, d, rfl, l1.ok, hv, h, fun v q2 l2 hv2 => k v q2 (l1.trans l2) hv2⟩
/-- slices -/
theorem en_slL {lo hi : Option Int} {tlo thi : TO} (h : EvD te σ p (.list ds)) (hlo : ∀ q, Le p q → ∀ Q : Option Int → Hp → Prop, (∀ r, Le q r → Q lo r.2) → tlo σ q.2 Q) (hhi : ∀ q, Le p q → ∀ Q : Option Int → Hp → Prop, (∀ r, Le q r → Q hi r.2) → thi σ q.2 Q) :
    EvN (tSl (rSlL K) te tlo thi) σ p ((ds.drop (HT.sIx ds.length 0 lo)).take (HT.sIx ds.length ds.length hi - HT.sIx ds.length 0 lo)) := fun q l Q k => h q l _ fun v r1 l1 hv => by
  cases hv with
  | lst h1 h2 =>
    refine hlo r1 (l.trans l1) _ fun r2 l2 => hhi r2 ((l.trans l1).trans l2) _ fun r3 l3 => ⟨_, _, rfl, .of (l3.h _ _ (l2.h _ _ (l1.s _ _ h1))), fun z hz => ?_⟩
    have l13 := (l1.trans l2).trans l3
    refine k z _ (r3.1, upd r3.2 z (.lst _)) (l13.trans (.newM l3.ok hz)) (ex_free l13.h hz) (ex_free l3.s hz) upd_same ?_
    unfold cutV
    rw [h2.length]
    exact ((h2.up (l2.trans l3).d).drop _).take _
theorem eo_none : ∀ q, Le p q → ∀ Q : Option Int → Hp → Prop, (∀ r, Le q r → Q none r.2) → tNoPart σ q.2 Q := fun q l Q k => k q (.refl l.ok)
theorem eo_some (h : EvD te σ p (.int i)) : ∀ q, Le p q → ∀ Q : Option Int → Hp → Prop, (∀ r, Le q r → Q (some i) r.2) → tPart te σ q.2 Q := fun q l Q k => h q l _ fun v r l1 hv => by
  cases hv
  exact ⟨i, rfl, k r l1⟩
/-! ### targets -/
theorem g_tup2 {n m : Nat} {d1 d2 : PyData} {x : V} {Q : L2.St → Hp → Prop} (ok : Ok p) (h : Da p.1 x (.tuple [d1, d2])) (k : ∀ v1 v2, Da p.1 v1 d1 → Da p.1 v2 d2 → Q ((σ.set n (some v1)).set m (some v2)) p.2) :
    gTup K 2 (gCons (gName n) (gCons (gName m) gNil)) x σ p.2 Q := by
  cases h with
  | tup h1 h2 =>
    cases h2 with
    | cons h3 h4 =>
      cases h4 with
      | cons h5 h6 =>
        cases h6
        exact ⟨_, _, rfl, .of (ok _ _ h1), rfl, _, _, rfl, _, _, rfl, rfl, k _ _ h3 h5⟩
theorem g_tup3 {n m o : Nat} {d1 d2 d3 : PyData} {x : V} {Q : L2.St → Hp → Prop} (ok : Ok p) (h : Da p.1 x (.tuple [d1, d2, d3])) (k : ∀ v1 v2 v3, Da p.1 v1 d1 → Da p.1 v2 d2 → Da p.1 v3 d3 → Q (((σ.set n (some v1)).set m (some v2)).set o (some v3)) p.2) :
    gTup K 3 (gCons (gName n) (gCons (gName m) (gCons (gName o) gNil))) x σ p.2 Q := by
  cases h with
  | tup h1 h2 =>
    cases h2 with
    | cons h3 h4 =>
      cases h4 with
      | cons h5 h6 =>
        cases h6 with
        | cons h7 h8 =>
          cases h8
          exact ⟨_, _, rfl, .of (ok _ _ h1), rfl, _, _, rfl, _, _, rfl, _, _, rfl, rfl, k _ _ _ h3 h5 h7⟩
end
end HR

namespace HR
open PySem PySem.Spec PyProof.Rows L2
open Evl (Ex)
/-- a step that may change the objects of M (none of them data) -/
structure Mv (M : Addr → Prop) (p z : Two) : Prop where
  d : Ex p.1 z.1
  s : Ex z.1 z.2
  h : ∀ a o, ¬ M a → p.2 a = some o → z.2 a = some o
  f : ∀ a, p.1 a = none → p.2 a ≠ none → z.1 a = none
section
variable {M N : Addr → Prop} {p q r z : Two} {a L : Addr} {o : HO}
theorem Mv.of (l : Le p q) : Mv M p q := ⟨l.d, l.s, fun a o _ h => l.h a o h, l.f⟩
theorem Mv.ok (m : Mv M p q) : Ok q := m.s
theorem Mv.kp (m : Mv M p q) {r : Two} (k : Kp r p) : Kp r q := ⟨k.e.trans m.d, m.s⟩
theorem Mv.kp' (m : Mv M p q) : Kp p q := ⟨m.d, m.s⟩
theorem Mv.keep (m : Mv M p q) (hM : ¬ M a) (h1 : p.1 a = none) (h2 : p.2 a = some o) : q.1 a = none ∧ q.2 a = some o := ⟨m.f a h1 (by rw [h2]; exact fun x => nomatch x), m.h a o hM h2⟩
theorem Mv.trans (m : Mv M p q) (n : Mv M q r) (hM : ∀ a, M a → p.2 a ≠ none → q.2 a ≠ none) : Mv M p r := ⟨m.d.trans n.d, n.s, fun a o h e => n.h a o h (m.h a o h e), fun a h1 h2 => n.f a (m.f a h1 h2) (by
  by_cases hm : M a
  · exact hM a hm h2
  · cases e : p.2 a with
    | none => exact absurd e h2
    | some o => rw [m.h a o hm e]; exact fun x => nomatch x)⟩
theorem Mv.le {p0 : Two} (m : Mv M p q) (l : Le p0 p) (hM : ∀ a, M a → p0.2 a = none) : Le p0 q := ⟨l.d.trans m.d, fun a o h => m.h a o (fun x => by rw [hM a x] at h; cases h) (l.h a o h), m.s, fun a h1 h2 => m.f a (l.f a h1 h2) (ne_none l.h h2)⟩
/-- an object that may change is changed -/
theorem Mv.put (ok : Ok p) (h1 : p.1 L = none) (o : HO) : Mv (· = L) p (p.1, upd p.2 L o) := ⟨Ex.refl _, ex_upd ok h1, fun a u h e => by
  show upd p.2 L o a = some u
  rw [upd_ne h]; exact e, fun _ h _ => h⟩
theorem Mv.pre (l : Le p q) (m : Mv M q r) : Mv M p r := ⟨l.d.trans m.d, m.s, fun a o h e => m.h a o h (l.h a o e), fun a h1 h2 => m.f a (l.f a h1 h2) (ne_none l.h h2)⟩
theorem Mv.post (m : Mv M p q) (l : Le q r) (hM : ∀ a, M a → p.2 a ≠ none → q.2 a ≠ none) : Mv M p r := m.trans (.of l) hM
theorem Mv.mono (m : Mv M p q) (h : ∀ a, M a → N a) : Mv N p q := ⟨m.d, m.s, fun a o x => m.h a o fun y => x (h a y), m.f⟩
/-- what the entry did not know becomes data -/
theorem Mv.frz (m : Mv M p q) (h : p.2 L = none) (h1 : q.1 L = none) (h2 : q.2 L = some o) : Mv M p (upd q.1 L o, q.2) := ⟨m.d.trans (Evl.Ex.new h1), fun b u hb => by
    have hb : upd q.1 L o b = some u := hb
    by_cases e : b = L
    · subst e; rw [upd_same] at hb; cases hb; exact h2
    · rw [upd_ne e] at hb; exact m.s b u hb, m.h, fun x hx1 hx2 => by
    show upd q.1 L o x = none
    rw [upd_ne (fun e : x = L => hx2 (by rw [e]; exact h))]
    exact m.f x hx1 hx2⟩
end
section
variable {K : PySem.W.Frag} {σ : L2.St} {p p' q r z w : Two} {ta tb te tx tl : TE} {t u tt tt1 : TT} {v : V} {d e : PyData} {ds es : List PyData} {i j : Int} {b c : Bool}
theorem ty_lstM {H : Hp} {L : Addr} {vs : List V} (h : H L = some (.lst vs)) : tyV K "list" (.ref L) H := .inl ⟨rfl, _, .of h⟩
/-- L.append(e) -/
theorem s_app {n : Nat} {L : Addr} {vs : List V} {D : Ends} (ok : Ok p) (hs : σ[n]? = some (some (.ref L))) (h1 : p.1 L = none) (h2 : p.2 L = some (.lst vs)) (h : EvD te σ p d) (hz : vs.length < 100000)
    (k : ∀ v z, Mv (· = L) p z → Da z.1 v d → z.1 L = none → z.2 L = some (.lst (vs ++ [v])) → D.nx σ z.2) : tDrop (tBM K "list" rAppend (tVar n) (tCons te tNil)) D σ p.2 := by
  refine ⟨_, hs, ty_lstM h2, ?_⟩
  refine h p (.refl ok) _ fun v q l hv => ?_
  obtain ⟨k1, k2⟩ := l.keep h1 h2
  refine ⟨L, vs, v, rfl, rfl, k2, Evl.sz_lt hz, ?_⟩
  exact k v (q.1, upd q.2 L (.lst (vs ++ [v]))) (.pre l (.put l.s k1 _)) hv k1 upd_same
theorem q_asgT {tz : TS} {D : Ends} {n m : Nat} {d1 d2 : PyData} (ok : Ok p) (h : EvD te σ p (.tuple [d1, d2])) (k : ∀ v1 v2 q, Le p q → Da q.1 v1 d1 → Da q.1 v2 d2 → tz D ((σ.set n (some v1)).set m (some v2)) q.2) :
    tSeq (tAsg te (gTup K 2 (gCons (gName n) (gCons (gName m) gNil)))) tz D σ p.2 := h p (.refl ok) _ fun t q l ht => g_tup2 l.ok ht fun v1 v2 h1 h2 => k v1 v2 q l h1 h2
end
end HR

/-! dicts of numbers: read, filled, walked under a lock -/
namespace HR
open PySem PySem.Spec PyProof.Rows L2
open Evl (Ex)
/-- a heap without an address -/
def drp (D : Hp) (d : Addr) : Hp := fun a => if a = d then none else D a
theorem drp_same {D : Hp} {d : Addr} : drp D d d = none := if_pos rfl
theorem drp_ne {D : Hp} {d a : Addr} (h : a ≠ d) : drp D d a = D a := if_neg h
mutual
theorem Da.drp {D : Hp} {d : Addr} {ob : Obj} {u : HO} (hd : D d = some (.frz ob u)) : ∀ (e : PyData) (v : V), Da D v e → Da (drp D d) v e
  | .none, _, h => by cases h; exact .non
  | .bool b, _, h => by cases h; exact .bl b
  | .int i, _, h => by cases h; exact .int i
  | .str x, _, h => by cases h
  | .list ds, _, h => by
    cases h with
    | lst h1 h2 => exact .lst (by rw [drp_ne (fun e => by rw [e, hd] at h1; cases h1)]; exact h1) (DaAll.drp hd ds _ h2)
  | .tuple ds, _, h => by
    cases h with
    | tup h1 h2 => exact .tup (by rw [drp_ne (fun e => by rw [e, hd] at h1; cases h1)]; exact h1) (DaAll.drp hd ds _ h2)
  | .dict _, _, h => by cases h
theorem DaAll.drp {D : Hp} {d : Addr} {ob : Obj} {u : HO} (hd : D d = some (.frz ob u)) : ∀ (es : List PyData) (vs : List V), DaAll D vs es → DaAll (drp D d) vs es
  | [], _, h => by cases h; exact .nil
  | d :: ds, _, h => by
    cases h with
    | cons h1 h2 => exact .cons (Da.drp hd d _ h1) (DaAll.drp hd ds _ h2)
end
/-- a dict of numbers by its pairs -/
def kvD (came : List (Nat × Nat)) : List (Key × V) := came.map fun c => (Sum.inl (c.1 : Int), V.int (c.2 : Int))
theorem kvD_len (came : List (Nat × Nat)) : (kvD came).length = came.length := List.length_map _
theorem inl_eq {a b : Nat} : ((Sum.inl (a : Int) : Key) = Sum.inl (b : Int)) ↔ a = b := by
  constructor
  · intro h; injection h with h; omega
  · intro h; rw [h]
theorem valV_kvD : ∀ {came : List (Nat × Nat)} {u e : Nat}, (came.map (·.1)).Nodup → (u, e) ∈ came → valV (kvD came) (Sum.inl (u : Int)) = some (.int (e : Int))
  | [], _, _, _, h => by cases h
  | c :: cs, u, e, nd, h => by
    rw [List.map_cons, List.nodup_cons] at nd
    unfold kvD valV
    rw [List.map_cons, List.find?_cons]
    by_cases q : c.1 = u
    · have e1 : c = (u, e) := by
        rcases List.mem_cons.mp h with h | h
        · exact h.symm
        · exact absurd (List.mem_map.mpr ⟨_, h, q.symm⟩) nd.1
      rw [e1]
      simp
    · have h' : (u, e) ∈ cs := by
        rcases List.mem_cons.mp h with h | h
        · rw [← h] at q; exact absurd rfl q
        · exact h
      have : decide ((Sum.inl (c.1 : Int) : Key) = Sum.inl (u : Int)) = false := decide_eq_false (fun z => q (inl_eq.mp z))
      simp only [this]
      exact valV_kvD nd.2 h'
theorem valV_kvD_none : ∀ {came : List (Nat × Nat)} {u : Nat}, u ∉ came.map (·.1) → valV (kvD came) (Sum.inl (u : Int)) = none
  | [], _, _ => rfl
  | c :: cs, u, h => by
    rw [List.map_cons, List.mem_cons] at h
    unfold kvD valV
    rw [List.map_cons, List.find?_cons]
    have : decide ((Sum.inl (c.1 : Int) : Key) = Sum.inl (u : Int)) = false := decide_eq_false (fun z => h (.inl (inl_eq.mp z).symm))
    simp only [this]
    exact valV_kvD_none fun z => h (.inr z)
theorem valV_some {came : List (Nat × Nat)} {u : Nat} : (valV (kvD came) (Sum.inl (u : Int))).isSome = decide (u ∈ came.map (·.1)) := by
  by_cases h : u ∈ came.map (·.1)
  · rw [decide_eq_true h]
    induction came with
    | nil => cases h
    | cons c cs ih =>
      unfold kvD valV
      rw [List.map_cons, List.find?_cons]
      by_cases q : c.1 = u
      · have : decide ((Sum.inl (c.1 : Int) : Key) = Sum.inl (u : Int)) = true := decide_eq_true (inl_eq.mpr q)
        simp only [this]; rfl
      · have : decide ((Sum.inl (c.1 : Int) : Key) = Sum.inl (u : Int)) = false := decide_eq_false (fun z => q (inl_eq.mp z))
        simp only [this]
        refine ih ?_
        rw [List.map_cons, List.mem_cons] at h
        rcases h with h | h
        · exact absurd h.symm q
        · exact h
  · rw [decide_eq_false h, valV_kvD_none h]; rfl
theorem putK_kvD {came : List (Nat × Nat)} {u e : Nat} (h : u ∉ came.map (·.1)) : putK (kvD came) (Sum.inl (u : Int)) (.int (e : Int)) = kvD (came ++ [(u, e)]) := by
  rw [putK_new _ (valV_kvD_none h)]
  unfold kvD
  rw [List.map_append]
  rfl
/-- the dict at d while it is walked -/
structure Lk (d : Addr) (od : Obj) (came : List (Nat × Nat)) (p p' : Two) : Prop where
  e1 : p'.1 = upd p.1 d (.frz od (.dK (kvD came)))
  e2 : p'.2 = upd p.2 d (.frz od (.dK (kvD came)))
def unl (d : Addr) (came : List (Nat × Nat)) (q : Two) : Two := (drp q.1 d, upd q.2 d (.dK (kvD came)))
section
variable {d : Addr} {od : Obj} {came : List (Nat × Nat)} {p p' q : Two} {M : Addr → Prop}
theorem Lk.mk' (p : Two) (d : Addr) (od : Obj) (came : List (Nat × Nat)) : Lk d od came p (upd p.1 d (.frz od (.dK (kvD came))), upd p.2 d (.frz od (.dK (kvD came)))) := ⟨rfl, rfl⟩
theorem Lk.ok (l : Lk d od came p p') (ok : Ok p) : Ok p' := by
  unfold Ok
  rw [l.e1, l.e2]
  exact ex_upd2 ok
theorem Lk.at1 (l : Lk d od came p p') : p'.1 d = some (.frz od (.dK (kvD came))) := by rw [l.e1]; exact upd_same
theorem Lk.at2 (l : Lk d od came p p') : p'.2 d = some (.frz od (.dK (kvD came))) := by rw [l.e2]; exact upd_same
theorem Lk.ne1 (l : Lk d od came p p') {a : Addr} (h : a ≠ d) : p'.1 a = p.1 a := by rw [l.e1, upd_ne h]
theorem Lk.ne2 (l : Lk d od came p p') {a : Addr} (h : a ≠ d) : p'.2 a = p.2 a := by rw [l.e2, upd_ne h]
theorem Lk.da (l : Lk d od came p p') (h : p.1 d = none) {v : V} {e : PyData} (hv : Da p.1 v e) : Da p'.1 v e := hv.up (by rw [l.e1]; exact Evl.Ex.new h)
theorem Mv.unlock (l : Lk d od came p p') (h1 : p.1 d = none) (h0 : p.2 d = some (.dK (kvD came))) (m : Mv M p' q) (hM : ¬ M d) : Mv M p (unl d came q) where
  d := fun a o h => by
    have hne : a ≠ d := fun e => by rw [e, h1] at h; cases h
    show drp q.1 d a = some o
    rw [drp_ne hne]
    exact m.d a o (by rw [l.ne1 hne]; exact h)
  s := fun a o h => by
    have h : drp q.1 d a = some o := h
    show upd q.2 d _ a = some o
    by_cases e : a = d
    · rw [e, drp_same] at h; cases h
    · rw [drp_ne e] at h
      rw [upd_ne e]; exact m.s a o h
  h := fun a o hm h => by
    show upd q.2 d _ a = some o
    by_cases e : a = d
    · subst e
      rw [h0] at h
      cases h
      exact upd_same
    · rw [upd_ne e]; exact m.h a o hm (by rw [l.ne2 e]; exact h)
  f := fun a h2 h3 => by
    show drp q.1 d a = none
    by_cases e : a = d
    · rw [e]; exact drp_same
    · rw [drp_ne e]
      exact m.f a (by rw [l.ne1 e]; exact h2) (by rw [l.ne2 e]; exact h3)
theorem Mv.toLe (m : Mv M p q) (h : ∀ a, ¬ M a) : Le p q := ⟨m.d, fun a o e => m.h a o (h a) e, m.s, m.f⟩
theorem Le.unlock (l : Lk d od came p p') (h1 : p.1 d = none) (h0 : p.2 d = some (.dK (kvD came))) (m : Le p' q) : Le p (unl d came q) := (Mv.unlock (M := fun _ => False) l h1 h0 (.of m) id).toLe fun _ h => h
theorem unl_da {v : V} {e : PyData} (h : q.1 d = some (.frz od (.dK (kvD came)))) (hv : Da q.1 v e) : Da (unl d came q).1 v e := Da.drp h e v hv
theorem unl_at : (unl d came q).1 d = none ∧ (unl d came q).2 d = some (.dK (kvD came)) := ⟨drp_same, upd_same⟩
theorem walkD_keys {r : Two} (h : r.1 d = some (.frz od (.dK (kvD came)))) : WalkD (Itk d od (kvD came)) r (came.map fun c => .int (c.1 : Int)) where
  goes := fun i q hi l => ⟨l.s _ _ (l.e _ _ h), by rw [List.length_map] at hi; rw [kvD_len]; exact hi⟩
  stops := fun q l => ⟨l.s _ _ (l.e _ _ h), by rw [List.length_map, kvD_len]; exact Nat.le_refl _⟩
  yields := fun i q x H' hi l y => by
    obtain ⟨rfl, k, v, h1, rfl⟩ := y
    rw [List.length_map] at hi
    have h2 : came[i]? = some came[i] := by simp [hi]
    unfold kvD at h1
    rw [List.getElem?_map, h2] at h1
    cases h1
    exact ⟨q.1, .refl l.s, _, by rw [List.getElem?_map, h2]; rfl, .int _⟩
theorem ei_keys {σ : L2.St} {i : Nat} (hs : σ[i]? = some (some (.ref d))) (h : p.1 d = some (.frz od (.dK (kvD came)))) : EvI (iKeys (tVar i)) σ p (came.map fun c => .int (c.1 : Int)) := fun q l R k =>
  ⟨_, hs, d, od, rfl, .inl ⟨kvD came, l.s _ _ (l.d _ _ h), k _ q (.refl l.ok) (walkD_keys (l.d _ _ h))⟩⟩
/-- u in d, u not in d, d[u] -/
theorem et_dni {σ : L2.St} {ty : TE} {i u : Nat} (hs : σ[i]? = some (some (.ref d))) (h1 : p.1 d = none) (h : p.2 d = some (.dK (kvD came))) (hu : EvD ty σ p (.int (u : Int))) : EvD (tDNotIn ty (tVar i)) σ p (.bool (!decide (u ∈ came.map (·.1)))) := fun q l Q k =>
  hu q l _ fun v r l1 hv => by
    cases hv
    refine ⟨_, hs, d, _, rfl, DGet.k (k := Sum.inl (u : Int)) (l1.h _ _ (l.h _ _ h)), ?_⟩
    rw [valV_some]
    exact k _ r l1 (.bl _)
theorem ev_dget {σ : L2.St} {ty : TE} {i u e : Nat} (hs : σ[i]? = some (some (.ref d))) (h : p.2 d = some (.dK (kvD came))) (hnd : (came.map (·.1)).Nodup) (hm : (u, e) ∈ came) (hu : EvD ty σ p (.int (u : Int))) : EvD (tDGet (tVar i) ty) σ p (.int (e : Int)) := fun q l Q k =>
  ⟨_, hs, hu q l _ fun v r l1 hv => by
    cases hv
    exact ⟨d, _, rfl, (valV_kvD hnd hm) ▸ DGet.k (k := Sum.inl (u : Int)) (l1.h _ _ (l.h _ _ h)), k _ r l1 (.int _)⟩⟩
end
end HR

/-! The text by its places, the names of the built-ins, calls in short. -/
namespace HR
open PySem PySem.Spec PyProof.Rows L2
def topS (i : Nat) : Stmt := PySem.Challenge.pw_hiddenties_k18_whole_best_offsets_put_to.main.body.getD i (.Pass ⟨0, 0, 0, 0⟩)
/-- the module hides no built-in name that is used -/
structure Blt (mg : Str → Option Value) : Prop where
  isinstance_ : mg "isinstance" = none
  tuple_ : mg "tuple" = none
  list_ : mg "list" = none
  int_ : mg "int" = none
  bool_ : mg "bool" = none
  len_ : mg "len" = none
  sum_ : mg "sum" = none
  max_ : mg "max" = none
  min_ : mg "min" = none
  all_ : mg "all" = none
  range_ : mg "range" = none
  enumerate_ : mg "enumerate" = none
  repr_ : mg "repr" = none
  divmod_ : mg "divmod" = none
  abs_ : mg "abs" = none
theorem bo_isinstance : bootBuiltins "isinstance" = some (.builtin "isinstance") := by decide +kernel
theorem bo_tuple : bootBuiltins "tuple" = some (.type "tuple") := by decide +kernel
theorem bo_list : bootBuiltins "list" = some (.type "list") := by decide +kernel
theorem bo_int : bootBuiltins "int" = some (.type "int") := by decide +kernel
theorem bo_bool : bootBuiltins "bool" = some (.type "bool") := by decide +kernel
theorem bo_len : bootBuiltins "len" = some (.builtin "len") := by decide +kernel
theorem bo_sum : bootBuiltins "sum" = some (.builtin "sum") := by decide +kernel
theorem bo_max : bootBuiltins "max" = some (.builtin "max") := by decide +kernel
theorem bo_min : bootBuiltins "min" = some (.builtin "min") := by decide +kernel
theorem bo_all : bootBuiltins "all" = some (.builtin "all") := by decide +kernel
theorem bo_repr : bootBuiltins "repr" = some (.builtin "repr") := by decide +kernel
theorem bo_divmod : bootBuiltins "divmod" = some (.builtin "divmod") := by decide +kernel
theorem bo_abs : bootBuiltins "abs" = some (.builtin "abs") := by decide +kernel
/-- a def of the module, by its name: its promise, how it is called -/
structure Cal (P : Program) (w : World) (K : PySem.W.Frag) (mg : Str → Option Value) (base : Heap) (k : Nat) (x : Str) (ps : List Str) (sp : Sp) : Prop where
  ex : ∃ f fd, FnOk P w K mg base CX0 k f fd ps sp ∧ mg x = some (.ref f) ∧ PySem.W.keepIn K (.ref f) = true ∧ Binds K fd ps []
/-- a method of the class at C -/
structure MCal (P : Program) (w : World) (K : PySem.W.Frag) (mg : Str → Option Value) (base : Heap) (C : Addr) (k : Nat) (m : Str) (ps : List Str) (sp : Sp) : Prop where
  ex : ∃ f fd, FnOk P w K mg base CX0 k f fd ps sp ∧ Meth K C m f ∧ Binds K fd ps []
/-- the class at C, by its name: its making -/
structure MkCal (P : Program) (w : World) (K : PySem.W.Frag) (mg : Str → Option Value) (base : Heap) (C : Addr) (k : Nat) (x : Str) (ps : List Str) (sp : Sp) : Prop where
  ex : ∃ f fd, FnOk P w K mg base CX0 k f fd ps sp ∧ Mk K C f ∧ mg x = some (.ref C) ∧ Binds K fd ps []
structure CalG (P : Program) (w : World) (K : PySem.W.Frag) (mg : Str → Option Value) (base : Heap) (k : Nat) (x : Str) (ps : List Str) (sp : Sp) : Prop where
  ex : ∃ f fd, FnG P w K mg base k f fd ps sp ∧ mg x = some (.ref f) ∧ PySem.W.keepIn K (.ref f) = true ∧ Binds K fd ps []
section
variable {X : Cx} {k : Nat} {C : Addr} {ps : List Str} {sp : Sp} {x m : Str} {p pos apos : Pos} {e o : Expr} {es : List Expr} {ta : TE} {t : TA}
theorem pe_cal (c : Cal X.prog X.w X.K X.mg X.base k x ps sp) (hr : Room k X.A) (hg : Gl X x) (ha : PA X (e :: es) t) (hdb : (x == ("__debug__" : Str)) = false := by decide)
    (he : starEach (e :: es) X.env = (false, eval e X.env) :: starEach es X.env := by rfl) (hpl : (backTo pos (starEach es X.env)).any (·.1) = false := by rfl) :
    PE X (.Call (.Name x p) (e :: es) [] pos) (tCall sp [] E0 t) := by
  obtain ⟨f, fd, F, hm, hk, hb⟩ := c.ex
  exact pe_call F hr hg hm hk hb .nil pass0 ha hdb he hpl
theorem pe_calG (c : CalG X.prog X.w X.K X.mg X.base k x ps sp) (hgd : X.A.guards = some []) (hr : Room k X.A) (hg : Gl X x) (ha : PA X (e :: es) t) (hdb : (x == ("__debug__" : Str)) = false := by decide)
    (he : starEach (e :: es) X.env = (false, eval e X.env) :: starEach es X.env := by rfl) (hpl : (backTo pos (starEach es X.env)).any (·.1) = false := by rfl) :
    PE X (.Call (.Name x p) (e :: es) [] pos) (tCall sp [] E0 t) := by
  obtain ⟨f, fd, F, hm, hk, hb⟩ := c.ex
  exact pe_callG F hgd hr hg hm hk hb ha hdb he hpl
theorem pe_mk (c : MkCal X.prog X.w X.K X.mg X.base C k x ps sp) (hr : Room (k + 1) X.A) (hg : Gl X x) (ha : PA X (e :: es) t) (hdb : (x == ("__debug__" : Str)) = false := by decide)
    (he : starEach (e :: es) X.env = (false, eval e X.env) :: starEach es X.env := by rfl) (hpl : (backTo pos (starEach es X.env)).any (·.1) = false := by rfl) :
    PE X (.Call (.Name x p) (e :: es) [] pos) (tMake C sp [] E0 t) := by
  obtain ⟨f, fd, F, M, hm, hb⟩ := c.ex
  exact pe_make M F hr hg hm hb .nil pass0 ha hdb he hpl
theorem pe_mcal {pl : Sem Bool} (he : PE X o ta) (c : Cls X.K C) (M : MCal X.prog X.w X.K X.mg X.base C k m ps sp) (hr : Room k X.A) (ha : PA X (e :: es) t)
    (hst : starEach (e :: es) X.env = (false, eval e X.env) :: starEach es X.env := by rfl) (hpl : (backTo pos (starEach es X.env)).any (·.1) = false := by rfl)
    (ht : eval (.Call (.Attribute o m apos) (e :: es) [] pos) X.env = (do
      let ov ← eval o X.env
      standAt apos.atName
      let (f, first) ← holding [ov] (getMethod ov m pl)
      callWith pos f first (backTo pos (starEach (e :: es) X.env)) (backToKw pos (keywordEach [] X.env))) := by rfl) :
    PE X (.Call (.Attribute o m apos) (e :: es) [] pos) (tMeth C m sp [] E0 ta t) := by
  obtain ⟨f, fd, F, hm, hb⟩ := M.ex
  exact pe_meth he c hm F hr hb .nil pass0 ha hst hpl ht
theorem pe_mcal0 {pl : Sem Bool} (he : PE X o ta) (c : Cls X.K C) (M : MCal X.prog X.w X.K X.mg X.base C k m ps sp) (hr : Room k X.A)
    (ht : eval (.Call (.Attribute o m apos) [] [] pos) X.env = (do
      let ov ← eval o X.env
      standAt apos.atName
      let (f, first) ← holding [ov] (getMethod ov m pl)
      callWith pos f first (backTo pos (starEach [] X.env)) (backToKw pos (keywordEach [] X.env))) := by rfl) :
    PE X (.Call (.Attribute o m apos) [] [] pos) (tMeth C m sp [] E0 ta tNil) := by
  obtain ⟨f, fd, F, hm, hb⟩ := M.ex
  exact pe_meth0 he c hm F hr hb .nil pass0 ht
end
/-! the rules with the written part told apart (under the binders of a comprehension) -/
section
variable {X : Cx}
theorem ix_listK (K : PySem.W.Frag) (h : X.K = K := by rfl) : IxR X (rIxL K) := by subst h; exact ix_list
theorem ix_tupK (K : PySem.W.Frag) (h : X.K = K := by rfl) : IxR X (rIxT K) := by subst h; exact ix_tup
theorem ix_seqK (K : PySem.W.Frag) (h : X.K = K := by rfl) : IxR X (rIx K) := by subst h; exact ix_seq
theorem get_listK (K : PySem.W.Frag) (h : X.K = K := by rfl) : PGet X (rIxL K) := by subst h; exact get_list
theorem op_in_seqK (K : PySem.W.Frag) (h : X.K = K := by rfl) : OpR X (compareOp .In) (rIn K false) := by subst h; exact op_in_seq
theorem op_notIn_seqK (K : PySem.W.Frag) (h : X.K = K := by rfl) : OpR X (compareOp .NotIn) (rIn K true) := by subst h; exact op_notIn_seq
theorem op_eqDK (K : PySem.W.Frag) (hu : X.A.units + 64 < cLine) (h : X.K = K := by rfl) : OpR X (compareOp .Eq) (rEqD K) := by subst h; exact op_eqD hu
theorem op_neDK (K : PySem.W.Frag) (hu : X.A.units + 64 < cLine) (h : X.K = K := by rfl) : OpR X (compareOp .NotEq) (rNeD K) := by subst h; exact op_neD hu
theorem op_catAK (K : PySem.W.Frag) (h : X.K = K := by rfl) : OpR X (binaryOp .Add) (rCatA K) := by subst h; exact op_catA
theorem call_lenK (K : PySem.W.Frag) (h : X.K = K := by rfl) : CallR X (.builtin "len") (rLen K) := by subst h; exact call_len_seq
theorem call_sumK (K : PySem.W.Frag) (hc : X.calm = true) (h : X.K = K := by rfl) : CallR X (.builtin "sum") (rSum K) := by subst h; exact cr_sum hc
theorem call_sumTK (K : PySem.W.Frag) (hc : X.calm = true) (h : X.K = K := by rfl) : CallR X (.builtin "sum") (rSumT K) := by subst h; exact call_sumT hc
theorem call_maxK (K : PySem.W.Frag) (hc : X.calm = true) (h : X.K = K := by rfl) : CallR X (.builtin "max") (rMax K) := by subst h; exact cr_max hc
theorem call_minK (K : PySem.W.Frag) (hc : X.calm = true) (h : X.K = K := by rfl) : CallR X (.builtin "min") (rMin K) := by subst h; exact cr_min hc
theorem call_allK (K : PySem.W.Frag) (hc : X.calm = true) (h : X.K = K := by rfl) : CallR X (.builtin "all") (rAll K) := by subst h; exact cr_all hc
theorem call_maxTK (K : PySem.W.Frag) (hc : X.calm = true) (hu : X.A.units + 64 < cLine) (h : X.K = K := by rfl) : CallR X (.builtin "max") (rMaxT K) := by subst h; exact call_maxT hc hu
theorem call_minTK (K : PySem.W.Frag) (hc : X.calm = true) (hu : X.A.units + 64 < cLine) (h : X.K = K := by rfl) : CallR X (.builtin "min") (rMinT K) := by subst h; exact call_minT hc hu
theorem call_isiK' (K : PySem.W.Frag) (h : X.K = K := by rfl) : CallR X (.builtin "isinstance") (rIsi K) := by subst h; exact call_isi
theorem call_tupleK (K : PySem.W.Frag) (h : X.K = K := by rfl) : CallR X (.type "tuple") (rTupOf K) := by subst h; exact call_tuple_of
theorem call_listK (K : PySem.W.Frag) (h : X.K = K := by rfl) : CallR X (.type "list") (rLstOf K) := by subst h; exact call_list_of
theorem call_reprK (K : PySem.W.Frag) (hg : X.A.guards = some []) (hu : X.A.units + 64 < cLine) (h : X.K = K := by rfl) : CallR X (.builtin "repr") (rRepr K) := by subst h; exact call_reprD hg hu
theorem sl_listK (K : PySem.W.Frag) (h : X.K = K := by rfl) : SlR X (rSlL K) := by subst h; exact sl_list
theorem mt_indexK (K : PySem.W.Frag) (h : X.K = K := by rfl) : MtR X "list.index" (rIndex K) := by subst h; exact mt_index
theorem pe_fldK (K : PySem.W.Frag) {e : Expr} {f : Str} {pos : Pos} {ta : TE} (he : PE X e ta) (hb : attributeBase e f X.env (eval e X.env) = eval e X.env) (h : X.K = K := by rfl) : PE X (.Attribute e f pos) (tFld K ta f) := by subst h; exact pe_fld he hb
theorem ps_fldK (K : PySem.W.Frag) {o value : Expr} {f : Str} {pos pos' : Pos} {ta tv : TE} (ha : PE X o ta) (hv : PE X value tv) (hs : swapsWith value (some (.Attribute o f pos')) pos.line X.env = pure false) (h : X.K = K := by rfl) : PS X (.Assign [.Attribute o f pos'] value pos) (sFld K ta tv f) := by subst h; exact ps_fld ha hv hs
theorem pg_tupK (K : PySem.W.Frag) {es : List Expr} {k : Nat} {t : TGs} {n : Nat} {pos : Pos} (hc : X.calm = true) (hg : PGs X es t) (hn : (assignEach es X.env).length = n := by rfl) (hst : (assignEach es X.env).findIdx? (·.1) = none := by rfl) (h : X.K = K := by rfl) :
    PG X (.Tuple es k pos) (gTup K n t) := by subst h; exact pg_tup hc hg hn hst
theorem pe_bmK (K : PySem.W.Frag) {T name id : String} {o e : Expr} {es : List Expr} {to : TE} {t : TA} {r : V → List V → Hp → VK → Prop} {apos cpos : Pos} (pa : PlainAttrs T) (slot : Slot T name id) (hty : typeOf (.builtin id) = pure (.type "method_descriptor")) (hm : MtR X id r) (ho : PE X o to) (ha : PA X (e :: es) t)
    (hbase : attributeBase o name X.env (eval o X.env) = eval o X.env := by rfl)
    (hfew : ((backTo cpos (starEach (e :: es) X.env)).all (fun x => !x.1) && (backToKw cpos (keywordEach [] X.env)).all (fun x => x.1.isSome)
      && decide ((e :: es).length + ([] : List Keyword).length + (if ([] : List Keyword).isEmpty then 0 else 1) < 30)) = true := by rfl)
    (hline : (apos.endLine == cpos.line) = true := by rfl) (hs : starEach (e :: es) X.env = (false, eval e X.env) :: starEach es X.env := by rfl) (hplain : (backTo cpos (starEach es X.env)).any (·.1) = false := by rfl) (h : X.K = K := by rfl) :
    PE X (.Call (.Attribute o name apos) (e :: es) [] cpos) (tBM K T r to t) := by subst h; exact pe_bm pa slot hty hm ho ha hbase hfew hline hs hplain
theorem pi_listK (K : PySem.W.Frag) {l tg : Expr} {tl : TE} (hl : PE X l tl) (h : X.K = K := by rfl) : PI X tg l (iList K tl) := by subst h; exact pi_list hl
theorem pi_tupK (K : PySem.W.Frag) {l tg : Expr} {tl : TE} (hl : PE X l tl) (h : X.K = K := by rfl) : PI X tg l (iTup K tl) := by subst h; exact pi_tup hl
theorem pi_enumTK (K : PySem.W.Frag) {e : Expr} {ta : TA} {p pos tpos : Pos} {elts : List Expr} {kk : Nat} (hg : Gl X "enumerate") (hm : X.mg "enumerate" = none) (ha : PA X [e] ta) (hs : starEach [e] X.env = [(false, eval e X.env)] := by rfl) (h : X.K = K := by rfl) :
    PI X (.Tuple elts kk tpos) (.Call (.Name "enumerate" p) [e] [] pos) (iEnumT K ta) := by subst h; exact pi_enumT hg hm ha hs
end
end HR

namespace HR
open PySem PySem.Spec PyProof.Rows L2
open HT (ent IsPat)
/-! ### data of this program -/
def eIs (xs : List Int) : PyData := .tuple (xs.map .int)
def eRow (r : List (Option Int)) : PyData := .tuple (r.map eO)
def ePat (P : HT.Pat) : PyData := .tuple (P.map eRow)
def eOff (c d : List Int) : PyData := .tuple [eIs c, eIs d]
theorem spF_len {R : Rel} {n : Nat} (hR : ∀ ds d, R ds d → ds.length = n) {vs : List V} {H : Hp} {Q : VK} {E : XK} (h : spF R vs H Q E) : vs.length = n := by
  obtain ⟨p, ds, d, _, _, h1, h2, _⟩ := h
  rw [h1.length, hR ds d h2]
theorem DaAll.one' {D : Hp} {vs : List V} {d : PyData} (h : DaAll D vs [d]) : ∃ v, vs = [v] ∧ Da D v d := by
  cases h with
  | cons h1 h2 => cases h2; exact ⟨_, rfl, h1⟩
theorem DaAll.two' {D : Hp} {vs : List V} {d e : PyData} (h : DaAll D vs [d, e]) : ∃ v u, vs = [v, u] ∧ Da D v d ∧ Da D u e := by
  cases h with
  | cons h1 h2 => cases h2 with
    | cons h3 h4 => cases h4; exact ⟨_, _, rfl, h1, h3⟩
theorem DaAll.three' {D : Hp} {vs : List V} {d e f : PyData} (h : DaAll D vs [d, e, f]) : ∃ v u w, vs = [v, u, w] ∧ Da D v d ∧ Da D u e ∧ Da D w f := by
  cases h with
  | cons h1 h2 =>
    obtain ⟨v, u, rfl, h3, h4⟩ := h2.two'
    exact ⟨_, _, _, rfl, h1, h3, h4⟩
/-! isinstance -/
section
variable {K : PySem.W.Frag} {σ : L2.St} {p : Two} {te : TE} {d : PyData} {ds : List PyData}
theorem ev_isi {a b : String} {r : Bool} (h : EvD te σ p d) (ty : ∀ q v, Ok q → Da q.1 v d → TyX K q.2 v (.type a)) (hk : kitB a b = some r) : EvD (tCB (rIsi K) (tCons te (tCons (tC (.ty b)) tNil))) σ p (.bool r) := fun q l Q k => h q l _ fun v r1 l1 hv =>
  ⟨v, .ty b, .type a, .type b, r, rfl, .ty b, ty r1 v l1.ok hv, kit_ty hk, k _ r1 l1 (.bl r)⟩
theorem ty_int {i : Int} : ∀ (q : Two) (v : V), Ok q → Da q.1 v (.int i) → TyX K q.2 v (.type "int") := fun q v _ h => by cases h; exact .base (.int i)
theorem ty_tup {ds : List PyData} : ∀ (q : Two) (v : V), Ok q → Da q.1 v (.tuple ds) → TyX K q.2 v (.type "tuple") := fun q v ok h => by
  cases h with
  | tup h1 h2 => exact .base (.tup (ok _ _ h1))
theorem isi_int {i : Int} (h : EvD te σ p (.int i)) : EvD (tCB (rIsi K) (tCons te (tCons (tC (.ty "int")) tNil))) σ p (.bool true) := ev_isi h ty_int (by decide +kernel)
theorem isi_bool {i : Int} (h : EvD te σ p (.int i)) : EvD (tCB (rIsi K) (tCons te (tCons (tC (.ty "bool")) tNil))) σ p (.bool false) := ev_isi h ty_int (by decide +kernel)
theorem isi_tuple (h : EvD te σ p (.tuple ds)) : EvD (tCB (rIsi K) (tCons te (tCons (tC (.ty "tuple")) tNil))) σ p (.bool true) := ev_isi h ty_tup (by decide +kernel)
end
/-! data that can be compared -/
def Sh (n : Nat) (d : PyData) : Prop := d.canLay0 = true ∧ d.depth ≤ n
theorem sh_all {α : Type} {n : Nat} {f : α → PyData} : ∀ {xs : List α}, (∀ x ∈ xs, Sh n (f x)) → PyData.canLayAll0 (xs.map f) = true ∧ PyData.depthAll (xs.map f) ≤ n := by
  intro xs
  induction xs with
  | nil => intro _; exact ⟨by rw [List.map_nil, PyData.canLayAll0], by rw [List.map_nil, PyData.depthAll]; exact Nat.zero_le _⟩
  | cons x xs ih =>
    intro h
    have h1 := h x (List.mem_cons_self ..)
    have h2 := ih fun y hy => h y (List.mem_cons_of_mem _ hy)
    refine ⟨?_, ?_⟩
    · rw [List.map_cons, PyData.canLayAll0, h1.1, h2.1]; rfl
    · rw [List.map_cons, PyData.depthAll]; exact Nat.max_le.mpr ⟨h1.2, h2.2⟩
theorem sh_int (i : Int) : Sh 0 (.int i) := ⟨by rw [PyData.canLay0], by rw [PyData.depth]; exact Nat.le_refl _⟩
theorem sh_non : Sh 0 .none := ⟨by rw [PyData.canLay0], by rw [PyData.depth]; exact Nat.le_refl _⟩
theorem sh_eO (o : Option Int) : Sh 0 (eO o) := by
  cases o with
  | none => exact sh_non
  | some i => exact sh_int i
theorem sh_tup {α : Type} {n : Nat} {f : α → PyData} {xs : List α} (h : ∀ x ∈ xs, Sh n (f x)) : Sh (n + 1) (.tuple (xs.map f)) := by
  obtain ⟨h1, h2⟩ := sh_all h
  refine ⟨by rw [PyData.canLay0]; exact h1, by rw [PyData.depth]; omega⟩
theorem sh_lst {α : Type} {n : Nat} {f : α → PyData} {xs : List α} (h : ∀ x ∈ xs, Sh n (f x)) : Sh (n + 1) (.list (xs.map f)) := by
  obtain ⟨h1, h2⟩ := sh_all h
  refine ⟨by rw [PyData.canLay0]; exact h1, by rw [PyData.depth]; omega⟩
theorem Sh.shaped {n : Nat} {d : PyData} (h : Sh n d) (hn : n ≤ 64 := by decide) : SeqAt.shaped d = true := by
  unfold SeqAt.shaped
  rw [h.1, decide_eq_true (Nat.le_trans h.2 hn)]; rfl
theorem sh_pat (P : HT.Pat) : Sh 2 (ePat P) := sh_tup fun r _ => sh_tup fun o _ => sh_eO o
theorem sh_ints (xs : List Int) : Sh 1 (.list (xs.map .int)) := sh_lst fun i _ => sh_int i
theorem sh_nilT : SeqAt.shaped (.tuple []) = true := (sh_tup (n := 0) (f := eO) (xs := []) fun _ h => by cases h).shaped
theorem sh_nilL : SeqAt.shaped (.list []) = true := (sh_lst (n := 0) (f := eO) (xs := []) fun _ h => by cases h).shaped
theorem eqv_nilT {d : PyData} {ds : List PyData} : PyData.eqv (.tuple (d :: ds)) (.tuple []) = false := by rw [PyData.eqv, PyData.eqvAll]
theorem eqv_nilL (ds : List PyData) : PyData.eqv (.list ds) (.list []) = ds.isEmpty := by
  cases ds with
  | nil => rw [PyData.eqv, PyData.eqvAll]; rfl
  | cons d ds => rw [PyData.eqv, PyData.eqvAll]; rfl
section
variable {K : PySem.W.Frag} {σ : L2.St} {p : Two} {te : TE}
theorem ev_allT {α : Type} {as : List α} (h : EvN te σ p (as.map fun _ => PyData.bool true)) : EvD (tCB (rAll K) (tCons te tNil)) σ p (.bool true) := by
  have e : as.map (fun _ => PyData.bool true) = (as.map fun _ => true).map PyData.bool := by rw [List.map_map]; rfl
  rw [e] at h
  have e2 : (as.map fun _ => true).all id = true := by rw [List.all_map]; exact List.all_eq_true.mpr fun _ _ => rfl
  exact (ev_all h.toD).is (by rw [e2])
theorem filter_all {α : Type} (as : List α) : as.filter (fun _ => true) = as := List.filter_eq_self.mpr fun _ _ => rfl
end
/-! patterns by their lists -/
theorem pat_cons {P : HT.Pat} {n : Nat} (h : IsPat P n) : ∃ r rs, P = r :: rs := by
  cases P with
  | nil => have h0 := h.pos; have h1 := h.len; rw [List.length_nil] at h1; omega
  | cons r rs => exact ⟨r, rs, rfl⟩
theorem ent_of {P : HT.Pat} {i j : Nat} {r : List (Option Int)} {o : Option Int} (h1 : P[i]? = some r) (h2 : r[j]? = some o) : ent P i j = o := by
  unfold ent
  have e : P.getD i [] = r := by rw [List.getD_eq_getElem?_getD, h1]; rfl
  rw [e, List.getD_eq_getElem?_getD, h2]; rfl
theorem row_at {P : HT.Pat} {n : Nat} (h : IsPat P n) {i : Nat} (hi : i < n) : ∃ r, P[i]? = some r ∧ r.length = n ∧ r ∈ P := by
  have hi' : i < P.length := by rw [h.len]; exact hi
  exact ⟨P[i], List.getElem?_eq_getElem hi', h.row _ (List.getElem_mem _), List.getElem_mem _⟩
theorem ent_at {P : HT.Pat} {n : Nat} (h : IsPat P n) {i j : Nat} (hi : i < n) (hj : j < n) : ∃ r, P[i]? = some r ∧ r.length = n ∧ r[j]? = some (ent P i j) := by
  obtain ⟨r, h1, h2, _⟩ := row_at h hi
  have hj' : j < r.length := by omega
  have e : r[j]? = some r[j] := List.getElem?_eq_getElem hj'
  exact ⟨r, h1, h2, by rw [ent_of h1 e]; exact e⟩
theorem ent_mem {P : HT.Pat} {n : Nat} (h : IsPat P n) {r : List (Option Int)} (hr : r ∈ P) {a : Int} (ha : some a ∈ r) : 0 ≤ a ∧ a ≤ 9 := by
  obtain ⟨i, hi, e⟩ := List.getElem_of_mem hr
  obtain ⟨j, hj, e2⟩ := List.getElem_of_mem ha
  refine h.ord i j a (ent_of (r := r) ?_ ?_)
  · rw [List.getElem?_eq_getElem hi, e]
  · rw [List.getElem?_eq_getElem hj, e2]
theorem ePat_at {P : HT.Pat} {i : Nat} {r : List (Option Int)} (h : P[i]? = some r) : (P.map eRow)[i]? = some (eRow r) := by rw [List.getElem?_map, h]; rfl
theorem eRow_at {r : List (Option Int)} {j : Nat} {o : Option Int} (h : r[j]? = some o) : (r.map eO)[j]? = some (eO o) := by rw [List.getElem?_map, h]; rfl
theorem eI_at {c : List Int} {j : Nat} {x : Int} (h : c[j]? = some x) : (c.map PyData.int)[j]? = some (.int x) := by rw [List.getElem?_map, h]; rfl
/-- a list as a function -/
def fI (c : List Int) : Nat → Int := fun i => c.getD i 0
theorem fI_at {c : List Int} {i : Nat} (h : i < c.length) : c[i]? = some (fI c i) := by
  unfold fI
  rw [List.getD_eq_getElem?_getD, List.getElem?_eq_getElem h]; rfl
theorem sm_fI (c : List Int) : c.sum = HT.sm c.length (fI c) := HT.sm_list c
end HR

namespace HR
open PySem PySem.Spec PyProof.Rows L2
open HT (ent IsPat)
section
variable {P : Program} {w : World} {K : PySem.W.Frag} {mg : Str → Option Value} {base : Heap}
abbrev s_is_whole : Stmt := topS 1
abbrev n_is_whole : List Str := ["value"]
theorem sc_is_whole : FnScope n_is_whole ["value"] (defScope s_is_whole) := ⟨rfl, rfl, rfl, by decide +kernel, rfl, by decide +kernel, by decide +kernel⟩
def R_is_whole : Rel := fun ds d => ∃ i : Int, ds = [.int i] ∧ d = .bool true
theorem ok_is_whole {f : Addr} {fd : FuncData} (F : Fun K "is_whole" "is_whole" s_is_whole f fd) (B : Blt mg) : FnOk P w K mg base CX0 1 f fd ["value"] (spF R_is_whole) := by
  refine F.ok sc_is_whole (fun vs H Q E h => spF_len (n := 1) (fun ds d ⟨i, h1, h2⟩ => by rw [h1]; rfl) h) (fun cdv A outer s H vs Q E hr h => ?_)
  have sc := sc_is_whole
  obtain ⟨p, ds, d, rfl, ok, hv, ⟨i, rfl, rfl⟩, k⟩ := h
  obtain ⟨v, rfl, h1⟩ := hv.one'
  refine ⟨_, pss_one (ps_ret (pe_and (pe_callB (call_isiK' K) (by rfl) B.isinstance_ bo_isinstance (pa_cons (pv 0) (pa_cons (pe_bltn (v := .ty "int") (by rfl) B.int_ bo_int rfl) pa_nil))) (pe_one (pe_not (pe_callB (call_isiK' K) (by rfl) B.isinstance_ bo_isinstance (pa_cons (pv 0) (pa_cons (pe_bltn (v := .ty "bool") (by rfl) B.bool_ bo_bool rfl) pa_nil))))))), ?_⟩
  have e0 : ∀ p', Le p p' → EvD (tVar 0) (start n_is_whole [v]) p' (.int i) := fun p' l => ev_var rfl (h1.up l.d)
  exact s_ret ok (ev_andV (isi_int (e0 p (.refl ok))) fun _ => ev_notV (isi_bool (e0 p (.refl ok)))) k
abbrev s_is_entry : Stmt := topS 14
abbrev n_is_entry : List Str := ["value"]
theorem sc_is_entry : FnScope n_is_entry ["value"] (defScope s_is_entry) := ⟨rfl, rfl, rfl, by decide +kernel, rfl, by decide +kernel, by decide +kernel⟩
def R_is_entry : Rel := fun ds d => ∃ o : Option Int, ds = [eO o] ∧ (∀ i, o = some i → 0 ≤ i) ∧ d = .bool true
theorem ok_is_entry {f : Addr} {fd : FuncData} (F : Fun K "is_entry" "is_entry" s_is_entry f fd) (C_is_whole : Cal P w K mg base 1 "is_whole" ["value"] (spF R_is_whole)) : FnOk P w K mg base CX0 2 f fd ["value"] (spF R_is_entry) := by
  refine F.ok sc_is_entry (fun vs H Q E h => spF_len (n := 1) (fun ds d ⟨i, h1, h2⟩ => by rw [h1]; rfl) h) (fun cdv A outer s H vs Q E hr h => ?_)
  have sc := sc_is_entry
  obtain ⟨p, ds, d, rfl, ok, hv, ⟨o, rfl, ho, rfl⟩, k⟩ := h
  obtain ⟨v, rfl, h1⟩ := hv.one'
  refine ⟨_, pss_one (ps_ret (pe_or (pe_cmpR op_isN (pv 0) (pe_non) (nomark _)) (pe_one (pe_and (pe_cal C_is_whole (hr.mono (by decide)) (by rfl) (pa_cons (pv 0) pa_nil)) (pe_one (pe_cmpR op_ge (pv 0) (pe_int) (nomark _))))))), ?_⟩
  refine s_ret ok ?_ k
  have e0 : EvD (tVar 0) (start n_is_entry [v]) p (eO o) := ev_var rfl h1
  cases o with
  | none => exact ev_orV (ev_isN (o := none) e0) (fun z => nomatch z) (b := false)
  | some i =>
    have e1 : EvD (tVar 0) (start n_is_entry [v]) p (.int i) := e0
    refine ev_orV (ev_isN (o := some i) e0) (fun _ => ?_) (b := true)
    exact (ev_andV (a := true) (ev_call (ea_cons e1 ea_nil) ⟨i, rfl, rfl⟩) fun _ => ev_ge e1 ev_int).is (by rw [decide_eq_true (ho i rfl)]; rfl)
abbrev s_is_square_of : Stmt := topS 13
abbrev n_is_square_of : List Str := ["value", "test", "many", "row", "each"]
theorem sc_is_square_of : FnScope n_is_square_of ["value", "test"] (defScope s_is_square_of) := ⟨rfl, rfl, rfl, by decide +kernel, rfl, by decide +kernel, by decide +kernel⟩
def spSq (fe : Addr) : Sp := fun vs H Q _ => ∃ (p : Two) (v : V) (P : HT.Pat) (n : Nat), p.2 = H ∧ Ok p ∧ vs = [v, .ref fe] ∧ Da p.1 v (ePat P) ∧ IsPat P n ∧ ∀ u q, Le p q → Da q.1 u (.bool true) → Q u q.2
theorem ok_is_square_of {f ft : Addr} {fd fdt : FuncData} (F : Fun K "is_square_of" "is_square_of" s_is_square_of f fd) (B : Blt mg) (G_test : FnOk P w K mg base CX0 2 ft fdt ["value"] (spF R_is_entry))
    (kp_test : PySem.W.keepIn K (.ref ft) = true) (b_test : Binds K fdt ["value"] []) : FnOk P w K mg base CX0 3 f fd ["value", "test"] (spSq ft) := by
  refine F.ok sc_is_square_of (fun vs H Q E ⟨_, _, _, _, _, _, e, _⟩ => by rw [e]; rfl) (fun cdv A outer s H vs Q E hr h => ?_)
  have sc := sc_is_square_of
  obtain ⟨p, v, T, n, rfl, ok, rfl, h1, hP, k⟩ := h
  refine ⟨_, pss_cons (ps_if (PW.pt (pw_or (pt_not (pt_val (pe_callB (call_isiK' K) (by rfl) B.isinstance_ bo_isinstance (pa_cons (pv 0) (pa_cons (pe_bltn (v := .ty "tuple") (by rfl) B.tuple_ bo_tuple rfl) pa_nil))))) (pw_or1 (pt_cmpR (op_eqDK K hr.units) (pv 0) (pe_tup (pa_nil)) (nomark _))))) (pss_one (ps_ret (pe_bl))) (pss_nil))
      (pss_cons (ps_set (i := 2) sc.nd rfl (Or.inr rfl) (pe_callB (call_lenK K) (by rfl) B.len_ bo_len (pa_cons (pv 0) pa_nil)))
      (pss_one (ps_ret (pe_callB (call_allK K rfl) (by rfl) B.all_ bo_all (pa_cons (pe_lc (own := [("row", 3)]) rfl sc.nd (pi_tupK K (pv 0)) (blkOk_by (own := [("row", 3)]) (by show blkC n_is_square_of (defScope s_is_square_of) _ _ = true; decide +kernel)) (fun _ _ _ _ _ => pg_name (i := 3) sc.nd rfl (Or.inl rfl)) (fun _ _ _ _ _ => pts_nil) (fun _ _ _ _ _ => pe_and (pe_callB (call_isiK' K) (by rfl) B.isinstance_ bo_isinstance (pa_cons (pv 3) (pa_cons (pe_bltn (v := .ty "tuple") (by rfl) B.tuple_ bo_tuple rfl) pa_nil))) (pe_and (pe_cmpR op_eq (pe_callB (call_lenK K) (by rfl) B.len_ bo_len (pa_cons (pv 3) pa_nil)) (pv 2) (nomark _)) (pe_one (pe_callB (call_allK K rfl) (by rfl) B.all_ bo_all (pa_cons (pe_lc (own := [("each", 4)]) rfl sc.nd (pi_tupK K (pv 3)) (blkOk_by (own := [("each", 4)]) (by show blkC n_is_square_of (relS _ (defScope s_is_square_of)) _ _ = true; decide +kernel)) (fun _ _ _ _ _ => pg_name (i := 4) sc.nd rfl (Or.inl rfl)) (fun _ _ _ _ _ => pts_nil) (fun _ _ _ _ _ => pe_callL (i := 1) G_test (hr.mono (by decide)) rfl (by first | exact Or.inl rfl | exact Or.inr (Or.inl rfl) | exact Or.inr (Or.inr rfl)) kp_test b_test .nil pass0 (pa_cons (pv 4) pa_nil))) pa_nil)))))) pa_nil))))), ?_⟩
  have e0 : EvD (tVar 0) (start n_is_square_of [v, .ref ft]) p (ePat T) := ev_var rfl h1
  refine q_when (b := false) ok ((et_or (et_not (et_B (isi_tuple e0))) fun _ => et_D (ev_eqD e0 (ev_tup ea_nil) (sh_pat T).shaped sh_nilT)).is ?_) (fun z => nomatch z) fun _ q l => ?_
  · obtain ⟨r, rs, rfl⟩ := pat_cons hP
    show (false || PyData.eqv (.tuple (eRow r :: rs.map eRow)) (.tuple [])) = false
    rw [eqv_nilT]; rfl
  · have e1 := e0.up l
    refine q_asg l.ok (ev_lenT e1) fun m q2 l2 hm => ?_
    rw [List.length_map] at hm
    have h2 : Da q2.1 v (ePat T) := h1.up (l.trans l2).d
    refine s_ret l2.ok ?_ fun v' q3 l3 h3 => k v' q3 ((l.trans l2).trans l3) h3
    refine ev_allT (as := T) ((en_lc T eRow (fun _ => true) (fun _ => .bool true) (ei_tup (ev_var rfl h2)) (fun r hr x q4 l4 hx Q2 k2 => k2 _ (by rfl) et_yes fun _ => ?_) (by rw [hP.len]; have := hP.le; omega)).is (by rw [filter_all]))
    have ex : EvD (tVar 3) ((wipe [some v, some (V.ref ft), some m, none, none] [3]).set 3 (some x)) q4 (eRow r) := ev_var rfl hx
    have em : EvD (tVar 2) ((wipe [some v, some (V.ref ft), some m, none, none] [3]).set 3 (some x)) q4 (.int (T.length : Int)) := ev_var rfl (hm.up l4.d)
    refine (ev_andV (a := true) (b := true) (isi_tuple ex) fun _ => (ev_andV (a := true) (b := true) ((ev_eqI (ev_lenT ex) em).is ?_) fun _ => ?_).is ?_).is ?_
    · rw [List.length_map, hP.row r hr, hP.len]; simp
    · refine ev_allT (as := r) ((en_lc r eO (fun _ => true) (fun _ => .bool true) (ei_tup ex) (fun o ho x2 q5 l5 hx2 Q3 k3 => k3 _ (by rfl) et_yes fun _ => ?_) (by rw [hP.row r hr]; have := hP.le; omega)).is (by rw [filter_all]))
      refine fun q6 l6 Q4 k4 => ⟨rfl, ev_call (R := R_is_entry) (ea_cons (ev_var rfl hx2) ea_nil) ⟨o, rfl, fun i e => ?_, rfl⟩ q6 l6 Q4 k4⟩
      subst e
      exact (ent_mem hP hr ho).1
    · rfl
    · rfl
abbrev s_is_patterned : Stmt := topS 15
abbrev n_is_patterned : List Str := ["value"]
theorem sc_is_patterned : FnScope n_is_patterned ["value"] (defScope s_is_patterned) := ⟨rfl, rfl, rfl, by decide +kernel, rfl, by decide +kernel, by decide +kernel⟩
def R_pat (d0 : PyData) : Rel := fun ds d => ∃ (P : HT.Pat) (n : Nat), ds = [ePat P] ∧ IsPat P n ∧ d = d0
theorem R_pat_len {d0 : PyData} : ∀ ds d, R_pat d0 ds d → ds.length = 1 := fun ds d ⟨_, _, h, _⟩ => by rw [h]; rfl
theorem ok_is_patterned {f fe : Addr} {fd : FuncData} (F : Fun K "is_patterned" "is_patterned" s_is_patterned f fd) (mg_is_entry : mg "is_entry" = some (.ref fe)) (C_is_square_of : Cal P w K mg base 3 "is_square_of" ["value", "test"] (spSq fe)) :
    FnOk P w K mg base CX0 4 f fd ["value"] (spF (R_pat (.bool true))) := by
  refine F.ok sc_is_patterned (fun vs H Q E h => spF_len R_pat_len h) (fun cdv A outer s H vs Q E hr h => ?_)
  have sc := sc_is_patterned
  obtain ⟨p, ds, d, rfl, ok, hv, ⟨T, n, rfl, hP, rfl⟩, k⟩ := h
  obtain ⟨v, rfl, h1⟩ := hv.one'
  refine ⟨_, pss_one (ps_ret (pe_cal C_is_square_of (hr.mono (by decide)) (by rfl) (pa_cons (pv 0) (pa_cons (pe_glob (v := V.ref _) (by rfl) mg_is_entry rfl) pa_nil)))), ?_⟩
  exact ⟨v, rfl, p, v, T, n, rfl, ok, rfl, h1, hP, k⟩
abbrev s_check_pattern : Stmt := topS 16
abbrev n_check_pattern : List Str := ["value"]
theorem sc_check_pattern : FnScope n_check_pattern ["value"] (defScope s_check_pattern) := ⟨rfl, rfl, rfl, by decide +kernel, rfl, by decide +kernel, by decide +kernel⟩
theorem ok_check_pattern {f : Addr} {fd : FuncData} (F : Fun K "check_pattern" "check_pattern" s_check_pattern f fd) (C_is_patterned : Cal P w K mg base 4 "is_patterned" ["value"] (spF (R_pat (.bool true)))) :
    FnOk P w K mg base CX0 5 f fd ["value"] (spF (R_pat .none)) := by
  refine F.ok sc_check_pattern (fun vs H Q E h => spF_len R_pat_len h) (fun cdv A outer s H vs Q E hr h => ?_)
  have sc := sc_check_pattern
  obtain ⟨p, ds, d, rfl, ok, hv, ⟨T, n, rfl, hP, rfl⟩, k⟩ := h
  obtain ⟨v, rfl, h1⟩ := hv.one'
  refine ⟨_, pss_one (ps_if (pt_not (pt_val (pe_cal C_is_patterned (hr.mono (by decide)) (by rfl) (pa_cons (pv 0) pa_nil)))) (pss_never) (pss_nil)), ?_⟩
  exact s_if (b := false) ok ((et_not (et_B (ev_call (ea_cons (ev_var rfl h1) ea_nil) ⟨T, n, rfl, hP, rfl⟩))).is rfl) (fun z => nomatch z) fun _ q l => k _ q l .non
abbrev s_are_wholes : Stmt := topS 2
abbrev n_are_wholes : List Str := ["value", "many", "each"]
theorem sc_are_wholes : FnScope n_are_wholes ["value", "many"] (defScope s_are_wholes) := ⟨rfl, rfl, rfl, by decide +kernel, rfl, by decide +kernel, by decide +kernel⟩
def R_wholes : Rel := fun ds d => ∃ xs : List Int, ds = [eIs xs, .int (xs.length : Int)] ∧ xs.length ≤ 100 ∧ d = .bool true
theorem R_wholes_len : ∀ ds d, R_wholes ds d → ds.length = 2 := fun ds d ⟨_, h, _⟩ => by rw [h]; rfl
theorem ok_are_wholes {f : Addr} {fd : FuncData} (F : Fun K "are_wholes" "are_wholes" s_are_wholes f fd) (B : Blt mg) (C_is_whole : Cal P w K mg base 1 "is_whole" ["value"] (spF R_is_whole)) : FnOk P w K mg base CX0 2 f fd ["value", "many"] (spF R_wholes) := by
  refine F.ok sc_are_wholes (fun vs H Q E h => spF_len R_wholes_len h) (fun cdv A outer s H vs Q E hr h => ?_)
  have sc := sc_are_wholes
  obtain ⟨p, ds, d, rfl, ok, hv, ⟨xs, rfl, hz, rfl⟩, k⟩ := h
  obtain ⟨v, u, rfl, h1, h2⟩ := hv.two'
  refine ⟨_, pss_one (ps_ret (pe_and (pe_callB (call_isiK' K) (by rfl) B.isinstance_ bo_isinstance (pa_cons (pv 0) (pa_cons (pe_bltn (v := .ty "tuple") (by rfl) B.tuple_ bo_tuple rfl) pa_nil))) (pe_and (pe_cmpR op_eq (pe_callB (call_lenK K) (by rfl) B.len_ bo_len (pa_cons (pv 0) pa_nil)) (pv 1) (nomark _)) (pe_one (pe_callB (call_allK K rfl) (by rfl) B.all_ bo_all (pa_cons (pe_lc (own := [("each", 2)]) rfl sc.nd (pi_tupK K (pv 0)) (blkOk_by (own := [("each", 2)]) (by show blkC n_are_wholes (defScope s_are_wholes) _ _ = true; decide +kernel)) (fun _ _ _ _ _ => pg_name (i := 2) sc.nd rfl (Or.inl rfl)) (fun _ _ _ _ _ => pts_nil) (fun _ _ _ _ _ => pe_cal C_is_whole (hr.mono (by decide)) (by rfl) (pa_cons (pv 2) pa_nil))) pa_nil)))))), ?_⟩
  have e0 : EvD (tVar 0) (start n_are_wholes [v, u]) p (eIs xs) := ev_var rfl h1
  refine s_ret ok ((ev_andV (a := true) (b := true) (isi_tuple e0) fun _ => (ev_andV (a := true) (b := true) ((ev_eqI (ev_lenT e0) (ev_var rfl h2)).is ?_) fun _ => ?_).is rfl).is rfl) k
  · rw [List.length_map]; simp
  · refine ev_allT (as := xs) ((en_lc xs PyData.int (fun _ => true) (fun _ => .bool true) (ei_tup e0) (fun i hi x q l hx Q2 k2 => k2 _ (by rfl) et_yes fun _ => ?_) (by omega)).is (by rw [filter_all]))
    exact ev_call (ea_cons (ev_var rfl hx) ea_nil) ⟨i, rfl, rfl⟩
abbrev s_are_counts : Stmt := topS 21
abbrev n_are_counts : List Str := ["value", "many", "number"]
theorem sc_are_counts : FnScope n_are_counts ["value", "many"] (defScope s_are_counts) := ⟨rfl, rfl, rfl, by decide +kernel, rfl, by decide +kernel, by decide +kernel⟩
def R_counts : Rel := fun ds d => ∃ xs : List Int, ds = [eIs xs, .int (xs.length : Int)] ∧ xs.length ≤ 100 ∧ (∀ x ∈ xs, 0 ≤ x) ∧ d = .bool true
theorem R_counts_len : ∀ ds d, R_counts ds d → ds.length = 2 := fun ds d ⟨_, h, _⟩ => by rw [h]; rfl
theorem ok_are_counts {f : Addr} {fd : FuncData} (F : Fun K "are_counts" "are_counts" s_are_counts f fd) (B : Blt mg) (C_are_wholes : Cal P w K mg base 2 "are_wholes" ["value", "many"] (spF R_wholes)) : FnOk P w K mg base CX0 3 f fd ["value", "many"] (spF R_counts) := by
  refine F.ok sc_are_counts (fun vs H Q E h => spF_len R_counts_len h) (fun cdv A outer s H vs Q E hr h => ?_)
  have sc := sc_are_counts
  obtain ⟨p, ds, d, rfl, ok, hv, ⟨xs, rfl, hz, hx0, rfl⟩, k⟩ := h
  obtain ⟨v, u, rfl, h1, h2⟩ := hv.two'
  refine ⟨_, pss_one (ps_ret (pe_and (pe_cal C_are_wholes (hr.mono (by decide)) (by rfl) (pa_cons (pv 0) (pa_cons (pv 1) pa_nil))) (pe_one (pe_callB (call_allK K rfl) (by rfl) B.all_ bo_all (pa_cons (pe_lc (own := [("number", 2)]) rfl sc.nd (pi_tupK K (pv 0)) (blkOk_by (own := [("number", 2)]) (by show blkC n_are_counts (defScope s_are_counts) _ _ = true; decide +kernel)) (fun _ _ _ _ _ => pg_name (i := 2) sc.nd rfl (Or.inl rfl)) (fun _ _ _ _ _ => pts_nil) (fun _ _ _ _ _ => pe_cmpR op_ge (pv 2) (pe_int) (nomark _))) pa_nil))))), ?_⟩
  have e0 : EvD (tVar 0) (start n_are_counts [v, u]) p (eIs xs) := ev_var rfl h1
  refine s_ret ok ((ev_andV (a := true) (b := true) (ev_call (ea_cons e0 (ea_cons (ev_var rfl h2) ea_nil)) ⟨xs, rfl, hz, rfl⟩) fun _ => ?_).is rfl) k
  refine ev_allT (as := xs) ((en_lc xs PyData.int (fun _ => true) (fun _ => .bool true) (ei_tup e0) (fun i hi x q l hx Q2 k2 => k2 _ (by rfl) et_yes fun _ => ?_) (by omega)).is (by rw [filter_all]))
  exact (ev_ge (ev_var rfl hx) ev_int).is (by rw [decide_eq_true (hx0 i hi)])
end
end HR

namespace HR
open PySem PySem.Spec PyProof.Rows L2
open HT (ent IsPat Offs Cols top)
/-! ### what a pattern mentions -/
abbrev Men := Nat × Nat × Option Int
def m3 (P : HT.Pat) : List Men := P.zipIdx.flatMap fun x => x.1.zipIdx.map fun y => (x.2, y.2, y.1)
def enc3 (t : Men) : PyData := .tuple [.int (t.1 : Int), .int (t.2.1 : Int), eO t.2.2]
def ment (P : HT.Pat) : List Men := (m3 P).filter fun t => t.2.2.isSome
theorem enumD_map {α : Type} (f : α → PyData) (as : List α) : enumD (as.map f) = as.zipIdx.map fun x => .tuple [.int (x.2 : Int), f x.1] := by
  unfold enumD
  rw [List.zipIdx_map, List.map_map]
  rfl
theorem mem_m3 {P : HT.Pat} {n : Nat} (h : IsPat P n) {i j : Nat} {o : Option Int} : (i, j, o) ∈ m3 P ↔ i < n ∧ j < n ∧ o = ent P i j := by
  unfold m3
  rw [List.mem_flatMap]
  constructor
  · rintro ⟨⟨r, i'⟩, h1, h2⟩
    rw [List.mem_map] at h2
    obtain ⟨⟨o', j'⟩, h3, h4⟩ := h2
    obtain rfl : i' = i := congrArg Prod.fst h4
    obtain rfl : j' = j := congrArg (fun t : Men => t.2.1) h4
    obtain rfl : o' = o := congrArg (fun t : Men => t.2.2) h4
    have e1 : P[i']? = some r := List.mem_zipIdx_iff_getElem?.mp h1
    have e2 : r[j']? = some o' := List.mem_zipIdx_iff_getElem?.mp h3
    obtain ⟨l1, _⟩ := List.getElem?_eq_some_iff.mp e1
    obtain ⟨l2, _⟩ := List.getElem?_eq_some_iff.mp e2
    have hr := h.row r (List.mem_of_getElem? e1)
    exact ⟨by rw [← h.len]; exact l1, by omega, (ent_of e1 e2).symm⟩
  · rintro ⟨hi, hj, rfl⟩
    obtain ⟨r, e1, e2, e3⟩ := ent_at h hi hj
    exact ⟨(r, i), List.mem_zipIdx_iff_getElem?.mpr e1, List.mem_map.mpr ⟨(ent P i j, j), List.mem_zipIdx_iff_getElem?.mpr e3, rfl⟩⟩
theorem mem_ment {P : HT.Pat} {n : Nat} (h : IsPat P n) {t : Men} (ht : t ∈ ment P) : ∃ i j a, t = (i, j, some a) ∧ i < n ∧ j < n ∧ ent P i j = some a := by
  obtain ⟨i, j, o⟩ := t
  unfold ment at ht
  rw [List.mem_filter] at ht
  obtain ⟨h1, h2, h3⟩ := (mem_m3 h).mp ht.1
  cases o with
  | none => have := ht.2; cases this
  | some a => exact ⟨i, j, a, rfl, h1, h2, h3.symm⟩
theorem ment_mem {P : HT.Pat} {n : Nat} (h : IsPat P n) {i j : Nat} {a : Int} (hi : i < n) (hj : j < n) (ha : ent P i j = some a) : (i, j, some a) ∈ ment P := by
  unfold ment
  rw [List.mem_filter]
  exact ⟨(mem_m3 h).mpr ⟨hi, hj, ha.symm⟩, rfl⟩
theorem flat_len {α β : Type} {f : α → List β} {k : Nat} : ∀ {xs : List α}, (∀ x ∈ xs, (f x).length ≤ k) → (xs.flatMap f).length ≤ k * xs.length := by
  intro xs
  induction xs with
  | nil => intro _; exact Nat.zero_le _
  | cons x xs ih =>
    intro h
    rw [List.flatMap_cons, List.length_append, List.length_cons]
    have := h x (List.mem_cons_self ..)
    have := ih fun y hy => h y (List.mem_cons_of_mem _ hy)
    rw [Nat.mul_add]
    omega
theorem m3_len {P : HT.Pat} {n : Nat} (h : IsPat P n) : (m3 P).length ≤ 16 := by
  have h1 : (m3 P).length ≤ 4 * P.zipIdx.length := flat_len fun x hx => by
    obtain ⟨r, i⟩ := x
    rw [List.length_map, List.length_zipIdx]
    have := h.row r (List.mem_of_getElem? (List.mem_zipIdx_iff_getElem?.mp hx))
    have := h.le
    show r.length ≤ 4
    omega
  rw [List.length_zipIdx, h.len] at h1
  have := h.le
  omega
theorem ment_len {P : HT.Pat} {n : Nat} (h : IsPat P n) : (ment P).length ≤ 16 := Nat.le_trans (List.length_filter_le _ _) (m3_len h)
section
variable {P : Program} {w : World} {K : PySem.W.Frag} {mg : Str → Option Value} {base : Heap}
abbrev s_mentions : Stmt := topS 22
abbrev n_mentions : List Str := ["pattern", "found", "at", "row", "unknown", "order", "each"]
theorem sc_mentions : FnScope n_mentions ["pattern"] (defScope s_mentions) := ⟨rfl, rfl, rfl, by decide +kernel, rfl, by decide +kernel, by decide +kernel⟩
def R_mentions : Rel := fun ds d => ∃ (T : HT.Pat) (n : Nat), ds = [ePat T] ∧ IsPat T n ∧ d = .list ((ment T).map enc3)
theorem R_mentions_len : ∀ ds d, R_mentions ds d → ds.length = 1 := fun ds d ⟨_, _, h, _⟩ => by rw [h]; rfl
theorem ok_mentions {f : Addr} {fd : FuncData} (F : Fun K "mentions" "mentions" s_mentions f fd) (B : Blt mg) : FnOk P w K mg base CX0 1 f fd ["pattern"] (spF R_mentions) := by
  refine F.ok sc_mentions (fun vs H Q E h => spF_len R_mentions_len h) (fun cdv A outer s H vs Q E hr h => ?_)
  have sc := sc_mentions
  obtain ⟨p, ds, d, rfl, ok, hv, ⟨T, n, rfl, hP, rfl⟩, k⟩ := h
  obtain ⟨v, rfl, h1⟩ := hv.one'
  refine ⟨_, pss_cons (ps_setLc2 (i := 1) (vs1 := [4, 5]) (own := [("at", 2), ("row", 3), ("unknown", 4), ("order", 5)]) rfl sc.nd rfl rfl (sw_true rfl rfl rfl (by decide +kernel)) (pi_enumTK K (by rfl) B.enumerate_ (pa_cons (pv 0) pa_nil)) (blkOk_by (own := [("at", 2), ("row", 3), ("unknown", 4), ("order", 5)]) (by show blkC n_mentions (defScope s_mentions) _ _ = true; decide +kernel)) (by decide) (fun _ _ _ _ _ => pg_tupK K (n := 2) rfl (pgs_cons (pg_name (i := 2) sc.nd rfl (Or.inl rfl)) (pgs_cons (pg_name (i := 3) sc.nd rfl (Or.inl rfl)) (pgs_nil)))) (fun _ _ _ _ _ => pts_nil) (fun _ _ _ _ _ => pi_enumTK K (by rfl) B.enumerate_ (pa_cons (pv 3) pa_nil)) (fun _ _ _ _ _ => pg_tupK K (n := 2) rfl (pgs_cons (pg_name (i := 4) sc.nd rfl (Or.inl rfl)) (pgs_cons (pg_name (i := 5) sc.nd rfl (Or.inl rfl)) (pgs_nil)))) (fun _ _ _ _ _ => pts_nil) (fun _ _ _ _ _ => pe_tup (pa_cons (pv 2) (pa_cons (pv 4) (pa_cons (pv 5) pa_nil)))))
      (pss_one (ps_ret (pe_lc (own := [("each", 6)]) rfl sc.nd (pi_listK K (pv 1)) (blkOk_by (own := [("each", 6)]) (by show blkC n_mentions (defScope s_mentions) _ _ = true; decide +kernel)) (fun _ _ _ _ _ => pg_name (i := 6) sc.nd rfl (Or.inl rfl)) (fun _ _ _ _ _ => pts_one (pt_cmpR op_notN (pe_ix (ix_tupK K) (pv 6) (pe_int) (fun _ _ => rfl)) (pe_non) (nomark _))) (fun _ _ _ _ _ => pv 6)))), ?_⟩
  have hn := hP.le
  have e0 : EvD (tVar 0) (start n_mentions [v]) p (ePat T) := ev_var rfl h1
  refine q_asg (d := .list ((m3 T).map enc3)) ok ((en_lc2 (wi1 := iEnumT K (tCons (tVar 3) tNil)) T.zipIdx (fun x => .tuple [.int (x.2 : Int), eRow x.1]) (fun x => x.1.zipIdx) (fun y => .tuple [.int (y.2 : Int), eO y.1]) (fun _ _ => true) (fun x y => .tuple [.int (x.2 : Int), .int (y.2 : Int), eO y.1])
    ((ei_enumT e0).is (enumD_map _ _)) (fun a ha x q l hx Q2 k2 => g_tup2 l.ok hx fun v1 v2 h3 h4 => k2 _ (by rfl) ((ei_enumT (ev_var rfl h4)).is (enumD_map _ _))
      fun b hb x1 q1 l1 e1 hx1 Q3 k3 => g_tup2 l1.ok hx1 fun w1 w2 g1 g2 => k3 _ (by rfl) et_yes fun _ => ev_tup (ea_cons (ev_var rfl (h3.up e1)) (ea_cons (ev_var rfl g1) (ea_cons (ev_var rfl g2) ea_nil)))) ?_ ?_).is ?_).toD fun u q l hu => ?_
  · rw [List.length_zipIdx, hP.len]; omega
  · rintro ⟨r, i⟩ hx
    rw [List.length_zipIdx, hP.row r (List.mem_of_getElem? (List.mem_zipIdx_iff_getElem?.mp hx))]; omega
  · unfold m3
    rw [List.map_flatMap]
    congr 1
    funext x
    rw [filter_all, List.map_map]
    rfl
  · refine s_ret l.ok ?_ fun v' q3 l3 h3 => k v' q3 (l.trans l3) h3
    refine (en_lc (m3 T) enc3 (fun t => t.2.2.isSome) enc3 (ei_list (ev_var rfl hu)) (fun t ht x q4 l4 hx Q2 k2 => k2 _ (by rfl) ?_ fun _ => ev_var rfl hx) (by have := m3_len hP; omega)).toD
    exact et_D (ev_notN (ev_ixT (n := 2) (ev_var rfl hx) ev_int rfl))
end
end HR

namespace HR
open PySem PySem.Spec PyProof.Rows L2
open HT (ent IsPat Offs Cols top sm)
section
variable {P : Program} {w : World} {K : PySem.W.Frag} {mg : Str → Option Value} {base : Heap}
/-- a pattern and offsets of it -/
structure IsOff (T : HT.Pat) (n : Nat) (c d : List Int) : Prop where
  pat : IsPat T n
  lc : c.length = n
  ld : d.length = n
  offs : Offs T n (fI c) (fI d)
theorem IsOff.cnn {T n c d} (h : IsOff T n c d) : ∀ x ∈ c, 0 ≤ x := fun x hx => by
  obtain ⟨i, hi, e⟩ := List.getElem_of_mem hx
  have := h.offs.c0 i (by rw [← h.lc]; exact hi)
  have e2 := fI_at hi
  rw [List.getElem?_eq_getElem hi, e] at e2
  rw [Option.some.inj e2]; exact this
theorem IsOff.dnn {T n c d} (h : IsOff T n c d) : ∀ x ∈ d, 0 ≤ x := fun x hx => by
  obtain ⟨i, hi, e⟩ := List.getElem_of_mem hx
  have := h.offs.d0 i (by rw [← h.ld]; exact hi)
  have e2 := fI_at hi
  rw [List.getElem?_eq_getElem hi, e] at e2
  rw [Option.some.inj e2]; exact this
abbrev s_are_offsets_of : Stmt := topS 23
abbrev n_are_offsets_of : List Str := ["pattern", "value", "many", "at", "unknown", "order", "each"]
theorem sc_are_offsets_of : FnScope n_are_offsets_of ["pattern", "value"] (defScope s_are_offsets_of) := ⟨rfl, rfl, rfl, by decide +kernel, rfl, by decide +kernel, by decide +kernel⟩
def R_off (d0 : PyData) : Rel := fun ds d => ∃ (T : HT.Pat) (n : Nat) (c e : List Int), ds = [ePat T, eOff c e] ∧ IsOff T n c e ∧ d = d0
theorem R_off_len {d0 : PyData} : ∀ ds d, R_off d0 ds d → ds.length = 2 := fun ds d ⟨_, _, _, _, h, _⟩ => by rw [h]; rfl
theorem ok_are_offsets_of {f : Addr} {fd : FuncData} (F : Fun K "are_offsets_of" "are_offsets_of" s_are_offsets_of f fd) (B : Blt mg) (C_are_counts : Cal P w K mg base 3 "are_counts" ["value", "many"] (spF R_counts))
    (C_mentions : Cal P w K mg base 1 "mentions" ["pattern"] (spF R_mentions)) : FnOk P w K mg base CX0 4 f fd ["pattern", "value"] (spF (R_off (.bool true))) := by
  refine F.ok sc_are_offsets_of (fun vs H Q E h => spF_len R_off_len h) (fun cdv A outer s H vs Q E hr h => ?_)
  have sc := sc_are_offsets_of
  obtain ⟨p, ds, d, rfl, ok, hv, ⟨T, n, c, e, rfl, hO, rfl⟩, k⟩ := h
  obtain ⟨v, u, rfl, h1, h2⟩ := hv.two'
  refine ⟨_, pss_cons (ps_set (i := 2) sc.nd rfl (Or.inr rfl) (pe_callB (call_lenK K) (by rfl) B.len_ bo_len (pa_cons (pv 0) pa_nil)))
      (pss_cons (ps_if (PW.pt (pw_or (pt_not (pt_val (pe_callB (call_isiK' K) (by rfl) B.isinstance_ bo_isinstance (pa_cons (pv 1) (pa_cons (pe_bltn (v := .ty "tuple") (by rfl) B.tuple_ bo_tuple rfl) pa_nil))))) (pw_or (pt_cmpR op_ne (pe_callB (call_lenK K) (by rfl) B.len_ bo_len (pa_cons (pv 1) pa_nil)) (pe_int) (nomark _)) (pw_or1 (pt_not (pt_val (pe_callB (call_allK K rfl) (by rfl) B.all_ bo_all (pa_cons (pe_lc (own := [("each", 6)]) rfl sc.nd (pi_tupK K (pv 1)) (blkOk_by (own := [("each", 6)]) (by show blkC n_are_offsets_of (defScope s_are_offsets_of) _ _ = true; decide +kernel)) (fun _ _ _ _ _ => pg_name (i := 6) sc.nd rfl (Or.inl rfl)) (fun _ _ _ _ _ => pts_nil) (fun _ _ _ _ _ => pe_cal C_are_counts (hr.mono (by decide)) (by rfl) (pa_cons (pv 6) (pa_cons (pv 2) pa_nil)))) pa_nil)))))))) (pss_one (ps_ret (pe_bl))) (pss_nil))
      (pss_one (ps_ret (pe_callB (call_allK K rfl) (by rfl) B.all_ bo_all (pa_cons (pe_lc (own := [("at", 3), ("unknown", 4), ("order", 5)]) rfl sc.nd (pi_listK K (pe_cal C_mentions (hr.mono (by decide)) (by rfl) (pa_cons (pv 0) pa_nil))) (blkOk_by (own := [("at", 3), ("unknown", 4), ("order", 5)]) (by show blkC n_are_offsets_of (defScope s_are_offsets_of) _ _ = true; decide +kernel)) (fun _ _ _ _ _ => pg_tupK K (n := 3) rfl (pgs_cons (pg_name (i := 3) sc.nd rfl (Or.inl rfl)) (pgs_cons (pg_name (i := 4) sc.nd rfl (Or.inl rfl)) (pgs_cons (pg_name (i := 5) sc.nd rfl (Or.inl rfl)) (pgs_nil))))) (fun _ _ _ _ _ => pts_nil) (fun _ _ _ _ _ => pe_cmpR op_ge (pe_op op_sub (pe_ix (ix_tupK K) (pe_ix (ix_tupK K) (pv 1) (pe_int) (fun _ _ => rfl)) (pv 4) (fun _ _ => rfl)) (pe_ix (ix_tupK K) (pe_ix (ix_tupK K) (pv 1) (pe_int) (fun _ _ => rfl)) (pv 3) (fun _ _ => rfl))) (pv 5) (nomark _))) pa_nil))))), ?_⟩
  have hn := hO.pat.le
  refine q_asg ok (ev_lenT (ev_var (i := 0) rfl h1)) fun m q l hm => ?_
  rw [List.length_map, hO.pat.len] at hm
  have h1' := h1.up l.d
  have h2' := h2.up l.d
  have e1 : EvD (tVar 1) (List.set (start n_are_offsets_of [v, u]) 2 (some m)) q (eOff c e) := ev_var rfl h2'
  refine q_when (b := false) l.ok ((et_or (a := false) (b := false) ((et_not (et_B (isi_tuple e1))).is rfl) fun _ => (et_or (a := false) (b := false) ((et_D (ev_neI (ev_lenT e1) ev_int)).is rfl) fun _ => (et_not (a := true) (et_B ?_)).is rfl).is rfl).is rfl) (fun z => nomatch z) fun _ q2 l2 => ?_
  · refine ev_allT (as := [c, e]) ((en_lc [c, e] eIs (fun _ => true) (fun _ => .bool true) (ei_tup e1) (fun x hx y q3 l3 hy Q2 k2 => k2 _ (by rfl) et_yes fun _ => ?_) (by simp)).is (by rw [filter_all]))
    refine ev_call (ea_cons (ev_var rfl hy) (ea_cons (ev_var rfl (hm.up l3.d)) ea_nil)) ⟨x, ?_, ?_, ?_, rfl⟩
    · rcases (by simpa using hx : x = c ∨ x = e) with rfl | rfl
      · rw [hO.lc]
      · rw [hO.ld]
    · rcases (by simpa using hx : x = c ∨ x = e) with rfl | rfl
      · rw [hO.lc]; omega
      · rw [hO.ld]; omega
    · rcases (by simpa using hx : x = c ∨ x = e) with rfl | rfl
      · exact hO.cnn
      · exact hO.dnn
  · refine s_ret l2.ok ?_ fun v' q3 l3 h3 => k v' q3 ((l.trans l2).trans l3) h3
    refine ev_allT (as := ment T) ((en_lc (ment T) enc3 (fun _ => true) (fun _ => .bool true) (ei_list (ev_call (ea_cons (ev_var rfl (h1'.up l2.d)) ea_nil) ⟨T, n, rfl, hO.pat, rfl⟩)) (fun t ht x q3 l3 hx Q2 k2 => ?_) (by have := ment_len hO.pat; omega)).is (by rw [filter_all]))
    obtain ⟨i, j, a, rfl, hi, hj, ha⟩ := mem_ment hO.pat ht
    refine g_tup3 l3.ok hx fun w1 w2 w3 g1 g2 g3 => k2 _ (by rfl) et_yes fun _ => ?_
    have eo := e1.up (l2.trans l3)
    have f1 := fI_at (c := e) (i := j) (by rw [hO.ld]; exact hj)
    have f2 := fI_at (c := c) (i := i) (by rw [hO.lc]; exact hi)
    have x1 : EvD (tVar 1) _ q3 (eOff c e) := ev_var (σ := ((((wipe ((start n_are_offsets_of [v, u]).set 2 (some m)) [3, 4, 5]).set 3 (some w1)).set 4 (some w2)).set 5 (some w3))) rfl (h2'.up (l2.trans l3).d)
    refine (ev_ge (ev_sub (ev_ixT (n := j) (ev_ixT (n := 1) x1 ev_int rfl) (ev_var rfl g2) (eI_at f1)) (ev_ixT (n := i) (ev_ixT (n := 0) x1 ev_int rfl) (ev_var rfl g1) (eI_at f2))) (ev_var (d := .int a) rfl g3)).is ?_
    rw [decide_eq_true (hO.offs.feas i j a hi hj ha)]
abbrev s_span_by : Stmt := topS 24
abbrev n_span_by : List Str := ["offsets"]
theorem sc_span_by : FnScope n_span_by ["offsets"] (defScope s_span_by) := ⟨rfl, rfl, rfl, by decide +kernel, rfl, by decide +kernel, by decide +kernel⟩
def R_span : Rel := fun ds d => ∃ (c e : List Int), ds = [eOff c e] ∧ d = .int (e.sum - c.sum)
theorem R_span_len : ∀ ds d, R_span ds d → ds.length = 1 := fun ds d ⟨_, _, h, _⟩ => by rw [h]; rfl
theorem ok_span_by {f : Addr} {fd : FuncData} (F : Fun K "span_by" "span_by" s_span_by f fd) (B : Blt mg) : FnOk P w K mg base CX0 1 f fd ["offsets"] (spF R_span) := by
  refine F.ok sc_span_by (fun vs H Q E h => spF_len R_span_len h) (fun cdv A outer s H vs Q E hr h => ?_)
  have sc := sc_span_by
  obtain ⟨p, ds, d, rfl, ok, hv, ⟨c, e, rfl, rfl⟩, k⟩ := h
  obtain ⟨v, rfl, h1⟩ := hv.one'
  refine ⟨_, pss_one (ps_ret (pe_op op_sub (pe_callB (call_sumTK K rfl) (by rfl) B.sum_ bo_sum (pa_cons (pe_ix (ix_tupK K) (pv 0) (pe_int) (fun _ _ => rfl)) pa_nil)) (pe_callB (call_sumTK K rfl) (by rfl) B.sum_ bo_sum (pa_cons (pe_ix (ix_tupK K) (pv 0) (pe_int) (fun _ _ => rfl)) pa_nil)))), ?_⟩
  have e0 : EvD (tVar 0) (start n_span_by [v]) p (eOff c e) := ev_var rfl h1
  exact s_ret ok (ev_sub (ev_sumT (ev_ixT (n := 1) e0 ev_int rfl)) (ev_sumT (ev_ixT (n := 0) e0 ev_int rfl))) k
abbrev s_check_offsets : Stmt := topS 28
abbrev n_check_offsets : List Str := ["pattern", "value"]
theorem sc_check_offsets : FnScope n_check_offsets ["pattern", "value"] (defScope s_check_offsets) := ⟨rfl, rfl, rfl, by decide +kernel, rfl, by decide +kernel, by decide +kernel⟩
theorem ok_check_offsets {f : Addr} {fd : FuncData} (F : Fun K "check_offsets" "check_offsets" s_check_offsets f fd) (C_are_offsets_of : Cal P w K mg base 4 "are_offsets_of" ["pattern", "value"] (spF (R_off (.bool true)))) :
    FnOk P w K mg base CX0 5 f fd ["pattern", "value"] (spF (R_off .none)) := by
  refine F.ok sc_check_offsets (fun vs H Q E h => spF_len R_off_len h) (fun cdv A outer s H vs Q E hr h => ?_)
  have sc := sc_check_offsets
  obtain ⟨p, ds, d, rfl, ok, hv, ⟨T, n, c, e, rfl, hO, rfl⟩, k⟩ := h
  obtain ⟨v, u, rfl, h1, h2⟩ := hv.two'
  refine ⟨_, pss_one (ps_if (pt_not (pt_val (pe_cal C_are_offsets_of (hr.mono (by decide)) (by rfl) (pa_cons (pv 0) (pa_cons (pv 1) pa_nil))))) (pss_never) (pss_nil)), ?_⟩
  exact s_if (b := false) ok ((et_not (et_B (ev_call (ea_cons (ev_var rfl h1) (ea_cons (ev_var rfl h2) ea_nil)) ⟨T, n, c, e, rfl, hO, rfl⟩))).is rfl) (fun z => nomatch z) fun _ q l => k _ q l .non
abbrev s_are_offsets : Stmt := topS 29
abbrev n_are_offsets : List Str := ["pattern", "value"]
theorem sc_are_offsets : FnScope n_are_offsets ["pattern", "value"] (defScope s_are_offsets) := ⟨rfl, rfl, rfl, by decide +kernel, rfl, by decide +kernel, by decide +kernel⟩
theorem ok_are_offsets {f : Addr} {fd : FuncData} (F : Fun K "are_offsets" "are_offsets" s_are_offsets f fd) (C_check_pattern : Cal P w K mg base 5 "check_pattern" ["value"] (spF (R_pat .none)))
    (C_are_offsets_of : Cal P w K mg base 4 "are_offsets_of" ["pattern", "value"] (spF (R_off (.bool true)))) : FnOk P w K mg base CX0 6 f fd ["pattern", "value"] (spF (R_off (.bool true))) := by
  refine F.ok sc_are_offsets (fun vs H Q E h => spF_len R_off_len h) (fun cdv A outer s H vs Q E hr h => ?_)
  have sc := sc_are_offsets
  obtain ⟨p, ds, d, rfl, ok, hv, ⟨T, n, c, e, rfl, hO, rfl⟩, k⟩ := h
  obtain ⟨v, u, rfl, h1, h2⟩ := hv.two'
  refine ⟨_, pss_cons (ps_expr (pe_cal C_check_pattern (hr.mono (by decide)) (by rfl) (pa_cons (pv 0) pa_nil)))
      (pss_one (ps_ret (pe_cal C_are_offsets_of (hr.mono (by decide)) (by rfl) (pa_cons (pv 0) (pa_cons (pv 1) pa_nil))))), ?_⟩
  refine s_drop ok (ev_call (ea_cons (ev_var rfl h1) ea_nil) ⟨T, n, rfl, hO.pat, rfl⟩) fun q l => ?_
  exact s_ret l.ok (ev_call (ea_cons (ev_var rfl (h1.up l.d)) (ea_cons (ev_var rfl (h2.up l.d)) ea_nil)) ⟨T, n, c, e, rfl, hO, rfl⟩) fun v' q3 l3 h3 => k v' q3 (l.trans l3) h3
abbrev s_span_of : Stmt := topS 30
abbrev n_span_of : List Str := ["pattern", "offsets"]
theorem sc_span_of : FnScope n_span_of ["pattern", "offsets"] (defScope s_span_of) := ⟨rfl, rfl, rfl, by decide +kernel, rfl, by decide +kernel, by decide +kernel⟩
def R_spanof : Rel := fun ds d => ∃ (T : HT.Pat) (n : Nat) (c e : List Int), ds = [ePat T, eOff c e] ∧ IsOff T n c e ∧ d = .int (e.sum - c.sum)
theorem R_spanof_len : ∀ ds d, R_spanof ds d → ds.length = 2 := fun ds d ⟨_, _, _, _, h, _⟩ => by rw [h]; rfl
theorem ok_span_of {f : Addr} {fd : FuncData} (F : Fun K "span_of" "span_of" s_span_of f fd) (C_check_pattern : Cal P w K mg base 5 "check_pattern" ["value"] (spF (R_pat .none)))
    (C_check_offsets : Cal P w K mg base 5 "check_offsets" ["pattern", "value"] (spF (R_off .none))) (C_span_by : Cal P w K mg base 1 "span_by" ["offsets"] (spF R_span)) : FnOk P w K mg base CX0 6 f fd ["pattern", "offsets"] (spF R_spanof) := by
  refine F.ok sc_span_of (fun vs H Q E h => spF_len R_spanof_len h) (fun cdv A outer s H vs Q E hr h => ?_)
  have sc := sc_span_of
  obtain ⟨p, ds, d, rfl, ok, hv, ⟨T, n, c, e, rfl, hO, rfl⟩, k⟩ := h
  obtain ⟨v, u, rfl, h1, h2⟩ := hv.two'
  refine ⟨_, pss_cons (ps_expr (pe_cal C_check_pattern (hr.mono (by decide)) (by rfl) (pa_cons (pv 0) pa_nil)))
      (pss_cons (ps_expr (pe_cal C_check_offsets (hr.mono (by decide)) (by rfl) (pa_cons (pv 0) (pa_cons (pv 1) pa_nil))))
      (pss_one (ps_ret (pe_cal C_span_by (hr.mono (by decide)) (by rfl) (pa_cons (pv 1) pa_nil))))), ?_⟩
  refine q_drop ok (ev_call (ea_cons (ev_var rfl h1) ea_nil) ⟨T, n, rfl, hO.pat, rfl⟩) fun q l => ?_
  refine q_drop l.ok (ev_call (ea_cons (ev_var rfl (h1.up l.d)) (ea_cons (ev_var rfl (h2.up l.d)) ea_nil)) ⟨T, n, c, e, rfl, hO, rfl⟩) fun q2 l2 => ?_
  have l3 := l.trans l2
  exact s_ret l2.ok (ev_call (ea_cons (ev_var rfl (h2.up l3.d)) ea_nil) ⟨c, e, rfl, rfl⟩) fun v' q4 l4 h4 => k v' q4 (l3.trans l4) h4
abbrev s_tops_over : Stmt := topS 25
abbrev n_tops_over : List Str := ["pattern", "grown", "found", "unknown", "at", "other", "order"]
theorem sc_tops_over : FnScope n_tops_over ["pattern", "grown"] (defScope s_tops_over) := ⟨rfl, rfl, rfl, by decide +kernel, rfl, by decide +kernel, by decide +kernel⟩
/-- the iterated numbers, as lists -/
def topL (T : HT.Pat) (n : Nat) (c : List Int) : List Int := (List.range n).map fun j => top T n (fI c) j
def R_tops : Rel := fun ds d => ∃ (T : HT.Pat) (n : Nat) (c : List Int), ds = [ePat T, .list (c.map .int)] ∧ IsPat T n ∧ c.length = n ∧ Cols T n ∧ d = .list ((topL T n c).map .int)
theorem R_tops_len : ∀ ds d, R_tops ds d → ds.length = 2 := fun ds d ⟨_, _, _, h, _⟩ => by rw [h]; rfl
theorem top_mx {T : HT.Pat} {n : Nat} {c : List Int} {j : Nat} (hP : IsPat T n) (hc : Cols T n) (hj : j < n) :
    IsMx (((ment T).filter fun t => decide (t.2.1 = j)).map fun t => (t.2.2.getD 0) + fI c t.1) (top T n (fI c) j) := by
  obtain ⟨⟨i, a, hi, ha, e⟩, g⟩ := HT.top_spec (c := fI c) hc hj
  refine ⟨List.mem_map.mpr ⟨(i, j, some a), List.mem_filter.mpr ⟨ment_mem hP hi hj ha, by simp⟩, by rw [e]; exact Int.add_comm _ _⟩, fun y hy => ?_⟩
  obtain ⟨t, ht, rfl⟩ := List.mem_map.mp hy
  rw [List.mem_filter] at ht
  obtain ⟨i', j', a', rfl, hi', hj', ha'⟩ := mem_ment hP ht.1
  have e2 : j' = j := of_decide_eq_true ht.2
  subst e2
  have := g i' a' hi' ha'
  show a' + fI c i' ≤ _
  omega
theorem ok_tops_over {f : Addr} {fd : FuncData} (F : Fun K "tops_over" "tops_over" s_tops_over f fd) (B : Blt mg) (C_mentions : Cal P w K mg base 1 "mentions" ["pattern"] (spF R_mentions)) : FnOk P w K mg base CX0 2 f fd ["pattern", "grown"] (spF R_tops) := by
  refine F.ok sc_tops_over (fun vs H Q E h => spF_len R_tops_len h) (fun cdv A outer s H vs Q E hr h => ?_)
  have sc := sc_tops_over
  obtain ⟨p, ds, d, rfl, ok, hv, ⟨T, n, c, rfl, hP, hc, hC, rfl⟩, k⟩ := h
  obtain ⟨v, u, rfl, h1, h2⟩ := hv.two'
  refine ⟨_, pss_cons (ps_set (i := 2) sc.nd rfl (Or.inl rfl) (pe_lst (pa_nil)))
      (pss_cons (ps_for PassesOwn.never rfl (pi_range1 (by rfl) B.range_ (pa_cons (pe_callB (call_lenK K) (by rfl) B.len_ bo_len (pa_cons (pv 0) pa_nil)) pa_nil)) (pg_name (i := 3) sc.nd rfl (Or.inr rfl)) (pss_one (ps_expr (pe_bmK K PySem.F.plainAttrs_list PySem.F.slot_list_append PySem.F.type_list_append mt_append (pv 2) (pa_cons (pe_callB (call_maxK K rfl) (by rfl) B.max_ bo_max (pa_cons (pe_lc (own := [("at", 4), ("other", 5), ("order", 6)]) rfl sc.nd (pi_listK K (pe_cal C_mentions (hr.mono (by decide)) (by rfl) (pa_cons (pv 0) pa_nil))) (blkOk_by (own := [("at", 4), ("other", 5), ("order", 6)]) (by show blkC n_tops_over (defScope s_tops_over) _ _ = true; decide +kernel)) (fun _ _ _ _ _ => pg_tupK K (n := 3) rfl (pgs_cons (pg_name (i := 4) sc.nd rfl (Or.inl rfl)) (pgs_cons (pg_name (i := 5) sc.nd rfl (Or.inl rfl)) (pgs_cons (pg_name (i := 6) sc.nd rfl (Or.inl rfl)) (pgs_nil))))) (fun _ _ _ _ _ => pts_one (pt_cmpR op_eq (pv 5) (pv 3) (nomark _))) (fun _ _ _ _ _ => pe_op op_add (pv 6) (pe_ix (ix_listK K) (pv 1) (pv 4) (fun _ _ => rfl)))) pa_nil)) pa_nil)))))
      (pss_one (ps_ret (pv 2)))), ?_⟩
  have hn := hP.le
  refine q_asgN ok (en_lst ea_nil) fun L vs0 q0 l0 f0 f1 f2 f3 => ?_
  cases f3
  refine q_for l0.ok (List.range n) (fun i : Nat => PyData.int (i : Int)) (ei_rng1 (n := n) (EvD.is (ev_lenT (ev_var rfl (h1.up l0.d))) (by rw [List.length_map, hP.len])) (by omega)) fun r lr => ?_
  obtain ⟨g1, g2⟩ := lr.keep f1 f2
  refine ⟨fun i σ' q => (∃ o, σ' = [some v, some u, some (.ref L), o, none, none, none]) ∧ Le p q ∧ Kp r q ∧ q.1 L = none ∧ ∃ vs, q.2 L = some (.lst vs) ∧ DaAll q.1 vs ((((List.range n).take i).map fun j => top T n (fI c) j).map .int),
    ⟨⟨none, rfl⟩, l0.trans lr, .of (.refl lr.s), g1, [], g2, .nil⟩, fun i σ' q h => h.2.2.1, ?_, ?_⟩
  · rintro i a σ' q x q' ha ⟨⟨o, rfl⟩, lq, kq, hL, ys, hy1, hy2⟩ l' hx
    obtain ⟨m1, m2⟩ := l'.keep hL hy1
    have hi : i < n := by have := (List.getElem?_eq_some_iff.mp ha).1; rw [List.length_range] at this; exact this
    have ea : a = i := by
      rw [List.getElem?_range hi] at ha
      exact (Option.some.inj ha).symm
    subst ea
    have lpq : Le p q' := lq.trans l'
    have hzl : ys.length ≤ n := by
      rw [hy2.length, List.length_map, List.length_map, List.length_take, List.length_range]; omega
    refine s_app (d := .int (top T n (fI c) a)) l'.ok rfl m1 m2 (ev_max ((((en_lc (ment T) enc3 (fun t => decide (t.2.1 = a)) (fun t => .int ((t.2.2.getD 0) + fI c t.1)) (ei_list (ev_call (ea_cons (ev_var rfl (h1.up lpq.d)) ea_nil) ⟨T, n, rfl, hP, rfl⟩)) (fun t ht y q4 l4 hy Q2 k2 => ?_) (by have := ment_len hP; omega)).is ?_).toD)) (top_mx hP hC hi)) (by omega) fun z q5 mv hz hz1 hz2 => ?_
    · obtain ⟨i', j', a', rfl, hi', hj', ha'⟩ := mem_ment hP ht
      refine g_tup3 l4.ok hy fun w1 w2 w3 d1 d2 d3 => k2 _ (by rfl) ?_ fun _ => ?_
      · have := et_D (ev_eqI (i := (j' : Int)) (j := (a : Int)) (ev_var (i := 5) (σ := (((wipe ([some v, some u, some (V.ref L), some x, none, none, none]) [4, 5, 6]).set 4 (some w1)).set 5 (some w2)).set 6 (some w3)) rfl d2) (ev_var (i := 3) rfl (hx.up l4.d)))
        refine this.is ?_
        show decide ((j' : Int) = (a : Int)) = decide (j' = a)
        rw [decide_eq_decide]
        omega
      · exact (ev_add (i := a') (ev_var rfl d3) (ev_ixL (n := i') (ev_var rfl (h2.up (lpq.trans l4).d)) (ev_var rfl d1) (eI_at (fI_at (by rw [hc]; exact hi')))))
    · rw [List.map_map]; rfl
    · refine ⟨q5, rfl, ⟨some x, rfl⟩, mv.le lpq (fun b hb => by rw [hb]; exact f0), mv.kp (kq.trans (.of l')), hz1, _, hz2, ?_⟩
      rw [take_snoc ha, List.map_append, List.map_append]
      exact (hy2.up (l'.d.trans mv.d)).append (.one hz)
  · rintro σ' q ⟨⟨o, rfl⟩, lq, kq, hL, ys, hy1, hy2⟩
    rw [List.take_length] at hy2
    have lf := lq.frz f0 hL hy1
    exact s_ret (p := (upd q.1 L (.lst ys), q.2)) lf.ok (ev_var rfl (.new hL hy2)) fun v' q3 l3 h3 => k v' q3 (lf.trans l3) h3
end
end HR

namespace HR
open PySem PySem.Spec PyProof.Rows L2
open HT (ent IsPat)
/-! ### an object of the class, by what it holds -/
def flds (pv : V) (ol gl tl : Addr) : List (Str × V) := [("pattern", pv), ("owners", .ref ol), ("grown", .ref gl), ("tops", .ref tl), ("short", .non)]
theorem fl_p {pv ol gl tl} : (flds pv ol gl tl).lookup ("pattern" : Str) = some pv := by simp [flds, List.lookup]
theorem fl_o {pv ol gl tl} : (flds pv ol gl tl).lookup ("owners" : Str) = some (.ref ol) := by
  have h1 : (("owners" : Str) == ("pattern" : Str)) = false := by decide +kernel
  simp [flds, List.lookup, h1]
theorem fl_g {pv ol gl tl} : (flds pv ol gl tl).lookup ("grown" : Str) = some (.ref gl) := by
  have h1 : (("grown" : Str) == ("pattern" : Str)) = false := by decide +kernel
  have h2 : (("grown" : Str) == ("owners" : Str)) = false := by decide +kernel
  simp [flds, List.lookup, h1, h2]
theorem fl_t {pv ol gl tl} : (flds pv ol gl tl).lookup ("tops" : Str) = some (.ref tl) := by
  have h1 : (("tops" : Str) == ("pattern" : Str)) = false := by decide +kernel
  have h2 : (("tops" : Str) == ("owners" : Str)) = false := by decide +kernel
  have h3 : (("tops" : Str) == ("grown" : Str)) = false := by decide +kernel
  simp [flds, List.lookup, h1, h2, h3]
theorem fl_s {pv ol gl tl} : (flds pv ol gl tl).lookup ("short" : Str) = some .non := by
  have h1 : (("short" : Str) == ("pattern" : Str)) = false := by decide +kernel
  have h2 : (("short" : Str) == ("owners" : Str)) = false := by decide +kernel
  have h3 : (("short" : Str) == ("grown" : Str)) = false := by decide +kernel
  have h4 : (("short" : Str) == ("tops" : Str)) = false := by decide +kernel
  simp [flds, List.lookup, h1, h2, h3, h4]
theorem fl_no {pv ol gl tl} {m : Str} (h : (["pattern", "owners", "grown", "tops", "short"] : List Str).all (fun f : Str => !(m == f)) = true) : (flds pv ol gl tl).lookup m = none := by
  simp only [List.all_cons, List.all_nil, Bool.and_eq_true, Bool.not_eq_true'] at h
  obtain ⟨h1, h2, h3, h4, h5, _⟩ := h
  simp [flds, List.lookup, h1, h2, h3, h4, h5]
/-- what the text must say of the class -/
structure ChT (K : PySem.W.Frag) (C : Addr) : Prop where
  cl : Cls K C
  nP : NoAttr K C "pattern"
  nO : NoAttr K C "owners"
  nG : NoAttr K C "grown"
  nT : NoAttr K C "tops"
  nS : NoAttr K C "short"
structure Ob where
  x : Addr
  dx : Addr
  ol : Addr
  gl : Addr
  tl : Addr
  pv : V
def eN (o : Option Nat) : Option Int := o.map fun e => (e : Int)
def vN (o : Option Nat) : V := vO (eN o)
def fO (os : List (Option Nat)) : Nat → Option Nat := fun j => os.getD j none
structure ChS (C : Addr) (T : HT.Pat) (n : Nat) (o : Ob) (os : List (Option Nat)) (gs ts : List Int) (p : Two) : Prop where
  pat : IsPat T n
  lo : os.length = n
  lg : gs.length = n
  lt : ts.length = n
  i2 : p.2 o.x = some (.ins C o.dx (flds o.pv o.ol o.gl o.tl))
  i1 : p.1 o.x = none
  o2 : p.2 o.ol = some (.lst (os.map vN))
  o1 : p.1 o.ol = none
  g2 : p.2 o.gl = some (.lst (gs.map V.int))
  g1 : p.1 o.gl = none
  t2 : p.2 o.tl = some (.lst (ts.map V.int))
  t1 : p.1 o.tl = none
  da : Da p.1 o.pv (ePat T)
  og : o.ol ≠ o.gl
  ot : o.ol ≠ o.tl
  gt : o.gl ≠ o.tl
section
variable {K : PySem.W.Frag} {C : Addr} {T : HT.Pat} {n : Nat} {o : Ob} {os : List (Option Nat)} {gs ts : List Int} {p q : Two} {σ : L2.St} {tb : TE}
theorem ChS.le (h : ChS C T n o os gs ts p) (l : Le p q) : ChS C T n o os gs ts q :=
  ⟨h.pat, h.lo, h.lg, h.lt, (l.keep h.i1 h.i2).2, (l.keep h.i1 h.i2).1, (l.keep h.o1 h.o2).2, (l.keep h.o1 h.o2).1, (l.keep h.g1 h.g2).2, (l.keep h.g1 h.g2).1, (l.keep h.t1 h.t2).2, (l.keep h.t1 h.t2).1, h.da.up l.d, h.og, h.ot, h.gt⟩
theorem ChS.mv {M : Addr → Prop} (h : ChS C T n o os gs ts p) (m : Mv M p q) (hM : ¬ M o.x ∧ ¬ M o.ol ∧ ¬ M o.gl ∧ ¬ M o.tl) : ChS C T n o os gs ts q :=
  ⟨h.pat, h.lo, h.lg, h.lt, (m.keep hM.1 h.i1 h.i2).2, (m.keep hM.1 h.i1 h.i2).1, (m.keep hM.2.1 h.o1 h.o2).2, (m.keep hM.2.1 h.o1 h.o2).1, (m.keep hM.2.2.1 h.g1 h.g2).2, (m.keep hM.2.2.1 h.g1 h.g2).1, (m.keep hM.2.2.2 h.t1 h.t2).2, (m.keep hM.2.2.2 h.t1 h.t2).1, h.da.up m.d, h.og, h.ot, h.gt⟩
theorem ChS.xo (h : ChS C T n o os gs ts p) : o.x ≠ o.ol := ne_of h.i2 h.o2 (by intro z; cases z)
theorem ChS.xg (h : ChS C T n o os gs ts p) : o.x ≠ o.gl := ne_of h.i2 h.g2 (by intro z; cases z)
theorem ChS.xt (h : ChS C T n o os gs ts p) : o.x ≠ o.tl := ne_of h.i2 h.t2 (by intro z; cases z)
/-- an expression that gives the object at a -/
def EvR (te : TE) (σ : L2.St) (p : Two) (a : Addr) : Prop := ∀ q, Le p q → ∀ Q : VK, Q (.ref a) q.2 → te σ q.2 Q
theorem er_var {i : Nat} {a : Addr} (h : σ[i]? = some (some (.ref a))) : EvR (tVar i) σ p a := fun q l Q k => ⟨_, h, k⟩
theorem er_o (h : ChS C T n o os gs ts p) (t : ChT K C) {i : Nat} (hs : σ[i]? = some (some (.ref o.x))) : EvR (tFld K (tVar i) "owners") σ p o.ol := fun q l Q k => ⟨_, hs, o.x, C, o.dx, _, _, rfl, (h.le l).i2, t.cl, t.nO, fl_o, k⟩
theorem er_g (h : ChS C T n o os gs ts p) (t : ChT K C) {i : Nat} (hs : σ[i]? = some (some (.ref o.x))) : EvR (tFld K (tVar i) "grown") σ p o.gl := fun q l Q k => ⟨_, hs, o.x, C, o.dx, _, _, rfl, (h.le l).i2, t.cl, t.nG, fl_g, k⟩
theorem er_t (h : ChS C T n o os gs ts p) (t : ChT K C) {i : Nat} (hs : σ[i]? = some (some (.ref o.x))) : EvR (tFld K (tVar i) "tops") σ p o.tl := fun q l Q k => ⟨_, hs, o.x, C, o.dx, _, _, rfl, (h.le l).i2, t.cl, t.nT, fl_t, k⟩
theorem ev_p (h : ChS C T n o os gs ts p) (t : ChT K C) {i : Nat} (hs : σ[i]? = some (some (.ref o.x))) : EvD (tFld K (tVar i) "pattern") σ p (ePat T) := fun q l Q k => ⟨_, hs, o.x, C, o.dx, _, _, rfl, (h.le l).i2, t.cl, t.nP, fl_p, k _ q (.refl l.ok) (h.le l).da⟩
theorem ev_s (h : ChS C T n o os gs ts p) (t : ChT K C) {i : Nat} (hs : σ[i]? = some (some (.ref o.x))) : EvD (tFld K (tVar i) "short") σ p (eO none) := fun q l Q k => ⟨_, hs, o.x, C, o.dx, _, _, rfl, (h.le l).i2, t.cl, t.nS, fl_s, k _ q (.refl l.ok) .non⟩
theorem vI_at {c : List Int} {j : Nat} {x : Int} (h : c[j]? = some x) : (c.map V.int)[j]? = some (.int x) := by rw [List.getElem?_map, h]; rfl
theorem ev_grown (h : ChS C T n o os gs ts p) (t : ChT K C) {i e : Nat} (hs : σ[i]? = some (some (.ref o.x))) (hb : EvD tb σ p (.int (e : Int))) (he : e < n) : EvD (tOp (rIxL K) (tFld K (tVar i) "grown") tb) σ p (.int (fI gs e)) :=
  ev_ixM (er_g h t hs) h.g2 hb (vI_at (fI_at (by rw [h.lg]; exact he))) fun _ => .int _
theorem ev_tops (h : ChS C T n o os gs ts p) (t : ChT K C) {i e : Nat} (hs : σ[i]? = some (some (.ref o.x))) (hb : EvD tb σ p (.int (e : Int))) (he : e < n) : EvD (tOp (rIxL K) (tFld K (tVar i) "tops") tb) σ p (.int (fI ts e)) :=
  ev_ixM (er_t h t hs) h.t2 hb (vI_at (fI_at (by rw [h.lt]; exact he))) fun _ => .int _
theorem vN_at {os : List (Option Nat)} {j : Nat} (h : j < os.length) : (os.map vN)[j]? = some (vN (fO os j)) := by
  unfold fO
  rw [List.getElem?_map, List.getD_eq_getElem?_getD, List.getElem?_eq_getElem h]; rfl
theorem ev_owner (h : ChS C T n o os gs ts p) (t : ChT K C) {i e : Nat} (hs : σ[i]? = some (some (.ref o.x))) (hb : EvD tb σ p (.int (e : Int))) (he : e < n) : EvD (tOp (rIxL K) (tFld K (tVar i) "owners") tb) σ p (eO (eN (fO os e))) :=
  ev_ixM (er_o h t hs) h.o2 hb (vN_at (by rw [h.lo]; exact he)) fun _ => .ofOpt _
end
/-! ### the gaps of an equation -/
abbrev Gap := Nat × Int
def encG (t : Gap) : PyData := .tuple [.int (t.1 : Int), .int t.2]
def rowOf (T : HT.Pat) (e : Nat) : List (Option Int) := T.getD e []
def mrow (T : HT.Pat) (e : Nat) : List (Option Int × Nat) := (rowOf T e).zipIdx.filter fun y => y.1.isSome
def gapsL (T : HT.Pat) (gs ts : List Int) (e : Nat) : List Gap := (mrow T e).map fun y => (y.2, fI ts y.2 - fI gs e - y.1.getD 0)
theorem rowOf_at {T : HT.Pat} {n e : Nat} (h : IsPat T n) (he : e < n) : T[e]? = some (rowOf T e) ∧ (rowOf T e).length = n := by
  obtain ⟨r, h1, h2, _⟩ := row_at h he
  have e1 : rowOf T e = r := by unfold rowOf; rw [List.getD_eq_getElem?_getD, h1]; rfl
  rw [e1]
  exact ⟨h1, h2⟩
theorem mem_mrow {T : HT.Pat} {n e : Nat} (h : IsPat T n) (he : e < n) {y : Option Int × Nat} (hy : y ∈ mrow T e) : ∃ j a, y = (some a, j) ∧ j < n ∧ ent T e j = some a := by
  unfold mrow at hy
  rw [List.mem_filter] at hy
  obtain ⟨z, j⟩ := y
  have e1 := List.mem_zipIdx_iff_getElem?.mp hy.1
  obtain ⟨l1, _⟩ := List.getElem?_eq_some_iff.mp e1
  obtain ⟨h1, h2⟩ := rowOf_at h he
  cases z with
  | none => have := hy.2; cases this
  | some a => exact ⟨j, a, rfl, by rw [← h2]; exact l1, ent_of h1 e1⟩
theorem mrow_mem {T : HT.Pat} {n e j : Nat} {a : Int} (h : IsPat T n) (he : e < n) (hj : j < n) (ha : ent T e j = some a) : (some a, j) ∈ mrow T e := by
  obtain ⟨r, h1, h2, h3⟩ := ent_at h he hj
  obtain ⟨h4, _⟩ := rowOf_at h he
  rw [h1] at h4
  unfold mrow
  rw [List.mem_filter]
  refine ⟨List.mem_zipIdx_iff_getElem?.mpr ?_, rfl⟩
  rw [← Option.some.inj h4, h3, ha]
theorem mrow_len {T : HT.Pat} {n e : Nat} (h : IsPat T n) (he : e < n) : (mrow T e).length ≤ 4 := by
  unfold mrow
  refine Nat.le_trans (List.length_filter_le _ _) ?_
  rw [List.length_zipIdx, (rowOf_at h he).2]; exact h.le
theorem mem_gaps {T : HT.Pat} {n e : Nat} {gs ts : List Int} (h : IsPat T n) (he : e < n) {t : Gap} (ht : t ∈ gapsL T gs ts e) : ∃ a, t.1 < n ∧ ent T e t.1 = some a ∧ t.2 = fI ts t.1 - fI gs e - a := by
  unfold gapsL at ht
  obtain ⟨y, hy, rfl⟩ := List.mem_map.mp ht
  obtain ⟨j, a, rfl, hj, ha⟩ := mem_mrow h he hy
  exact ⟨a, hj, ha, rfl⟩
theorem gaps_mem {T : HT.Pat} {n e j : Nat} {a : Int} {gs ts : List Int} (h : IsPat T n) (he : e < n) (hj : j < n) (ha : ent T e j = some a) : (j, fI ts j - fI gs e - a) ∈ gapsL T gs ts e :=
  List.mem_map.mpr ⟨(some a, j), mrow_mem h he hj ha, rfl⟩
theorem gaps_len {T : HT.Pat} {n e : Nat} {gs ts : List Int} (h : IsPat T n) (he : e < n) : (gapsL T gs ts e).length ≤ 4 := by
  unfold gapsL
  rw [List.length_map]; exact mrow_len h he
section
variable {P : Program} {w : World} {K : PySem.W.Frag} {mg : Str → Option Value} {base : Heap} {C : Addr}
abbrev s_c_gaps_of : Stmt := inClass (topS 4) 1
abbrev n_c_gaps_of : List Str := ["self", "equation", "row", "grown", "found", "unknown", "order"]
theorem sc_c_gaps_of : FnScope n_c_gaps_of ["self", "equation"] (defScope s_c_gaps_of) := ⟨rfl, rfl, rfl, by decide +kernel, rfl, by decide +kernel, by decide +kernel⟩
def spGaps (C : Addr) : Sp := fun vs H Q _ => ∃ (p : Two) (T : HT.Pat) (n : Nat) (o : Ob) (os : List (Option Nat)) (gs ts : List Int) (e : Nat), p.2 = H ∧ Ok p ∧ ChS C T n o os gs ts p ∧ e < n ∧ vs = [.ref o.x, .int (e : Int)] ∧
  ∀ v q, Le p q → Da q.1 v (.list ((gapsL T gs ts e).map encG)) → Q v q.2
theorem ok_gaps_of {f : Addr} {fd : FuncData} (F : Fun K "gaps_of" "Choosing.gaps_of" s_c_gaps_of f fd) (B : Blt mg) (Tx : ChT K C) : FnOk P w K mg base CX0 1 f fd ["self", "equation"] (spGaps C) := by
  refine F.ok sc_c_gaps_of (fun vs H Q E ⟨_, _, _, _, _, _, _, _, _, _, _, _, h, _⟩ => by rw [h]; rfl) (fun cdv A outer s H vs Q E hr h => ?_)
  have sc := sc_c_gaps_of
  obtain ⟨p, T, n, o, os, gs, ts, e, rfl, ok, hS, he, rfl, k⟩ := h
  refine ⟨_, pss_cons (ps_asg (pe_tup (pa_cons (pe_ix (ix_tupK K) (pe_fldK K (pv 0) rfl) (pv 1) (fun _ _ => rfl)) (pa_cons (pe_ix (ix_listK K) (pe_fldK K (pv 0) rfl) (pv 1) (fun _ _ => rfl)) pa_nil))) (pg_tupK K (n := 2) rfl (pgs_cons (pg_name (i := 2) sc.nd rfl (Or.inl rfl)) (pgs_cons (pg_name (i := 3) sc.nd rfl (Or.inr rfl)) (pgs_nil)))))
      (pss_cons (ps_setLc (i := 4) (own := [("unknown", 5), ("order", 6)]) rfl sc.nd rfl rfl (sw_true rfl rfl rfl (by decide +kernel)) (pi_enumTK K (by rfl) B.enumerate_ (pa_cons (pv 2) pa_nil)) (blkOk_by (own := [("unknown", 5), ("order", 6)]) (by show blkC n_c_gaps_of (defScope s_c_gaps_of) _ _ = true; decide +kernel)) (fun _ _ _ _ _ => pg_tupK K (n := 2) rfl (pgs_cons (pg_name (i := 5) sc.nd rfl (Or.inl rfl)) (pgs_cons (pg_name (i := 6) sc.nd rfl (Or.inl rfl)) (pgs_nil)))) (fun _ _ _ _ _ => pts_one (pt_cmpR op_notN (pv 6) (pe_non) (nomark _))) (fun _ _ _ _ _ => pe_tup (pa_cons (pv 5) (pa_cons (pv 6) pa_nil))))
      (pss_one (ps_ret (pe_lc (own := [("unknown", 5), ("order", 6)]) rfl sc.nd (pi_listK K (pv 4)) (blkOk_by (own := [("unknown", 5), ("order", 6)]) (by show blkC n_c_gaps_of (defScope s_c_gaps_of) _ _ = true; decide +kernel)) (fun _ _ _ _ _ => pg_tupK K (n := 2) rfl (pgs_cons (pg_name (i := 5) sc.nd rfl (Or.inl rfl)) (pgs_cons (pg_name (i := 6) sc.nd rfl (Or.inl rfl)) (pgs_nil)))) (fun _ _ _ _ _ => pts_nil) (fun _ _ _ _ _ => pe_tup (pa_cons (pv 5) (pa_cons (pe_op op_sub (pe_op op_sub (pe_ix (ix_listK K) (pe_fldK K (pv 0) rfl) (pv 5) (fun _ _ => rfl)) (pv 3)) (pv 6)) pa_nil))))))), ?_⟩
  have hP := hS.pat
  have hn := hP.le
  obtain ⟨hr1, hr2⟩ := rowOf_at hP he
  have e1 : EvD (tVar 1) (start n_c_gaps_of [.ref o.x, .int (e : Int)]) p (.int (e : Int)) := ev_var rfl (.int _)
  refine q_asgT ok (ev_tup (ea_cons (ev_ixT (K := K) (n := e) (ev_p hS Tx (i := 0) rfl) e1 (ePat_at hr1)) (ea_cons (ev_grown hS Tx (i := 0) rfl e1 he) ea_nil))) fun v1 v2 q l h1 h2 => ?_
  refine q_asg (d := .list ((mrow T e).map fun y => .tuple [.int (y.2 : Int), eO y.1])) l.ok (EvN.toD (EvN.is (en_lc (rowOf T e).zipIdx (fun y => .tuple [.int (y.2 : Int), eO y.1]) (fun y => y.1.isSome) (fun y => .tuple [.int (y.2 : Int), eO y.1]) (EvI.is (ei_enumT (ev_var rfl h1)) (enumD_map _ _)) (fun y hy z q2 l2 hz Q2 k2 =>
    g_tup2 l2.ok hz fun w1 w2 d1 d2 => k2 _ (by rfl) (et_D (ev_notN (ev_var rfl d2))) fun _ => ev_tup (ea_cons (ev_var rfl d1) (ea_cons (ev_var rfl d2) ea_nil))) (by rw [List.length_zipIdx, hr2]; omega)) rfl)) fun u q3 l3 hu => ?_
  have l03 := l.trans l3
  refine s_ret l3.ok ?_ fun v' q4 l4 h4 => k v' q4 (l03.trans l4) h4
  have hS3 := hS.le l03
  refine EvN.toD (EvN.is (en_lc (mrow T e) (fun y => .tuple [.int (y.2 : Int), eO y.1]) (fun _ => true) (fun y => encG (y.2, fI ts y.2 - fI gs e - y.1.getD 0)) (ei_list (ev_var rfl hu)) (fun y hy z q5 l5 hz Q2 k2 => ?_) (by have := mrow_len hP he; omega)) ?_)
  · obtain ⟨j, a, rfl, hj, ha⟩ := mem_mrow hP he hy
    refine g_tup2 l5.ok hz fun w1 w2 d1 d2 => k2 _ (by rfl) et_yes fun _ => ?_
    have hS5 := hS3.le l5
    refine ev_tup (ea_cons (ev_var rfl d1) (ea_cons ?_ ea_nil))
    exact ev_sub (ev_sub (ev_tops hS5 Tx (i := 0) rfl (ev_var rfl d1) hj) (ev_var rfl (h2.up (l3.trans l5).d))) (ev_var (d := .int a) rfl d2)
  · rw [filter_all]; unfold gapsL; rw [List.map_map]; rfl
end
end HR

namespace HR
open PySem PySem.Spec PyProof.Rows L2
open HT (ent IsPat)
theorem eN_none (o : Option Nat) : (eN o).isNone = o.isNone := by cases o <;> rfl
theorem eN_some (o : Option Nat) : (eN o).isSome = o.isSome := by cases o <;> rfl
/-- the first of some unknowns that no equation has -/
def freeL (os : List (Option Nat)) (came : List (Nat × Nat)) : List (Nat × Nat) := came.filter fun c => (fO os c.1).isNone
def freeO (os : List (Option Nat)) (came : List (Nat × Nat)) : Option Nat := (freeL os came).head?.map (·.1)
section
variable {P : Program} {w : World} {K : PySem.W.Frag} {mg : Str → Option Value} {base : Heap} {C : Addr}
theorem ChS.lk {T : HT.Pat} {n : Nat} {o : Ob} {os : List (Option Nat)} {gs ts : List Int} {d : Addr} {od : Obj} {came : List (Nat × Nat)} {p p' : Two} (h : ChS C T n o os gs ts p) (l : Lk d od came p p') (h1 : p.1 d = none) (h2 : p.2 d = some (.dK (kvD came))) :
    ChS C T n o os gs ts p' ∧ d ≠ o.x ∧ d ≠ o.ol ∧ d ≠ o.gl ∧ d ≠ o.tl := by
  have nx : d ≠ o.x := ne_of h2 h.i2 (by intro z; cases z)
  have no : d ≠ o.ol := ne_of h2 h.o2 (by intro z; cases z)
  have ng : d ≠ o.gl := ne_of h2 h.g2 (by intro z; cases z)
  have nt : d ≠ o.tl := ne_of h2 h.t2 (by intro z; cases z)
  exact ⟨⟨h.pat, h.lo, h.lg, h.lt, (l.ne2 nx.symm).trans h.i2, (l.ne1 nx.symm).trans h.i1, (l.ne2 no.symm).trans h.o2, (l.ne1 no.symm).trans h.o1, (l.ne2 ng.symm).trans h.g2, (l.ne1 ng.symm).trans h.g1, (l.ne2 nt.symm).trans h.t2, (l.ne1 nt.symm).trans h.t1, l.da h1 h.da, h.og, h.ot, h.gt⟩, nx, no, ng, nt⟩
abbrev s_c_free_in : Stmt := inClass (topS 4) 4
abbrev n_c_free_in : List Str := ["self", "came", "found", "unknown"]
theorem sc_c_free_in : FnScope n_c_free_in ["self", "came"] (defScope s_c_free_in) := ⟨rfl, rfl, rfl, by decide +kernel, rfl, by decide +kernel, by decide +kernel⟩
def spFree (C : Addr) : Sp := fun vs H Q _ => ∃ (p : Two) (T : HT.Pat) (n : Nat) (o : Ob) (os : List (Option Nat)) (gs ts : List Int) (d : Addr) (came : List (Nat × Nat)), p.2 = H ∧ Ok p ∧ ChS C T n o os gs ts p ∧ p.1 d = none ∧ p.2 d = some (.dK (kvD came)) ∧
  (∀ c ∈ came, c.1 < n) ∧ came.length ≤ n ∧ vs = [.ref o.x, .ref d] ∧ ∀ v q, Le p q → Da q.1 v (eO (eN (freeO os came))) → Q v q.2
theorem ok_free_in {f : Addr} {fd : FuncData} (F : Fun K "free_in" "Choosing.free_in" s_c_free_in f fd) (Tx : ChT K C) : FnOk P w K mg base CX0 1 f fd ["self", "came"] (spFree C) := by
  refine F.ok sc_c_free_in (fun vs H Q E ⟨_, _, _, _, _, _, _, _, _, _, _, _, _, _, _, _, h, _⟩ => by rw [h]; rfl) (fun cdv A outer s H vs Q E hr h => ?_)
  have sc := sc_c_free_in
  obtain ⟨p, T, n, o, os, gs, ts, d, came, rfl, ok, hS, d1, d2, hlt, hlen, rfl, k⟩ := h
  refine ⟨_, pss_cons (ps_lock (ps_setLc (i := 2) (own := [("unknown", 3)]) rfl sc.nd rfl rfl (sw_true rfl rfl rfl (by decide +kernel)) (pi_keys (pv 1)) (blkOk_by (own := [("unknown", 3)]) (by show blkC n_c_free_in (defScope s_c_free_in) _ _ = true; decide +kernel)) (fun _ _ _ _ _ => pg_name (i := 3) sc.nd rfl (Or.inl rfl)) (fun _ _ _ _ _ => pts_one (pt_cmpR op_isN (pe_ix (ix_listK K) (pe_fldK K (pv 0) rfl) (pv 3) (fun _ _ => rfl)) (pe_non) (nomark _))) (fun _ _ _ _ _ => pv 3)))
      (pss_one (ps_ret (pe_ifExp (pt_cmpR (op_neDK K hr.units) (pv 2) (pe_lst (pa_nil)) (nomark _)) (pe_ix (ix_listK K) (pv 2) (pe_int) (fun _ _ => rfl)) (pe_non)))), ?_⟩
  have hn := hS.pat.le
  refine ⟨d, _, d2, trivial, fun od => ?_⟩
  have lk := Lk.mk' p d od came
  obtain ⟨hS', _⟩ := hS.lk lk d1 d2
  have ok' := lk.ok ok
  generalize hp' : ((upd p.1 d (.frz od (.dK (kvD came))), upd p.2 d (.frz od (.dK (kvD came)))) : Two) = p' at lk hS' ok'
  have e2 : upd p.2 d (.frz od (.dK (kvD came))) = p'.2 := by rw [← hp']
  rw [e2]
  refine (EvN.toD (en_lc (p := p') came (fun c => .int (c.1 : Int)) (fun c => (fO os c.1).isNone) (fun c => .int (c.1 : Int)) (ei_keys rfl lk.at1) (fun c hc x q l hx Q2 k2 => k2 _ (by rfl) (EvB.is (et_D (ev_isN (ev_owner (hS'.le l) Tx (i := 0) rfl (ev_var rfl hx) (hlt c hc)))) (eN_none _)) fun _ => ev_var rfl hx) (by omega))) p' (.refl ok') _ fun v q l hv => ?_
  have hv2 := unl_da (l.d _ _ lk.at1) hv
  have lu : Le p (unl d came q) := Le.unlock lk d1 d2 l
  refine ⟨l.h _ _ lk.at2, ?_⟩
  have e3 : upd q.2 d (.dK (kvD came)) = (unl d came q).2 := rfl
  rw [e3]
  dsimp only
  refine s_ret (d := eO (eN (freeO os came))) lu.ok ?_ fun v' q3 l3 h3 => k v' q3 (lu.trans l3) h3
  have ef : EvD (tVar 2) [some (V.ref o.x), some (V.ref d), some v, none] (unl d came q) (.list ((freeL os came).map fun c => .int (c.1 : Int))) := ev_var rfl hv2
  cases hf : freeL os came with
  | nil =>
    unfold freeO
    rw [hf] at ef ⊢
    exact ev_if (b := false) (EvB.is (et_D (ev_neD ef (en_lst ea_nil).toD sh_nilL sh_nilL)) (by rw [List.map_nil, eqv_nilL]; rfl)) (fun z => nomatch z) fun _ => ev_non
  | cons c cs =>
    unfold freeO
    rw [hf] at ef ⊢
    refine ev_if (b := true) (EvB.is (et_D (ev_neD ef (en_lst ea_nil).toD ?_ sh_nilL)) (by rw [eqv_nilL]; rfl)) (fun _ => ?_) fun z => nomatch z
    · exact (sh_lst (n := 0) fun c _ => sh_int _).shaped
    · exact ev_ixL (n := 0) ef ev_int rfl
end
end HR

namespace HR
open PySem PySem.Spec PyProof.Rows L2
open HT (ent IsPat RPre Reach Tight)
section
variable {K : PySem.W.Frag} {C : Addr} {T : HT.Pat} {n : Nat} {o : Ob} {os : List (Option Nat)} {gs ts : List Int} {p q : Two} {σ : L2.St} {ta tb tv ty te : TE}
/-- len of a list that may change -/
theorem ev_lenM {a : Addr} {xs : List V} (ha : EvR ta σ p a) (h : p.2 a = some (.lst xs)) : EvD (tCB (rLen K) (tCons ta tNil)) σ p (.int (xs.length : Int)) := fun q l Q k =>
  ha q l _ ⟨a, xs, rfl, .inl (.of (l.h _ _ h)), k _ q (.refl l.ok) (.int _)⟩
theorem no_gaps {pv ol gl tl} : (flds pv ol gl tl).lookup ("gaps_of" : Str) = none := fl_no (by decide +kernel)
/-- self.gaps_of(e) -/
theorem ev_gaps {i e : Nat} (h : ChS C T n o os gs ts p) (hs : σ[i]? = some (some (.ref o.x))) (he : EvD te σ p (.int (e : Int))) (hn : e < n) : EvD (tMeth C "gaps_of" (spGaps C) [] E0 (tVar i) (tCons te tNil)) σ p (.list ((gapsL T gs ts e).map encG)) := fun q l Q k =>
  ⟨_, hs, o.x, o.dx, _, rfl, (h.le l).i2, no_gaps, he q l _ fun v r l1 hv => by
    cases hv
    exact ⟨r, T, n, o, os, gs, ts, e, rfl, l1.ok, h.le (l.trans l1), hn, rfl, fun v q2 l2 h2 => k v q2 (l1.trans l2) h2⟩⟩
/-- d[u] = e, u new -/
theorem q_dput {d : Addr} {i u e : Nat} {came : List (Nat × Nat)} {tz : TS} {D : Ends} (ok : Ok p) (hs : σ[i]? = some (some (.ref d))) (h1 : p.1 d = none) (h2 : p.2 d = some (.dK (kvD came))) (hn : u ∉ came.map (·.1)) (hv : EvD tv σ p (.int (e : Int))) (hu : EvD ty σ p (.int (u : Int))) (hz : came.length < 100000)
    (k : ∀ z, Mv (· = d) p z → z.1 d = none → z.2 d = some (.dK (kvD (came ++ [(u, e)]))) → tz D σ z.2) : tSeq (sDPut (tVar i) ty tv) tz D σ p.2 := by
  refine hv p (.refl ok) _ fun v r1 l1 h3 => ?_
  cases h3
  refine ⟨_, hs, hu r1 l1 _ fun y r2 l2 h4 => ?_⟩
  cases h4
  have l12 := l1.trans l2
  obtain ⟨k1, k2⟩ := l12.keep h1 h2
  refine ⟨d, _, rfl, DPut.k (k := Sum.inl (u : Int)) k2 (by rw [kvD_len]; exact Evl.sz_lt hz), ?_⟩
  have e1 : putK (kvD came) (Sum.inl (u : Int)) (.int (e : Int)) = kvD (came ++ [(u, e)]) := putK_kvD hn
  exact k (r2.1, upd r2.2 d (.dK (putK (kvD came) (Sum.inl (u : Int)) (.int (e : Int))))) (.pre l12 (.put l2.ok k1 _)) k1 (by rw [← e1]; exact upd_same)
def encI (xs : List Nat) : List V := xs.map fun e : Nat => .int (e : Int)
theorem encI_at {xs : List Nat} {j e : Nat} (h : xs[j]? = some e) : (encI xs)[j]? = some (.int (e : Int)) := by unfold encI; rw [List.getElem?_map, h]; rfl
theorem encI_len (xs : List Nat) : (encI xs).length = xs.length := List.length_map _
theorem encI_da {D : Hp} : ∀ xs : List Nat, DaAll D (encI xs) (xs.map fun e : Nat => .int (e : Int))
  | [] => .nil
  | x :: xs => .cons (.int _) (encI_da xs)
end
section
variable {P : Program} {w : World} {K : PySem.W.Frag} {mg : Str → Option Value} {base : Heap} {C : Addr}
abbrev s_c_reached : Stmt := inClass (topS 4) 3
abbrev n_c_reached : List Str := ["self", "start", "lot", "came", "at", "unknown", "gap"]
theorem sc_c_reached : FnScope n_c_reached ["self", "start"] (defScope s_c_reached) := ⟨rfl, rfl, rfl, by decide +kernel, rfl, by decide +kernel, by decide +kernel⟩
def spReach (C : Addr) : Sp := fun vs H Q _ => ∃ (p : Two) (T : HT.Pat) (n : Nat) (o : Ob) (os : List (Option Nat)) (gs ts : List Int) (k : Nat), p.2 = H ∧ Ok p ∧ ChS C T n o os gs ts p ∧ k < n ∧ (∀ j e, j < n → fO os j = some e → e < n) ∧ vs = [.ref o.x, .int (k : Int)] ∧
  ∀ (t L d : Addr) (lot : List Nat) (came : List (Nat × Nat)) (r : Two), Le p r → r.2 t = some (.tup [.ref L, .ref d]) → Da r.1 (.ref L) (.list (lot.map fun e : Nat => .int (e : Int))) → r.1 d = none → r.2 d = some (.dK (kvD came)) → p.2 d = none → Reach T n k (fI gs) (fI ts) (fO os) lot came → Q (.ref t) r.2
theorem ok_reached {f : Addr} {fd : FuncData} (F : Fun K "reached" "Choosing.reached" s_c_reached f fd) (B : Blt mg) (Tx : ChT K C) (M_gaps_of : MCal P w K mg base C 1 "gaps_of" ["self", "equation"] (spGaps C)) : FnOk P w K mg base CX0 2 f fd ["self", "start"] (spReach C) := by
  refine F.ok sc_c_reached (fun vs H Q E ⟨_, _, _, _, _, _, _, _, _, _, _, _, _, h, _⟩ => by rw [h]; rfl) (fun cdv A outer s H vs Q E hr h => ?_)
  have sc := sc_c_reached
  have hu := hu_of hr
  have CL := Tx.cl
  obtain ⟨p, T, n, o, os, gs, ts, k, rfl, ok, hS, hk, hown, rfl, kk⟩ := h
  refine ⟨_, pss_cons (ps_par3 (i := 2) (j := 3) (l := 4) rfl sc.nd rfl rfl rfl (by decide) (by decide) (by decide) rfl rfl rfl (pa_cons (pe_lst (pa_cons (pv 1) pa_nil)) (pa_cons (pe_dnewK) (pa_cons (pe_int) pa_nil))) (by rfl))
      (pss_cons (ps_while PassesOwn.never (pt_cmpR op_lt (pv 4) (pe_callB (call_lenK K) (by rfl) B.len_ bo_len (pa_cons (pv 2) pa_nil)) (nomark _)) (pss_cons (ps_for PassesOwn.never rfl (pi_listK K (pe_mcal (pv 0) CL M_gaps_of (hr.mono (by decide)) (pa_cons (pe_ix (ix_listK K) (pv 2) (pv 4) (fun _ _ => rfl)) pa_nil))) (pg_tupK K (n := 2) rfl (pgs_cons (pg_name (i := 5) sc.nd rfl (Or.inl rfl)) (pgs_cons (pg_name (i := 6) sc.nd rfl (Or.inl rfl)) (pgs_nil)))) (pss_one (ps_if (PW.pt (pw_and (pt_cmpR op_eq (pv 6) (pe_int) (nomark _)) (pw_and1 (pt_cmp (pc_dnotin hu (pv 5) (pv 3)) rfl)))) (pss_cons (ps_dput hu (pv 3) (pv 5) (pe_ix (ix_listK K) (pv 2) (pv 4) (fun _ _ => rfl)) rfl)
      (pss_one (ps_if (pt_cmpR op_notN (pe_ix (ix_listK K) (pe_fldK K (pv 0) rfl) (pv 5) (fun _ _ => rfl)) (pe_non) (nomark _)) (pss_one (ps_expr (pe_bmK K PySem.F.plainAttrs_list PySem.F.slot_list_append PySem.F.type_list_append mt_append (pv 2) (pa_cons (pe_ix (ix_listK K) (pe_fldK K (pv 0) rfl) (pv 5) (fun _ _ => rfl)) pa_nil)))) (pss_nil)))) (pss_nil))))
      (pss_one (ps_aug (i := 4) sc.nd rfl (Or.inl rfl) (pe_int) ip_add))))
      (pss_one (ps_ret (pe_tup (pa_cons (pv 2) (pa_cons (pv 3) pa_nil)))))), ?_⟩
  have hP := hS.pat
  have hn := hP.le
  refine ⟨_, rfl, (by show 1 ≤ sizeLine; decide), fun L fL => ?_⟩
  refine fun d fd => ⟨_, _, _, rfl, ?_⟩
  have hdL : d ≠ L := fun e => by rw [e, upd_same] at fd; cases fd
  have fd0 : p.2 d = none := by rw [upd_ne hdL] at fd; exact fd
  have fL1 : p.1 L = none := ex_free ok fL
  have fd1 : p.1 d = none := ex_free ok fd0
  have l0 : Le p (p.1, upd (upd p.2 L (.lst [.int (k : Int)])) d (.dK [])) := ((Le.refl ok).mut fL fL1).mut fd0 fd1
  show tSeq _ _ _ _ (p.1, upd (upd p.2 L (.lst [.int (k : Int)])) d (.dK [])).2
  let W : Nat → L2.St → Two → Prop := fun m σ' q => ∃ (at_ : Nat) (lot : List Nat) (came : List (Nat × Nat)) (o5 o6 : Option V), σ' = [some (.ref o.x), some (.int (k : Int)), some (.ref L), some (.ref d), some (.int (at_ : Int)), o5, o6] ∧ m = n + 1 - at_ ∧ Le p q ∧
    q.1 L = none ∧ q.2 L = some (.lst (encI lot)) ∧ q.1 d = none ∧ q.2 d = some (.dK (kvD came)) ∧ RPre T n k (fI gs) (fI ts) (fO os) lot came ∧ at_ ≤ lot.length ∧ ∀ j e, j < at_ → lot[j]? = some e → ∀ u, u < n → Tight T (fI gs) (fI ts) e u → u ∈ came.map (·.1)
  refine s_while (D := { nx := _, rt := Q }) W (n + 1) ⟨0, [k], [], none, none, rfl, rfl, l0, fL1, ?_, fd1, upd_same, .start, Nat.zero_le _, fun j e hj => by omega⟩ ?_
  · show upd (upd p.2 L (.lst [.int (k : Int)])) d (.dK []) L = _
    rw [upd_ne hdL.symm, upd_same]; rfl
  rintro m σ' q ⟨at_, lot, came, o5, o6, rfl, rfl, lq, L1, L2', d1, d2, R, hat, hcl⟩
  refine ⟨lq.ok, decide ((at_ : Int) < (lot.length : Int)), EvB.is (et_D (ev_lt (ev_var rfl (.int _)) (ev_lenM (er_var rfl) L2'))) (by rw [encI_len]), fun hb q1 l1 => ?_, fun hb q1 l1 => ?_⟩
  · -- one more equation is looked at
    have hlt : at_ < lot.length := by have := of_decide_eq_true hb; omega
    obtain ⟨e, he⟩ : ∃ e, lot[at_]? = some e := ⟨lot[at_], by simp [hlt]⟩
    have hmem : e ∈ lot := List.mem_of_getElem? he
    have hen : e < n := by
      rcases R.mem.mp hmem with h | ⟨c, hc, h⟩
      · omega
      · exact hown _ _ (R.lt c hc) h
    have hlot := R.len.2
    obtain ⟨L1a, L2a⟩ := l1.keep L1 L2'
    obtain ⟨d1a, d2a⟩ := l1.keep d1 d2
    have lq1 := lq.trans l1
    refine ⟨fun σ2 H2 => ∃ z, z.2 = H2 ∧ W (n + 1 - (at_ + 1)) σ2 z, fun σ2 H2 ⟨z, e1, hw⟩ => ⟨_, z, e1, by omega, hw⟩, ?_⟩
    refine q_for l1.ok (gapsL T gs ts e) encG (ei_list (ev_gaps (hS.le lq1) rfl (ev_ixM (er_var (i := 2) rfl) L2a (ev_var rfl (.int _)) (encI_at he) fun _ => .int _) hen)) fun r lr => ?_
    obtain ⟨L1b, L2b⟩ := lr.keep L1a L2a
    obtain ⟨d1b, d2b⟩ := lr.keep d1a d2a
    refine ⟨fun i σ' q => ∃ (lot' : List Nat) (came' : List (Nat × Nat)) (o5 o6 : Option V), σ' = [some (.ref o.x), some (.int (k : Int)), some (.ref L), some (.ref d), some (.int (at_ : Int)), o5, o6] ∧ Le p q ∧ Kp r q ∧
      q.1 L = none ∧ q.2 L = some (.lst (encI lot')) ∧ q.1 d = none ∧ q.2 d = some (.dK (kvD came')) ∧ RPre T n k (fI gs) (fI ts) (fO os) lot' came' ∧ at_ < lot'.length ∧ lot'[at_]? = some e ∧ (∀ j e, j < at_ → lot'[j]? = some e → ∀ u, u < n → Tight T (fI gs) (fI ts) e u → u ∈ came'.map (·.1)) ∧
      ∀ g ∈ (gapsL T gs ts e).take i, g.2 = 0 → g.1 ∈ came'.map (·.1), ⟨lot, came, o5, o6, rfl, lq1.trans lr, .of (.refl lr.s), L1b, L2b, d1b, d2b, R, hlt, he, hcl, fun g hg => by rw [List.take_zero] at hg; cases hg⟩, fun i σ' q ⟨_, _, _, _, _, _, h, _⟩ => h, ?_, ?_⟩
    · rintro i g σ' q2 x q3 hg ⟨lot', came', o5, o6, rfl, lq2, kq2, L1c, L2c, d1c, d2c, R', hlt', he', hcl', hdone⟩ l3 hx
      obtain ⟨a, hj, ha, hga⟩ := mem_gaps hP hen (List.mem_of_getElem? hg)
      refine g_tup2 l3.ok hx fun w1 w2 h5 h6 => ?_
      obtain ⟨L1d, L2d⟩ := l3.keep L1c L2c
      obtain ⟨d1d, d2d⟩ := l3.keep d1c d2c
      have lq3 := lq2.trans l3
      have hS3 := hS.le lq3
      have done_ : ∀ {came'' : List (Nat × Nat)}, (∀ u, u ∈ came'.map (·.1) → u ∈ came''.map (·.1)) → (g.2 = 0 → g.1 ∈ came''.map (·.1)) → ∀ g' ∈ (gapsL T gs ts e).take (i + 1), g'.2 = 0 → g'.1 ∈ came''.map (·.1) := fun hsub hnew g' hg' h0 => by
        rw [take_snoc hg, List.mem_append] at hg'
        rcases hg' with h | h
        · exact hsub _ (hdone g' h h0)
        · rw [List.mem_singleton] at h
          rw [h] at h0 ⊢
          exact hnew h0
      refine s_if (b := decide (g.2 = 0) && !decide (g.1 ∈ came'.map (·.1))) l3.ok (et_and (et_D (ev_eqI (ev_var rfl h6) ev_int)) fun _ => et_B (et_dni (i := 3) rfl d1d d2d (ev_var rfl h5))) (fun hb q4 l4 => ?_) (fun hb q4 l4 => ?_)
      · rw [Bool.and_eq_true, Bool.not_eq_true'] at hb
        have hg0 : g.2 = 0 := of_decide_eq_true hb.1
        have hnew : g.1 ∉ came'.map (·.1) := of_decide_eq_false hb.2
        obtain ⟨L1e, L2e⟩ := l4.keep L1d L2d
        obtain ⟨d1e, d2e⟩ := l4.keep d1d d2d
        have tight : Tight T (fI gs) (fI ts) e g.1 := ⟨a, ha, by omega⟩
        have RM := R'.more (List.mem_of_getElem? he') hj tight hnew
        have hlen := R'.len
        refine q_dput (e := e) l4.ok (i := 3) rfl d1e d2e hnew (ev_ixM (er_var (i := 2) rfl) L2e (ev_var (i := 4) rfl (.int _)) (encI_at he') fun _ => .int _) (ev_var rfl (h5.up l4.d)) (by omega) fun q5 m5 d1f d2f => ?_
        have hLd : ¬ L = d := hdL.symm
        obtain ⟨L1f, L2f⟩ := m5.keep (a := L) hLd L1e L2e
        have lq5 : Le p q5 := m5.le (lq3.trans l4) fun a ha => by rw [ha]; exact fd0
        have kq5 : Kp r q5 := m5.kp ((kq2.trans (.of l3)).trans (.of l4))
        have hS5 := hS.le lq5
        refine s_if (b := (fO os g.1).isSome) m5.ok (EvB.is (et_D (ev_notN (ev_owner hS5 Tx (i := 0) rfl (ev_var rfl (h5.up (l4.d.trans m5.d))) hj))) (eN_some _)) (fun hb5 q6 l6 => ?_) (fun hb5 q6 l6 => ?_)
        · obtain ⟨e2, he2⟩ := Option.isSome_iff_exists.mp hb5
          rw [he2] at RM
          obtain ⟨L1g, L2g⟩ := l6.keep L1f L2f
          obtain ⟨d1g, d2g⟩ := l6.keep d1f d2f
          refine s_app (d := .int (e2 : Int)) l6.ok (n := 2) rfl L1g L2g (EvD.is (ev_owner (hS5.le l6) Tx (i := 0) rfl (ev_var rfl (h5.up ((l4.d.trans m5.d).trans l6.d))) hj) (by rw [he2]; rfl)) (by rw [encI_len]; omega) fun v q7 m7 hv L1h L2h => ?_
          cases hv
          obtain ⟨d1h, d2h⟩ := m7.keep (a := d) hdL d1g d2g
          refine ⟨q7, rfl, lot' ++ [e2], _, _, _, rfl, m7.le (lq5.trans l6) (fun a ha => by rw [ha]; exact fL), m7.kp (kq5.trans (.of l6)), L1h, ?_, d1h, d2h, RM, ?_, ?_, fun j e' hj' he'' u hu' ht => ?_, done_ (fun u hu => ?_) fun _ => ?_⟩
          · rw [L2h]; unfold encI; rw [List.map_append]; rfl
          · rw [List.length_append]; omega
          · rw [List.getElem?_append_left hlt']; exact he'
          · rw [List.getElem?_append_left (by omega)] at he''
            have := hcl' j e' hj' he'' u hu' ht
            rw [List.map_append]; exact List.mem_append_left _ this
          · rw [List.map_append]; exact List.mem_append_left _ hu
          · rw [List.map_append]; exact List.mem_append_right _ (by simp)
        · have hno : fO os g.1 = none := by
            cases e3 : fO os g.1 with
            | none => rfl
            | some y => rw [e3] at hb5; cases hb5
          rw [hno] at RM
          have e4 : lot' ++ (none : Option Nat).toList = lot' := List.append_nil _
          rw [e4] at RM
          obtain ⟨L1g, L2g⟩ := l6.keep L1f L2f
          obtain ⟨d1g, d2g⟩ := l6.keep d1f d2f
          refine ⟨q6, rfl, lot', _, _, _, rfl, lq5.trans l6, kq5.trans (.of l6), L1g, L2g, d1g, d2g, RM, hlt', he', fun j e' hj' he'' u hu' ht => ?_, done_ (fun u hu => ?_) fun _ => ?_⟩
          · have := hcl' j e' hj' he'' u hu' ht
            rw [List.map_append]; exact List.mem_append_left _ this
          · rw [List.map_append]; exact List.mem_append_left _ hu
          · rw [List.map_append]; exact List.mem_append_right _ (by simp)
      · obtain ⟨L1e, L2e⟩ := l4.keep L1d L2d
        obtain ⟨d1e, d2e⟩ := l4.keep d1d d2d
        refine ⟨q4, rfl, lot', came', _, _, rfl, lq3.trans l4, (kq2.trans (.of l3)).trans (.of l4), L1e, L2e, d1e, d2e, R', hlt', he', hcl', done_ (fun u hu => hu) fun h0 => ?_⟩
        rw [decide_eq_true h0, Bool.true_and, Bool.not_eq_false'] at hb
        exact of_decide_eq_true hb
    · rintro σ' q2 ⟨lot', came', o5, o6, rfl, lq2, kq2, L1c, L2c, d1c, d2c, R', hlt', he', hcl', hdone⟩
      rw [List.take_length] at hdone
      refine ⟨_, rfl, _, _, rfl, rfl, q2, rfl, at_ + 1, lot', came', _, _, rfl, rfl, lq2, L1c, L2c, d1c, d2c, R', hlt', fun j e' hj' he'' u hu' ht => ?_⟩
      by_cases hja : j = at_
      · subst hja
        rw [he'] at he''
        cases he''
        obtain ⟨a, ha, h0⟩ := ht
        have := hdone _ (gaps_mem (gs := gs) (ts := ts) hP hen hu' ha) (by show fI ts u - fI gs e - a = 0; exact h0)
        exact this
      · exact hcl' j e' (by omega) he'' u hu' ht
  · -- the end
    have hge : ¬ at_ < lot.length := by have := of_decide_eq_false hb; omega
    obtain ⟨L1a, L2a⟩ := l1.keep L1 L2'
    obtain ⟨d1a, d2a⟩ := l1.keep d1 d2
    have lq1 := lq.trans l1
    refine ⟨_, rfl, _, rfl, (by show 2 ≤ sizeLine; decide), fun t ht => ?_⟩
    have lf := lq1.frz fL L1a L2a
    have htL : t ≠ L := fun e => by rw [e, L2a] at ht; cases ht
    have htd : d ≠ t := fun e => by rw [← e, d2a] at ht; cases ht
    have hp2t : p.2 t = none := ex_free lq1.h ht
    have h1t : upd q1.1 L (.lst (encI lot)) t = none := by rw [upd_ne htL]; exact ex_free l1.ok ht
    have lf2 := lf.mut (o := .tup [.ref L, .ref d]) hp2t h1t
    refine kk t L d lot came _ lf2 upd_same (.lst upd_same (encI_da lot)) ?_ ?_ fd0 ⟨R, fun e he u hu' ht' => ?_⟩
    · show upd q1.1 L (.lst (encI lot)) d = none
      rw [upd_ne hdL]; exact d1a
    · show upd q1.2 t _ d = _
      rw [upd_ne htd]; exact d2a
    · obtain ⟨j, hj, e1⟩ := List.getElem_of_mem he
      exact hcl j e (by omega) (by rw [List.getElem?_eq_getElem hj, e1]) u hu' ht'
end
end HR

namespace HR
open PySem PySem.Spec PyProof.Rows L2
open HT (ent IsPat RPre Reach Tight Raised IsMin)
theorem exists_mn : ∀ {ns : List Int}, ns ≠ [] → ∃ m, IsMn ns m
  | [], h => absurd rfl h
  | [a], _ => ⟨a, by simp, fun y hy => by simp at hy; omega⟩
  | a :: b :: r, _ => by
    obtain ⟨m, h1, h2⟩ := exists_mn (ns := b :: r) (by simp)
    by_cases q : a ≤ m
    · exact ⟨a, List.mem_cons_self .., fun y hy => by
        rcases List.mem_cons.mp hy with e | e
        · omega
        · have := h2 y e; omega⟩
    · exact ⟨m, List.mem_cons_of_mem _ h1, fun y hy => by
        rcases List.mem_cons.mp hy with e | e
        · omega
        · exact h2 y e⟩
/-- d added at some places -/
def adds (gs : List Int) (es : List Nat) (d : Int) : List Int := es.foldl (fun g e => g.set e (fI g e + d)) gs
theorem adds_len (d : Int) : ∀ (es : List Nat) (gs : List Int), (adds gs es d).length = gs.length
  | [], _ => rfl
  | e :: es, gs => by
    show (adds (gs.set e (fI gs e + d)) es d).length = _
    rw [adds_len d es, List.length_set]
theorem fI_set {gs : List Int} {e : Nat} (h : e < gs.length) (y : Int) (i : Nat) : fI (gs.set e y) i = if i = e then y else fI gs i := by
  unfold fI
  rw [List.getD_eq_getElem?_getD, List.getD_eq_getElem?_getD, List.getElem?_set]
  by_cases q : e = i
  · subst q; rw [if_pos rfl, if_pos h, if_pos rfl]; rfl
  · rw [if_neg q, if_neg (fun z => q z.symm)]
theorem adds_snoc (gs : List Int) (es : List Nat) (e : Nat) (d : Int) : adds gs (es ++ [e]) d = (adds gs es d).set e (fI (adds gs es d) e + d) := by
  unfold adds
  rw [List.foldl_append]; rfl
theorem adds_at {d : Int} : ∀ {es : List Nat} {gs : List Int}, es.Nodup → (∀ e ∈ es, e < gs.length) → ∀ i, fI (adds gs es d) i = if i ∈ es then fI gs i + d else fI gs i
  | [], gs, _, _, i => by rw [if_neg (by simp)]; rfl
  | e :: es, gs, nd, hl, i => by
    rw [List.nodup_cons] at nd
    have h1 := adds_at (d := d) (es := es) (gs := gs.set e (fI gs e + d)) nd.2 (fun x hx => by rw [List.length_set]; exact hl x (List.mem_cons_of_mem _ hx)) i
    show fI (adds (gs.set e (fI gs e + d)) es d) i = _
    have he := hl e (List.mem_cons_self ..)
    rw [h1]
    by_cases q : i = e
    · subst q
      rw [if_neg nd.1, fI_set he, if_pos rfl, if_pos (List.mem_cons_self ..)]
    · have hm : (i ∈ e :: es) ↔ i ∈ es := by
        rw [List.mem_cons]
        exact ⟨fun h => h.resolve_left q, .inr⟩
      rw [fI_set he, if_neg q]
      by_cases r : i ∈ es
      · rw [if_pos r, if_pos (hm.mpr r)]
      · rw [if_neg r, if_neg (fun z => r (hm.mp z))]
section
variable {K : PySem.W.Frag} {p q : Two} {σ : L2.St} {to ti te : TE} {D : Ends}
/-- a[j] += y, whole numbers -/
theorem s_augM {a : Addr} {xs : List Int} {j : Nat} {y : Int} (ok : Ok p) (ho : EvR to σ p a) (h1 : p.1 a = none) (h2 : p.2 a = some (.lst (xs.map V.int))) (hi : EvD ti σ p (.int (j : Int))) (hj : j < xs.length) (hy : EvD te σ p (.int y))
    (k : ∀ z, Mv (· = a) p z → z.1 a = none → z.2 a = some (.lst ((xs.set j (fI xs j + y)).map V.int)) → D.nx σ z.2) : tAugS to ti te (rIxL K) (ipI fun i j => i + j) rSetL D σ p.2 := by
  refine ho p (.refl ok) _ (hi p (.refl ok) _ fun v q l hv => ?_)
  cases hv
  obtain ⟨k1, k2⟩ := l.keep h1 h2
  refine ⟨a, _, (j : Int), .int (fI xs j), rfl, rfl, .of k2, atI_nat (vI_at (fI_at hj)), hy q l _ fun u r l2 hu => ?_⟩
  cases hu
  obtain ⟨k3, k4⟩ := l2.keep k1 k2
  refine ⟨_, _, rfl, rfl, a, xs.map V.int, (j : Int), j, rfl, rfl, k4, ?_, ?_⟩
  · unfold ixN
    rw [if_pos (by omega), if_pos (by rw [List.length_map]; omega), Int.toNat_natCast]
  · refine k (r.1, upd r.2 a (.lst ((xs.map V.int).set j (.int (fI xs j + y))))) (.pre (l.trans l2) (.put l2.ok k3 _)) k3 ?_
    rw [← List.map_set]
    exact upd_same
end
section
variable {P : Program} {w : World} {K : PySem.W.Frag} {mg : Str → Option Value} {base : Heap} {C : Addr}
theorem ChS.setG {T : HT.Pat} {n : Nat} {o : Ob} {os : List (Option Nat)} {gs gs' ts : List Int} {p z : Two} (h : ChS C T n o os gs ts p) (m : Mv (· = o.gl) p z) (h1 : z.1 o.gl = none) (h2 : z.2 o.gl = some (.lst (gs'.map V.int))) (hl : gs'.length = gs.length) : ChS C T n o os gs' ts z :=
  have kx := m.keep (a := o.x) h.xg h.i1 h.i2
  have ko := m.keep (a := o.ol) h.og h.o1 h.o2
  have kt := m.keep (a := o.tl) h.gt.symm h.t1 h.t2
  ⟨h.pat, h.lo, by rw [hl, h.lg], h.lt, kx.2, kx.1, ko.2, ko.1, h2, h1, kt.2, kt.1, h.da.up m.d, h.og, h.ot, h.gt⟩
theorem ChS.setT {T : HT.Pat} {n : Nat} {o : Ob} {os : List (Option Nat)} {gs ts ts' : List Int} {p z : Two} (h : ChS C T n o os gs ts p) (m : Mv (· = o.tl) p z) (h1 : z.1 o.tl = none) (h2 : z.2 o.tl = some (.lst (ts'.map V.int))) (hl : ts'.length = ts.length) : ChS C T n o os gs ts' z :=
  have kx := m.keep (a := o.x) h.xt h.i1 h.i2
  have ko := m.keep (a := o.ol) h.ot h.o1 h.o2
  have kg := m.keep (a := o.gl) h.gt h.g1 h.g2
  ⟨h.pat, h.lo, h.lg, by rw [hl, h.lt], kx.2, kx.1, ko.2, ko.1, kg.2, kg.1, h2, h1, h.da.up m.d, h.og, h.ot, h.gt⟩
theorem ChS.setO {T : HT.Pat} {n : Nat} {o : Ob} {os os' : List (Option Nat)} {gs ts : List Int} {p z : Two} (h : ChS C T n o os gs ts p) (m : Mv (· = o.ol) p z) (h1 : z.1 o.ol = none) (h2 : z.2 o.ol = some (.lst (os'.map vN))) (hl : os'.length = os.length) : ChS C T n o os' gs ts z :=
  have kx := m.keep (a := o.x) h.xo h.i1 h.i2
  have kg := m.keep (a := o.gl) h.og.symm h.g1 h.g2
  have kt := m.keep (a := o.tl) h.ot.symm h.t1 h.t2
  ⟨h.pat, by rw [hl, h.lo], h.lg, h.lt, kx.2, kx.1, h2, h1, kg.2, kg.1, kt.2, kt.1, h.da.up m.d, h.og, h.ot, h.gt⟩
abbrev s_c_raise_by : Stmt := inClass (topS 4) 5
abbrev n_c_raise_by : List Str := ["self", "lot", "came", "gaps", "equation", "unknown", "gap"]
theorem sc_c_raise_by : FnScope n_c_raise_by ["self", "lot", "came"] (defScope s_c_raise_by) := ⟨rfl, rfl, rfl, by decide +kernel, rfl, by decide +kernel, by decide +kernel⟩
def gapsA (T : HT.Pat) (gs ts : List Int) (lot : List Nat) (came : List (Nat × Nat)) : List Int := lot.flatMap fun e => ((gapsL T gs ts e).filter fun g => !decide (g.1 ∈ came.map (·.1))).map fun g => g.2
theorem mem_gapsA {T : HT.Pat} {n : Nat} {gs ts : List Int} {lot : List Nat} {came : List (Nat × Nat)} {m : Int} (hP : IsPat T n) (hl : ∀ e ∈ lot, e < n) : m ∈ gapsA T gs ts lot came ↔ ∃ e u a, e ∈ lot ∧ u < n ∧ u ∉ came.map (·.1) ∧ ent T e u = some a ∧ m = fI ts u - fI gs e - a := by
  unfold gapsA
  rw [List.mem_flatMap]
  constructor
  · rintro ⟨e, he, h⟩
    obtain ⟨g, hg, rfl⟩ := List.mem_map.mp h
    rw [List.mem_filter, Bool.not_eq_true'] at hg
    obtain ⟨a, h1, h2, h3⟩ := mem_gaps hP (hl e he) hg.1
    exact ⟨e, g.1, a, he, h1, of_decide_eq_false hg.2, h2, h3⟩
  · rintro ⟨e, u, a, he, hu, hn, ha, rfl⟩
    refine ⟨e, he, List.mem_map.mpr ⟨_, List.mem_filter.mpr ⟨gaps_mem hP (hl e he) hu ha, ?_⟩, rfl⟩⟩
    rw [Bool.not_eq_true']; exact decide_eq_false hn
def spRaise (C : Addr) : Sp := fun vs H Q _ => ∃ (p : Two) (T : HT.Pat) (n : Nat) (o : Ob) (os : List (Option Nat)) (gs ts : List Int) (lv : V) (d : Addr) (lot : List Nat) (came : List (Nat × Nat)), p.2 = H ∧ Ok p ∧ ChS C T n o os gs ts p ∧ Da p.1 lv (.list (lot.map fun e : Nat => .int (e : Int))) ∧ p.1 d = none ∧ p.2 d = some (.dK (kvD came)) ∧
  lot.Nodup ∧ (∀ e ∈ lot, e < n) ∧ (came.map (·.1)).Nodup ∧ (∀ c ∈ came, c.1 < n) ∧ (∃ e u a, e ∈ lot ∧ u < n ∧ u ∉ came.map (·.1) ∧ ent T e u = some a) ∧ vs = [.ref o.x, lv, .ref d] ∧
  ∀ (q : Two) (gs' ts' : List Int) (dd : Int), Mv (fun a => a = o.gl ∨ a = o.tl) p q → ChS C T n o os gs' ts' q → q.1 d = none → q.2 d = some (.dK (kvD came)) → IsMin T n (fI gs) (fI ts) lot came dd → Raised lot came (fI gs) (fI ts) (fI gs') (fI ts') dd → Q .non q.2
theorem ok_raise_by {f : Addr} {fd : FuncData} (F : Fun K "raise_by" "Choosing.raise_by" s_c_raise_by f fd) (B : Blt mg) (Tx : ChT K C) (M_gaps_of : MCal P w K mg base C 1 "gaps_of" ["self", "equation"] (spGaps C)) : FnOk P w K mg base CX0 2 f fd ["self", "lot", "came"] (spRaise C) := by
  refine F.ok sc_c_raise_by (fun vs H Q E ⟨_, _, _, _, _, _, _, _, _, _, _, _, _, _, _, _, _, _, _, _, _, _, h, _⟩ => by rw [h]; rfl) (fun cdv A outer s H vs Q E hr h => ?_)
  have sc := sc_c_raise_by
  have hu := hu_of hr
  have CL := Tx.cl
  obtain ⟨p, T, n, o, os, gs, ts, lv, d, lot, came, rfl, ok, hS, hlv, d1, d2, hnd, hll, hnd2, hcl, hout, rfl, kk⟩ := h
  refine ⟨_, pss_cons (ps_setLc2 (i := 3) (vs1 := [5, 6]) (own := [("equation", 4), ("unknown", 5), ("gap", 6)]) rfl sc.nd rfl rfl (sw_true rfl rfl rfl (by decide +kernel)) (pi_listK K (pv 1)) (blkOk_by (own := [("equation", 4), ("unknown", 5), ("gap", 6)]) (by show blkC n_c_raise_by (defScope s_c_raise_by) _ _ = true; decide +kernel)) (by decide) (fun _ _ _ _ _ => pg_name (i := 4) sc.nd rfl (Or.inl rfl)) (fun _ _ _ _ _ => pts_nil) (fun _ _ _ _ _ => pi_listK K (pe_mcal (pv 0) CL M_gaps_of (hr.mono (by decide)) (pa_cons (pv 4) pa_nil))) (fun _ _ _ _ _ => pg_tupK K (n := 2) rfl (pgs_cons (pg_name (i := 5) sc.nd rfl (Or.inl rfl)) (pgs_cons (pg_name (i := 6) sc.nd rfl (Or.inl rfl)) (pgs_nil)))) (fun _ _ _ _ _ => pts_one (pt_cmp (pc_dnotin hu (pv 5) (pv 2)) rfl)) (fun _ _ _ _ _ => pv 6))
      (pss_cons (ps_if (pt_cmpR (op_eqDK K hr.units) (pv 3) (pe_lst (pa_nil)) (nomark _)) pss_never (pss_nil))
      (pss_cons (ps_for PassesOwn.never rfl (pi_listK K (pv 1)) (pg_name (i := 4) sc.nd rfl (Or.inl rfl)) (pss_one (ps_augS (pe_fldK K (pv 0) rfl) (pv 4) (get_listK K) (pe_callB (call_minK K rfl) (by rfl) B.min_ bo_min (pa_cons (pv 3) pa_nil)) ip_add set_list)))
      (pss_one (ps_lock (ps_for PassesOwn.never rfl (pi_keys (pv 2)) (pg_name (i := 5) sc.nd rfl (Or.inl rfl)) (pss_one (ps_augS (pe_fldK K (pv 0) rfl) (pv 5) (get_listK K) (pe_callB (call_minK K rfl) (by rfl) B.min_ bo_min (pa_cons (pv 3) pa_nil)) ip_add set_list))))))), ?_⟩
  have hP := hS.pat
  have hn := hP.le
  have hlen : lot.length ≤ 4 := by
    have : lot ⊆ List.range n := fun x hx => List.mem_range.mpr (hll x hx)
    have := List.Nodup.length_le_of_subset hnd this
    rw [List.length_range] at this; omega
  obtain ⟨dd, hdd⟩ : ∃ m, IsMn (gapsA T gs ts lot came) m := exists_mn fun e => by
    obtain ⟨e1, u, a, h1, h2, h3, h4⟩ := hout
    have : fI ts u - fI gs e1 - a ∈ gapsA T gs ts lot came := (mem_gapsA hP hll).mpr ⟨e1, u, a, h1, h2, h3, h4, rfl⟩
    rw [e] at this; cases this
  refine q_asg (d := .list ((gapsA T gs ts lot came).map .int)) ok (EvN.toD (EvN.is (en_lc2 (wi1 := iList K (tMeth C "gaps_of" (spGaps C) [] E0 (tVar 0) (tCons (tVar 4) tNil))) lot (fun e : Nat => .int (e : Int)) (fun e => gapsL T gs ts e) encG (fun e g => !decide (g.1 ∈ came.map (·.1))) (fun e g => .int g.2) (ei_list (ev_var rfl hlv))
    (fun e he x q l hx Q2 k2 => k2 _ (by rfl) (ei_list (ev_gaps (hS.le l) (i := 0) rfl (ev_var rfl hx) (hll e he))) fun g hg x1 q1 l1 e1 hx1 Q3 k3 => g_tup2 l1.ok hx1 fun w1 w2 h1 h2 => k3 _ (by rfl) (et_B (et_dni (i := 2) rfl (l1.keep d1 d2).1 (l1.keep d1 d2).2 (ev_var rfl h1))) fun _ => ev_var rfl h2) (by omega) (fun e he => by have := gaps_len (gs := gs) (ts := ts) hP (hll e he); omega)) ?_)) fun gv q0 l0 hgv => ?_
  · unfold gapsA
    rw [List.map_flatMap]
    congr 1
    funext e
    rw [List.map_map]; rfl
  have hgv0 : EvD (tVar 3) [some (V.ref o.x), some lv, some (.ref d), some gv, none, none, none] q0 (.list ((gapsA T gs ts lot came).map .int)) := ev_var rfl hgv
  refine q_when (b := false) l0.ok (EvB.is (et_D (ev_eqD hgv0 (en_lst ea_nil).toD (sh_ints _).shaped sh_nilL)) ?_) (fun z => nomatch z) fun _ q1 l1 => ?_
  · rw [eqv_nilL]
    cases e : gapsA T gs ts lot came with
    | nil => have := hdd.1; rw [e] at this; cases this
    | cons a b => rfl
  have l01 := l0.trans l1
  have hgv1 := hgv.up l1.d
  refine q_for l1.ok lot (fun e : Nat => .int (e : Int)) (ei_list (ev_var rfl (hlv.up l01.d))) fun r lr => ?_
  have l0r := l01.trans lr
  have hSr := hS.le l0r
  refine ⟨fun i σ' q => (∃ o4, σ' = [some (.ref o.x), some lv, some (.ref d), some gv, o4, none, none]) ∧ Mv (· = o.gl) r q ∧ ChS C T n o os (adds gs (lot.take i) dd) ts q, ⟨⟨none, rfl⟩, .of (.refl lr.s), by rw [List.take_zero]; exact hSr⟩, fun i σ' q h => h.2.1.kp', ?_, ?_⟩
  · rintro i e σ' q x q2 he ⟨⟨o4, rfl⟩, mq, hSq⟩ l2 hx
    have hS2 := hSq.le l2
    have hel := hll e (List.mem_of_getElem? he)
    refine s_augM (y := dd) l2.ok (er_g hS2 Tx (i := 0) rfl) hS2.g1 hS2.g2 (ev_var rfl hx) (by rw [hS2.lg]; exact hel) (ev_min (ev_var rfl (hgv1.up ((lr.d.trans mq.d).trans l2.d))) hdd) fun z mz z1 z2 => ?_
    refine ⟨z, rfl, ⟨_, rfl⟩, (mq.trans (.of l2) (fun a ha _ => by rw [ha, hSq.g2]; exact fun z => nomatch z)).trans mz (fun a ha _ => by rw [ha, hS2.g2]; exact fun z => nomatch z), ?_⟩
    refine hS2.setG mz z1 ?_ ?_
    · rw [z2, take_snoc he, adds_snoc]
    · rw [adds_len, adds_len]
  rintro σ' q3 ⟨⟨o4, rfl⟩, m3, hS3⟩
  rw [List.take_length] at hS3
  have mp3 : Mv (· = o.gl) p q3 := .pre l0r m3
  have hdg : ¬ d = o.gl := ne_of d2 hS.g2 (by intro z; cases z)
  obtain ⟨d1c, d2c⟩ := mp3.keep hdg d1 d2
  refine ⟨d, _, d2c, trivial, fun od => ?_⟩
  have lk := Lk.mk' q3 d od came
  obtain ⟨hS3', nx, no, ng, nt⟩ := hS3.lk lk d1c d2c
  have ok' := lk.ok m3.ok
  generalize hp' : ((upd q3.1 d (.frz od (.dK (kvD came))), upd q3.2 d (.frz od (.dK (kvD came)))) : Two) = p' at lk hS3' ok'
  have e2 : upd q3.2 d (.frz od (.dK (kvD came))) = p'.2 := by rw [← hp']
  rw [e2]
  have hgv3 := lk.da d1c (hgv1.up (lr.d.trans m3.d))
  refine s_for ok' (came) (fun c => .int (c.1 : Int)) (ei_keys rfl lk.at1) fun r2 lr2 => ?_
  have hSr2 := hS3'.le lr2
  refine ⟨fun i σ' q => (∃ o5, σ' = [some (.ref o.x), some lv, some (.ref d), some gv, o4, o5, none]) ∧ Mv (· = o.tl) r2 q ∧ ChS C T n o os (adds gs lot dd) (adds ts ((came.take i).map (·.1)) dd) q, ⟨⟨none, rfl⟩, .of (.refl lr2.s), by rw [List.take_zero]; exact hSr2⟩, fun i σ' q h => h.2.1.kp', ?_, ?_⟩
  · rintro i c σ' q x q2 hc ⟨⟨o5, rfl⟩, mq, hSq⟩ l2 hx
    have hS2 := hSq.le l2
    have hcl' := hcl c (List.mem_of_getElem? hc)
    refine s_augM (y := dd) l2.ok (er_t hS2 Tx (i := 0) rfl) hS2.t1 hS2.t2 (ev_var rfl hx) (by rw [hS2.lt]; exact hcl') (ev_min (ev_var rfl (hgv3.up ((lr2.d.trans mq.d).trans l2.d))) hdd) fun z mz z1 z2 => ?_
    refine ⟨z, rfl, ⟨_, rfl⟩, (mq.trans (.of l2) (fun a ha _ => by rw [ha, hSq.t2]; exact fun z => nomatch z)).trans mz (fun a ha _ => by rw [ha, hS2.t2]; exact fun z => nomatch z), ?_⟩
    refine hS2.setT mz z1 ?_ ?_
    · rw [z2, take_snoc hc, List.map_append]
      show _ = some (HO.lst ((adds ts ((came.take i).map (·.1) ++ [c.1]) dd).map V.int))
      rw [adds_snoc]
    · rw [adds_len, adds_len]
  · rintro σ' q4 ⟨⟨o5, rfl⟩, m4, hS4⟩
    rw [List.take_length] at hS4
    have m4' : Mv (· = o.tl) p' q4 := .pre lr2 m4
    have mu : Mv (· = o.tl) q3 (unl d came q4) := Mv.unlock lk d1c d2c m4' nt
    refine ⟨m4.s _ _ ((m4'.d) _ _ lk.at1), ?_⟩
    have hxd : o.x ≠ d := nx.symm
    have hS5 : ChS C T n o os (adds gs lot dd) (adds ts (came.map (·.1)) dd) (unl d came q4) :=
      ⟨hP, hS4.lo, hS4.lg, hS4.lt, (upd_ne nx.symm).trans hS4.i2, (drp_ne nx.symm).trans hS4.i1, (upd_ne no.symm).trans hS4.o2, (drp_ne no.symm).trans hS4.o1, (upd_ne ng.symm).trans hS4.g2, (drp_ne ng.symm).trans hS4.g1, (upd_ne nt.symm).trans hS4.t2, (drp_ne nt.symm).trans hS4.t1, unl_da (m4'.d _ _ lk.at1) hS4.da, hS4.og, hS4.ot, hS4.gt⟩
    refine kk (unl d came q4) (adds gs lot dd) (adds ts (came.map (·.1)) dd) dd ?_ hS5 drp_same upd_same ?_ ?_
    · refine (mp3.mono (fun a h => .inl h)).trans (mu.mono fun a h => .inr h) fun a ha _ => ?_
      rcases ha with ha | ha
      · rw [ha, hS3.g2]; exact fun z => nomatch z
      · rw [ha, hS3.t2]; exact fun z => nomatch z
    · refine ⟨?_, fun e u a h1 h2 h3 h4 => hdd.2 _ ((mem_gapsA hP hll).mpr ⟨e, u, a, h1, h2, h3, h4, rfl⟩)⟩
      exact (mem_gapsA hP hll).mp hdd.1
    · have ag := adds_at (d := dd) (gs := gs) hnd (fun e he => by rw [hS.lg]; exact hll e he)
      have at_ := adds_at (d := dd) (gs := ts) hnd2 (fun u hu => by
        obtain ⟨c, hc, e⟩ := List.mem_map.mp hu
        rw [hS.lt, ← e]; exact hcl c hc)
      exact ⟨fun e he => by rw [ag, if_pos he], fun e he => by rw [ag, if_neg he], fun u hu => by rw [at_, if_pos hu], fun u hu => by rw [at_, if_neg hu]⟩
end
end HR

namespace HR
open PySem PySem.Spec PyProof.Rows L2
open HT (ent IsPat RPre Reach Tight MInv SInv HInv put hand_start hand_step hand_end)
theorem flat_vN (os : List (Option Nat)) : (os.map vN).all flatV = true := by
  rw [List.all_map]
  exact List.all_eq_true.mpr fun o _ => by cases o <;> rfl
theorem eqV_vN (o : Option Nat) (e : Nat) : eqV (vN o) (.int (e : Int)) = (o == some e) := by
  cases o with
  | none => rfl
  | some a =>
    show ((a : Int) == (e : Int)) = (some a == some e)
    by_cases h : a = e
    · subst h; rw [beq_self_eq_true, beq_self_eq_true]
    · rw [beq_eq_false_iff_ne.mpr (show (a : Int) ≠ (e : Int) by omega), beq_eq_false_iff_ne.mpr (fun z => h (Option.some.inj z))]
theorem inV_vN (os : List (Option Nat)) (e : Nat) : inV (.int (e : Int)) (os.map vN) = os.any (· == some e) := by
  unfold inV
  rw [List.any_map]
  congr 1
  funext o
  exact eqV_vN o e
theorem fO_set {os : List (Option Nat)} {u e : Nat} (h : u < os.length) : fO (os.set u (some e)) = put (fO os) u e := by
  funext j
  show (os.set u (some e)).getD j none = if j = u then some e else os.getD j none
  rw [List.getD_eq_getElem?_getD, List.getD_eq_getElem?_getD, List.getElem?_set]
  by_cases q : u = j
  · subst q; rw [if_pos rfl, if_pos h, if_pos rfl]; rfl
  · rw [if_neg q, if_neg (fun z => q z.symm)]
theorem fO_lt {os : List (Option Nat)} {j e : Nat} (h : fO os j = some e) : j < os.length := by
  refine Nat.lt_of_not_le fun z => ?_
  unfold fO at h
  rw [List.getD_eq_getElem?_getD, List.getElem?_eq_none z] at h
  cases h
theorem any_fO {os : List (Option Nat)} {e : Nat} : (os.any (· == some e)) = true ↔ ∃ j, j < os.length ∧ fO os j = some e := by
  rw [List.any_eq_true]
  constructor
  · rintro ⟨o, ho, h⟩
    obtain ⟨j, hj, rfl⟩ := List.getElem_of_mem ho
    refine ⟨j, hj, ?_⟩
    unfold fO
    rw [List.getD_eq_getElem?_getD, List.getElem?_eq_getElem hj]
    exact eq_of_beq h
  · rintro ⟨j, hj, h⟩
    refine ⟨os[j], List.getElem_mem _, ?_⟩
    unfold fO at h
    rw [List.getD_eq_getElem?_getD, List.getElem?_eq_getElem hj] at h
    exact beq_iff_eq.mpr h
section
variable {K : PySem.W.Frag} {p q : Two} {σ : L2.St} {to ti te : TE} {D : Ends}
/-- e in owners -/
theorem et_inO {a : Addr} {os : List (Option Nat)} {e : Nat} (ho : EvR to σ p a) (h2 : p.2 a = some (.lst (os.map vN))) (he : EvD te σ p (.int (e : Int))) : EvD (tOp (rIn K false) te to) σ p (.bool (os.any (· == some e))) := fun q l Q k =>
  he q l _ fun v r l1 hv => by
    cases hv
    refine ho r (l.trans l1) _ ⟨a, _, rfl, .inl (.of ((l.trans l1).h _ _ h2)), rfl, flat_vN os, ?_⟩
    have e1 : (if false = true then !inV (.int (e : Int)) (os.map vN) else inV (.int (e : Int)) (os.map vN)) = os.any (· == some e) := inV_vN os e
    rw [e1]
    exact k _ r l1 (.bl _)
/-- owners.index(e) -/
theorem ev_indexO {a : Addr} {os : List (Option Nat)} {e j : Nat} (ho : EvR to σ p a) (h2 : p.2 a = some (.lst (os.map vN))) (he : EvD te σ p (.int (e : Int))) (hj : j < os.length) (h : fO os j = some e) (un : ∀ i, i < os.length → fO os i = some e → i = j) :
    EvD (tBM K "list" (rIndex K) to (tCons te tNil)) σ p (.int (j : Int)) := fun q l Q k =>
  ho q l _ ⟨ty_lstM (l.h _ _ h2), he q l _ fun v r l1 hv => by
    cases hv
    refine ⟨a, _, _, j, vN (fO os j), rfl, rfl, .of ((l.trans l1).h _ _ h2), rfl, flat_vN os, vN_at hj, ?_, fun m z hm hz => ?_, k _ r l1 (.int _)⟩
    · rw [eqV_vN, h, beq_self_eq_true]
    · have hm' : m < os.length := by omega
      rw [vN_at hm'] at hz
      cases hz
      rw [eqV_vN]
      exact beq_eq_false_iff_ne.mpr fun z => by have := un m hm' z; omega⟩
theorem s_asg {n : Nat} {d : PyData} (ok : Ok p) (h : EvD te σ p d) (k : ∀ v q, Le p q → Da q.1 v d → D.nx (σ.set n (some v)) q.2) : tAsg te (gName n) D σ p.2 := h p (.refl ok) _ fun v q l hv => k v q l hv
/-- a[j] = some e -/
theorem q_setO {a : Addr} {os : List (Option Nat)} {j e : Nat} {tz : TS} (ok : Ok p) (hv : EvD te σ p (.int (e : Int))) (ho : EvR to σ p a) (h1 : p.1 a = none) (h2 : p.2 a = some (.lst (os.map vN))) (hi : EvD ti σ p (.int (j : Int))) (hj : j < os.length)
    (k : ∀ z, Mv (· = a) p z → z.1 a = none → z.2 a = some (.lst ((os.set j (some e)).map vN)) → tz D σ z.2) : tSeq (tAsg te (gSub to ti rSetL)) tz D σ p.2 := by
  refine hv p (.refl ok) _ fun v q l hv => ?_
  cases hv
  refine ho q l _ (hi q l _ fun v r l2 hv => ?_)
  cases hv
  obtain ⟨k1, k2⟩ := (l.trans l2).keep h1 h2
  refine ⟨a, os.map vN, (j : Int), j, rfl, rfl, k2, ?_, ?_⟩
  · unfold ixN
    rw [if_pos (by omega), if_pos (by rw [List.length_map]; omega), Int.toNat_natCast]
  · refine k (r.1, upd r.2 a (.lst ((os.map vN).set j (.int (e : Int))))) (.pre (l.trans l2) (.put l2.ok k1 _)) k1 ?_
    rw [List.map_set]
    exact upd_same
end
section
variable {P : Program} {w : World} {K : PySem.W.Frag} {mg : Str → Option Value} {base : Heap} {C : Addr}
abbrev s_c_hand_on : Stmt := inClass (topS 4) 6
abbrev n_c_hand_on : List Str := ["self", "unknown", "came", "equation", "before"]
theorem sc_c_hand_on : FnScope n_c_hand_on ["self", "unknown", "came"] (defScope s_c_hand_on) := ⟨rfl, rfl, rfl, by decide +kernel, rfl, by decide +kernel, by decide +kernel⟩
def spHand (C : Addr) : Sp := fun vs H Q _ => ∃ (p : Two) (T : HT.Pat) (n k : Nat) (o : Ob) (os : List (Option Nat)) (gs ts : List Int) (d : Addr) (lot : List Nat) (came : List (Nat × Nat)) (u : Nat), p.2 = H ∧ Ok p ∧ ChS C T n o os gs ts p ∧ p.1 d = none ∧ p.2 d = some (.dK (kvD came)) ∧
  MInv T n k (fI gs) (fI ts) (fO os) ∧ Reach T n k (fI gs) (fI ts) (fO os) lot came ∧ (∃ e, (u, e) ∈ came) ∧ fO os u = none ∧ vs = [.ref o.x, .int (u : Int), .ref d] ∧
  ∀ (q : Two) (os' : List (Option Nat)), Mv (· = o.ol) p q → ChS C T n o os' gs ts q → SInv T n (k + 1) (fI gs) (fI ts) (fO os') → Q .non q.2
theorem ok_hand_on {f : Addr} {fd : FuncData} (F : Fun K "hand_on" "Choosing.hand_on" s_c_hand_on f fd) (B : Blt mg) (Tx : ChT K C) : FnOk P w K mg base CX0 1 f fd ["self", "unknown", "came"] (spHand C) := by
  refine F.ok sc_c_hand_on (fun vs H Q E ⟨_, _, _, _, _, _, _, _, _, _, _, _, _, _, _, _, _, _, _, _, _, h, _⟩ => by rw [h]; rfl) (fun cdv A outer s H vs Q E hr h => ?_)
  have sc := sc_c_hand_on
  have hu := hu_of hr
  obtain ⟨p, T, n, k, o, os, gs, ts, d, lot, came, u, rfl, ok, hS, d1, d2, hM, hR, ⟨e, hm⟩, hfree, rfl, kk⟩ := h
  refine ⟨_, pss_one (ps_while PassesOwn.never (pt_cmpR op_notN (pv 1) (pe_non) (nomark _)) (pss_cons (ps_set (i := 3) sc.nd rfl (Or.inl rfl) (pe_dget hu (pv 2) (pv 1) (fun _ _ => rfl)))
      (pss_cons (ps_set (i := 4) sc.nd rfl (Or.inl rfl) (pe_ifExp (pt_cmpR (op_in_seqK K) (pv 3) (pe_fldK K (pv 0) rfl) (by rfl)) (pe_bmK K PySem.F.plainAttrs_list PySem.F.slot_list_index PySem.F.type_list_index (mt_indexK K) (pe_fldK K (pv 0) rfl) (pa_cons (pv 3) pa_nil)) (pe_non)))
      (pss_cons (ps_asg (pv 3) (pg_sub (pe_fldK K (pv 0) rfl) (pv 1) set_list))
      (pss_one (ps_set (i := 1) sc.nd rfl (Or.inl rfl) (pv 4))))))), ?_⟩
  have hP := hS.pat
  have hn := hP.le
  have hdo : ¬ d = o.ol := ne_of d2 hS.o2 (by intro z; cases z)
  obtain ⟨pre, post, hsp⟩ := List.append_of_mem hm
  let W : Nat → L2.St → Two → Prop := fun m σ' q => ∃ os1 : List (Option Nat), Mv (· = o.ol) p q ∧ ChS C T n o os1 gs ts q ∧ ((∃ (u e : Nat) (pre post : List (Nat × Nat)) (o3 o4 : Option V), σ' = [some (.ref o.x), some (.int (u : Int)), some (.ref d), o3, o4] ∧ m = pre.length + 1 ∧ HInv T n k (fI gs) (fI ts) (fO os) came pre u e post (fO os1)) ∨
    (∃ (o3 o4 : Option V), σ' = [some (.ref o.x), some .non, some (.ref d), o3, o4] ∧ m = 0 ∧ SInv T n (k + 1) (fI gs) (fI ts) (fO os1)))
  refine s_while (D := { nx := _, rt := Q }) W (pre.length + 1)
    ⟨os, .of (.refl ok), hS, .inl ⟨u, e, pre, post, none, none, rfl, rfl, hand_start hM hsp hfree⟩⟩ ?_
  rintro m σ' q ⟨os1, mq, hSq, ⟨u, e, pre, post, o3, o4, rfl, rfl, hH⟩ | ⟨o3, o4, rfl, rfl, hI⟩⟩
  · refine ⟨mq.ok, true, EvB.is (et_D (ev_notN (o := some (u : Int)) (ev_var (i := 1) rfl (.int _)))) rfl, fun _ q1 l1 => ?_, fun z => nomatch z⟩
    have hmem : (u, e) ∈ came := by rw [hH.split]; simp
    have hun : u < n := hR.pre.lt _ hmem
    obtain ⟨d1q, d2q⟩ := mq.keep hdo d1 d2
    obtain ⟨d1a, d2a⟩ := l1.keep d1q d2q
    have hS1 := hSq.le l1
    refine ⟨fun σ2 H2 => ∃ m' z, z.2 = H2 ∧ m' < pre.length + 1 ∧ W m' σ2 z, fun σ2 H2 h => h, ?_⟩
    refine q_asg l1.ok (ev_dget (i := 2) rfl d2a hR.pre.nd hmem (ev_var (i := 1) rfl (.int _))) fun v2 q2 l2 hv2 => ?_
    cases hv2
    have hS2 := hS1.le l2
    by_cases hek : e = k
    · obtain ⟨hno, hI⟩ := hand_end hM hR hH hek
      have hany : os1.any (· == some e) = false := by
        cases hc : os1.any (· == some e) with
        | false => rfl
        | true =>
          obtain ⟨j, hj, h⟩ := any_fO.mp hc
          exact (hno j (by rw [← hSq.lo]; exact hj) h).elim
      refine q_asg (d := .none) l2.ok (ev_if (b := false) (EvB.is (et_D (et_inO (er_o hS2 Tx (i := 0) rfl) hS2.o2 (ev_var (i := 3) rfl (.int _)))) hany) (fun z => nomatch z) fun _ => ev_non) fun v3 q3 l3 hv3 => ?_
      cases hv3
      have hS3 := hS2.le l3
      refine q_setO l3.ok (ev_var (i := 3) rfl (.int _)) (er_o hS3 Tx (i := 0) rfl) hS3.o1 hS3.o2 (ev_var (i := 1) rfl (.int _)) (by rw [hS3.lo]; exact hun) fun z mz z1 z2 => ?_
      refine s_asg (d := .none) mz.ok (ev_var (i := 4) rfl .non) fun v4 q4 l4 hv4 => ?_
      cases hv4
      have m4 : Mv (· = o.ol) p q4 := ((mq.trans (.of ((l1.trans l2).trans l3)) (fun a ha _ => by rw [ha, hSq.o2]; exact fun z => nomatch z)).trans mz (fun a ha _ => by rw [ha, hS3.o2]; exact fun z => nomatch z)).trans (.of l4) (fun a ha _ => by rw [ha, z2]; exact fun z => nomatch z)
      refine ⟨0, q4, rfl, by omega, os1.set u (some e), m4, (hS3.setO mz z1 z2 (List.length_set ..)).le l4, .inr ⟨_, _, rfl, rfl, ?_⟩⟩
      rw [fO_set (by rw [hSq.lo]; exact hun)]
      exact hI
    · obtain ⟨v, hv, hOv, huni, pre', f', post', hlt, hH'⟩ := hand_step hM hR hH hek
      have hany : os1.any (· == some e) = true := any_fO.mpr ⟨v, by rw [hSq.lo]; exact hv, hOv⟩
      refine q_asg (d := .int (v : Int)) l2.ok (ev_if (b := true) (EvB.is (et_D (et_inO (er_o hS2 Tx (i := 0) rfl) hS2.o2 (ev_var (i := 3) rfl (.int _)))) hany) (fun _ => ev_indexO (er_o hS2 Tx (i := 0) rfl) hS2.o2 (ev_var (i := 3) rfl (.int _)) (by rw [hSq.lo]; exact hv) hOv fun i hi h => huni i (by rw [← hSq.lo]; exact hi) h) fun z => nomatch z) fun v3 q3 l3 hv3 => ?_
      cases hv3
      have hS3 := hS2.le l3
      refine q_setO l3.ok (ev_var (i := 3) rfl (.int _)) (er_o hS3 Tx (i := 0) rfl) hS3.o1 hS3.o2 (ev_var (i := 1) rfl (.int _)) (by rw [hS3.lo]; exact hun) fun z mz z1 z2 => ?_
      refine s_asg (d := .int (v : Int)) mz.ok (ev_var (i := 4) rfl (.int _)) fun v4 q4 l4 hv4 => ?_
      cases hv4
      have m4 : Mv (· = o.ol) p q4 := ((mq.trans (.of ((l1.trans l2).trans l3)) (fun a ha _ => by rw [ha, hSq.o2]; exact fun z => nomatch z)).trans mz (fun a ha _ => by rw [ha, hS3.o2]; exact fun z => nomatch z)).trans (.of l4) (fun a ha _ => by rw [ha, z2]; exact fun z => nomatch z)
      refine ⟨pre'.length + 1, q4, rfl, by omega, os1.set u (some e), m4, (hS3.setO mz z1 z2 (List.length_set ..)).le l4, .inl ⟨v, f', pre', post', _, _, rfl, rfl, ?_⟩⟩
      rw [fO_set (by rw [hSq.lo]; exact hun)]
      exact hH'
  · refine ⟨mq.ok, false, EvB.is (et_D (ev_notN (o := none) (ev_var (i := 1) rfl .non))) rfl, (fun z => nomatch z), fun _ q1 l1 => ?_⟩
    exact kk q1 os1 (mq.trans (.of l1) (fun a ha _ => by rw [ha, hSq.o2]; exact fun z => nomatch z)) (hSq.le l1) hI
end
end HR

namespace HR
open PySem PySem.Spec PyProof.Rows L2
open HT (ent IsPat IsCh sel RPre Reach Tight MInv SInv Raised IsMin raise_ok raise_more leads_out take_inv)
section
variable {K : PySem.W.Frag} {C : Addr} {T : HT.Pat} {n : Nat} {o : Ob} {os : List (Option Nat)} {gs ts : List Int} {p q r : Two} {σ : L2.St} {ta tb tv ty te : TE} {D : Ends}
def MO (o : Ob) : Addr → Prop := fun a => a = o.ol ∨ a = o.gl ∨ a = o.tl
theorem ChS.has (h : ChS C T n o os gs ts p) : ∀ a, MO o a → p.2 a ≠ none := fun a ha => by
  rcases ha with h1 | h1 | h1
  · rw [h1, h.o2]; exact fun z => nomatch z
  · rw [h1, h.g2]; exact fun z => nomatch z
  · rw [h1, h.t2]; exact fun z => nomatch z
/-- one step more, the object seen before it -/
theorem Mv.go {p0 : Two} (m : Mv (MO o) p0 p) (m' : Mv (MO o) p q) (h : ChS C T n o os gs ts p) : Mv (MO o) p0 q := m.trans m' fun a ha _ => h.has a ha
theorem Mv.goL {p0 : Two} (m : Mv (MO o) p0 p) (l : Le p q) (h : ChS C T n o os gs ts p) : Mv (MO o) p0 q := m.go (.of l) h
theorem ChS.dn {d : Addr} {ob : HO} (h : ChS C T n o os gs ts p) (hd : p.2 d = some ob) (h1 : ∀ vs, ob ≠ .lst vs) : ¬ MO o d := fun m => by
  rcases m with e | e | e
  · rw [e, h.o2] at hd; cases hd; exact h1 _ rfl
  · rw [e, h.g2] at hd; cases hd; exact h1 _ rfl
  · rw [e, h.t2] at hd; cases hd; exact h1 _ rfl
/-- a[j] = y -/
theorem q_setI {a : Addr} {xs : List Int} {j : Nat} {y : Int} {to ti : TE} {tz : TS} (ok : Ok p) (hv : EvD te σ p (.int y)) (ho : EvR to σ p a) (h1 : p.1 a = none) (h2 : p.2 a = some (.lst (xs.map V.int))) (hi : EvD ti σ p (.int (j : Int))) (hj : j < xs.length)
    (k : ∀ z, Mv (· = a) p z → z.1 a = none → z.2 a = some (.lst ((xs.set j y).map V.int)) → tz D σ z.2) : tSeq (tAsg te (gSub to ti rSetL)) tz D σ p.2 := by
  refine hv p (.refl ok) _ fun v q l hv => ?_
  cases hv
  refine ho q l _ (hi q l _ fun v r l2 hv => ?_)
  cases hv
  obtain ⟨k1, k2⟩ := (l.trans l2).keep h1 h2
  refine ⟨a, xs.map V.int, (j : Int), j, rfl, rfl, k2, ?_, ?_⟩
  · unfold ixN
    rw [if_pos (by omega), if_pos (by rw [List.length_map]; omega), Int.toNat_natCast]
  · refine k (r.1, upd r.2 a (.lst ((xs.map V.int).set j (.int y)))) (.pre (l.trans l2) (.put l2.ok k1 _)) k1 ?_
    rw [List.map_set]
    exact upd_same
theorem g_tupR {m1 m2 : Nat} {v1 v2 : V} {t : Addr} {Q : L2.St → Hp → Prop} (h : p.2 t = some (.tup [v1, v2])) (k : Q ((σ.set m1 (some v1)).set m2 (some v2)) p.2) : gTup K 2 (gCons (gName m1) (gCons (gName m2) gNil)) (.ref t) σ p.2 Q :=
  ⟨_, _, rfl, .of h, rfl, _, _, rfl, _, _, rfl, rfl, k⟩
theorem no_reached {pv ol gl tl} : (flds pv ol gl tl).lookup ("reached" : Str) = none := fl_no (by decide +kernel)
theorem no_free {pv ol gl tl} : (flds pv ol gl tl).lookup ("free_in" : Str) = none := fl_no (by decide +kernel)
theorem no_raise {pv ol gl tl} : (flds pv ol gl tl).lookup ("raise_by" : Str) = none := fl_no (by decide +kernel)
theorem no_hand {pv ol gl tl} : (flds pv ol gl tl).lookup ("hand_on" : Str) = none := fl_no (by decide +kernel)
theorem ev_free {i j : Nat} {d : Addr} {came : List (Nat × Nat)} (h : ChS C T n o os gs ts p) (hs : σ[i]? = some (some (.ref o.x))) (hd : σ[j]? = some (some (.ref d))) (d1 : p.1 d = none) (d2 : p.2 d = some (.dK (kvD came))) (hlt : ∀ c ∈ came, c.1 < n) (hlen : came.length ≤ n) :
    EvD (tMeth C "free_in" (spFree C) [] E0 (tVar i) (tCons (tVar j) tNil)) σ p (eO (eN (freeO os came))) := fun q l Q k =>
  ⟨_, hs, o.x, o.dx, _, rfl, (h.le l).i2, no_free, _, hd, q, T, n, o, os, gs, ts, d, came, rfl, l.ok, h.le l, (l.keep d1 d2).1, (l.keep d1 d2).2, hlt, hlen, rfl, fun v q2 l2 h2 => k v q2 l2 h2⟩
/-- a list of what was reached, the dict of the ways -/
structure Lots (T : HT.Pat) (n k : Nat) (gs ts : List Int) (os : List (Option Nat)) (L d : Addr) (lot : List Nat) (came : List (Nat × Nat)) (q : Two) : Prop where
  da : Da q.1 (.ref L) (.list (lot.map fun e : Nat => .int (e : Int)))
  d1 : q.1 d = none
  d2 : q.2 d = some (.dK (kvD came))
  r : Reach T n k (fI gs) (fI ts) (fO os) lot came
theorem Lots.le {k : Nat} {L d : Addr} {lot : List Nat} {came : List (Nat × Nat)} (h : Lots T n k gs ts os L d lot came p) (l : Le p q) : Lots T n k gs ts os L d lot came q := ⟨h.da.up l.d, (l.keep h.d1 h.d2).1, (l.keep h.d1 h.d2).2, h.r⟩
/-- lot, came = self.reached(equation) -/
theorem q_reach {i j m1 m2 k : Nat} {tz : TS} (ok : Ok p) (h : ChS C T n o os gs ts p) (hs : σ[i]? = some (some (.ref o.x))) (he : σ[j]? = some (some (.int (k : Int)))) (hk : k < n) (hM : MInv T n k (fI gs) (fI ts) (fO os))
    (kk : ∀ L d lot came q, Le p q → Lots T n k gs ts os L d lot came q → tz D ((σ.set m1 (some (.ref L))).set m2 (some (.ref d))) q.2) :
    tSeq (tAsg (tMeth C "reached" (spReach C) [] E0 (tVar i) (tCons (tVar j) tNil)) (gTup K 2 (gCons (gName m1) (gCons (gName m2) gNil)))) tz D σ p.2 :=
  ⟨_, hs, o.x, o.dx, _, rfl, h.i2, no_reached, _, he, p, T, n, o, os, gs, ts, k, rfl, ok, h, hk, fun j e hj hO => by have := (hM.own j e hj hO).1; omega, rfl, fun t L d lot came r l1 h1 h2 h3 h4 _ h6 => g_tupR h1 (kk L d lot came r l1 ⟨h2, h3, h4, h6⟩)⟩
theorem s_reach {i j m1 m2 k : Nat} (ok : Ok p) (h : ChS C T n o os gs ts p) (hs : σ[i]? = some (some (.ref o.x))) (he : σ[j]? = some (some (.int (k : Int)))) (hk : k < n) (hM : MInv T n k (fI gs) (fI ts) (fO os))
    (kk : ∀ L d lot came q, Le p q → Lots T n k gs ts os L d lot came q → D.nx ((σ.set m1 (some (.ref L))).set m2 (some (.ref d))) q.2) :
    tAsg (tMeth C "reached" (spReach C) [] E0 (tVar i) (tCons (tVar j) tNil)) (gTup K 2 (gCons (gName m1) (gCons (gName m2) gNil))) D σ p.2 :=
  ⟨_, hs, o.x, o.dx, _, rfl, h.i2, no_reached, _, he, p, T, n, o, os, gs, ts, k, rfl, ok, h, hk, fun j e hj hO => by have := (hM.own j e hj hO).1; omega, rfl, fun t L d lot came r l1 h1 h2 h3 h4 _ h6 => g_tupR h1 (kk L d lot came r l1 ⟨h2, h3, h4, h6⟩)⟩
end
theorem free_some {os : List (Option Nat)} {came : List (Nat × Nat)} {u : Nat} (h : freeO os came = some u) : (∃ e, (u, e) ∈ came) ∧ fO os u = none := by
  unfold freeO at h
  cases hf : freeL os came with
  | nil => rw [hf] at h; cases h
  | cons c cs =>
    rw [hf] at h
    cases h
    have : c ∈ freeL os came := by rw [hf]; exact List.mem_cons_self ..
    unfold freeL at this
    rw [List.mem_filter] at this
    refine ⟨⟨c.2, this.1⟩, ?_⟩
    cases e : fO os c.1 with
    | none => rfl
    | some y => rw [e] at this; cases this.2
theorem free_none {os : List (Option Nat)} {came : List (Nat × Nat)} (h : freeO os came = none) : ∀ c ∈ came, fO os c.1 ≠ none := fun c hc z => by
  unfold freeO at h
  have : c ∈ freeL os came := List.mem_filter.mpr ⟨hc, by rw [z]; rfl⟩
  cases hf : freeL os came with
  | nil => rw [hf] at this; cases this
  | cons a as => rw [hf] at h; cases h
section
variable {P : Program} {w : World} {K : PySem.W.Frag} {mg : Str → Option Value} {base : Heap} {C : Addr}
abbrev s_c_take_in : Stmt := inClass (topS 4) 2
abbrev n_c_take_in : List Str := ["self", "equation", "gaps", "lot", "came", "unknown", "gap"]
theorem sc_c_take_in : FnScope n_c_take_in ["self", "equation"] (defScope s_c_take_in) := ⟨rfl, rfl, rfl, by decide +kernel, rfl, by decide +kernel, by decide +kernel⟩
def spTake (C : Addr) : Sp := fun vs H Q _ => ∃ (p : Two) (T : HT.Pat) (n k : Nat) (o : Ob) (os : List (Option Nat)) (gs ts : List Int), p.2 = H ∧ Ok p ∧ ChS C T n o os gs ts p ∧ k < n ∧ SInv T n k (fI gs) (fI ts) (fO os) ∧ (∃ s, IsCh T n s) ∧ vs = [.ref o.x, .int (k : Int)] ∧
  ∀ (q : Two) (os' : List (Option Nat)) (gs' ts' : List Int), Mv (MO o) p q → ChS C T n o os' gs' ts' q → SInv T n (k + 1) (fI gs') (fI ts') (fO os') → Q .non q.2
theorem ok_take_in {f : Addr} {fd : FuncData} (F : Fun K "take_in" "Choosing.take_in" s_c_take_in f fd) (B : Blt mg) (Tx : ChT K C) (M_gaps_of : MCal P w K mg base C 1 "gaps_of" ["self", "equation"] (spGaps C)) (M_reached : MCal P w K mg base C 2 "reached" ["self", "start"] (spReach C))
    (M_free_in : MCal P w K mg base C 1 "free_in" ["self", "came"] (spFree C)) (M_raise_by : MCal P w K mg base C 2 "raise_by" ["self", "lot", "came"] (spRaise C)) (M_hand_on : MCal P w K mg base C 1 "hand_on" ["self", "unknown", "came"] (spHand C)) : FnOk P w K mg base CX0 3 f fd ["self", "equation"] (spTake C) := by
  refine F.ok sc_c_take_in (fun vs H Q E ⟨_, _, _, _, _, _, _, _, _, _, _, _, _, _, h, _⟩ => by rw [h]; rfl) (fun cdv A outer s H vs Q E hr h => ?_)
  have sc := sc_c_take_in
  have hu := hu_of hr
  have CL := Tx.cl
  obtain ⟨p, T, n, k, o, os, gs, ts, rfl, ok, hS, hk, hI, ⟨sch, hch⟩, rfl, kk⟩ := h
  refine ⟨_, pss_cons (ps_setLc (i := 2) (own := [("unknown", 5), ("gap", 6)]) rfl sc.nd rfl rfl (sw_true rfl rfl rfl (by decide +kernel)) (pi_listK K (pe_mcal (pv 0) CL M_gaps_of (hr.mono (by decide)) (pa_cons (pv 1) pa_nil))) (blkOk_by (own := [("unknown", 5), ("gap", 6)]) (by show blkC n_c_take_in (defScope s_c_take_in) _ _ = true; decide +kernel)) (fun _ _ _ _ _ => pg_tupK K (n := 2) rfl (pgs_cons (pg_name (i := 5) sc.nd rfl (Or.inl rfl)) (pgs_cons (pg_name (i := 6) sc.nd rfl (Or.inl rfl)) (pgs_nil)))) (fun _ _ _ _ _ => pts_nil) (fun _ _ _ _ _ => pv 6))
      (pss_cons (ps_asg (pe_ifExp (pt_cmpR (op_neDK K hr.units) (pv 2) (pe_lst (pa_nil)) (nomark _)) (pe_callB (call_minK K rfl) (by rfl) B.min_ bo_min (pa_cons (pv 2) pa_nil)) (pe_int)) (pg_sub (pe_fldK K (pv 0) rfl) (pv 1) set_list))
      (pss_cons (ps_asg (pe_mcal (pv 0) CL M_reached (hr.mono (by decide)) (pa_cons (pv 1) pa_nil)) (pg_tupK K (n := 2) rfl (pgs_cons (pg_name (i := 3) sc.nd rfl (Or.inl rfl)) (pgs_cons (pg_name (i := 4) sc.nd rfl (Or.inl rfl)) (pgs_nil)))))
      (pss_cons (ps_while PassesOwn.never (PW.pt (pw_and (pt_cmpR op_isN (pe_fldK K (pv 0) rfl) (pe_non) (nomark _)) (pw_and1 (pt_cmpR op_isN (pe_mcal (pv 0) CL M_free_in (hr.mono (by decide)) (pa_cons (pv 4) pa_nil)) (pe_non) (nomark _))))) (pss_cons (ps_expr (pe_mcal (pv 0) CL M_raise_by (hr.mono (by decide)) (pa_cons (pv 3) (pa_cons (pv 4) pa_nil))))
      (pss_one (ps_asg (pe_mcal (pv 0) CL M_reached (hr.mono (by decide)) (pa_cons (pv 1) pa_nil)) (pg_tupK K (n := 2) rfl (pgs_cons (pg_name (i := 3) sc.nd rfl (Or.inl rfl)) (pgs_cons (pg_name (i := 4) sc.nd rfl (Or.inl rfl)) (pgs_nil))))))))
      (pss_one (ps_if (pt_cmpR op_isN (pe_fldK K (pv 0) rfl) (pe_non) (nomark _)) (pss_one (ps_expr (pe_mcal (pv 0) CL M_hand_on (hr.mono (by decide)) (pa_cons (pe_mcal (pv 0) CL M_free_in (hr.mono (by decide)) (pa_cons (pv 4) pa_nil)) (pa_cons (pv 4) pa_nil))))) (pss_nil)))))), ?_⟩
  have hP := hS.pat
  have hn := hP.le
  refine q_asg (d := .list ((gapsL T gs ts k).map fun g => .int g.2)) ok (EvN.toD (EvN.is (en_lc (gapsL T gs ts k) encG (fun _ => true) (fun g => .int g.2) (ei_list (ev_gaps hS (i := 0) rfl (ev_var rfl (.int _)) hk)) (fun g hg x q l hx Q2 k2 =>
    g_tup2 l.ok hx fun w1 w2 h1 h2 => k2 _ (by rfl) et_yes fun _ => ev_var rfl h2) (by have := gaps_len (gs := gs) (ts := ts) hP hk; omega)) (by rw [filter_all]))) fun gv q0 l0 hgv => ?_
  have hS0 := hS.le l0
  -- a gap there is
  obtain ⟨a0, ha0⟩ := hch.some_ k hk
  have hsel : sel sch k < n := hch.perm.sel_lt hk
  obtain ⟨x, hx⟩ : ∃ m, IsMn ((gapsL T gs ts k).map fun g => g.2) m := exists_mn fun e => by
    have := List.mem_map_of_mem (f := fun g : Gap => g.2) (gaps_mem (gs := gs) (ts := ts) hP hk hsel ha0)
    rw [e] at this; cases this
  have hzero : fI gs k = 0 := hI.zero k (Nat.le_refl _) hk
  have hgv0 : EvD (tVar 2) [some (V.ref o.x), some (V.int (k : Int)), some gv, none, none, none, none] q0 (.list (((gapsL T gs ts k).map fun g => g.2).map .int)) := ev_var rfl (by rw [List.map_map]; exact hgv)
  refine q_setI (y := x) l0.ok (ev_if (b := true) (EvB.is (et_D (ev_neD hgv0 (en_lst ea_nil).toD (sh_ints _).shaped sh_nilL)) ?_) (fun _ => ev_min hgv0 hx) fun z => nomatch z) (er_g hS0 Tx (i := 0) rfl) hS0.g1 hS0.g2 (ev_var (i := 1) rfl (.int _)) (by rw [hS.lg]; exact hk) fun q1 mz z1 z2 => ?_
  · rw [eqv_nilL]
    cases e : (gapsL T gs ts k).map fun g => g.2 with
    | nil => have := hx.1; rw [e] at this; cases this
    | cons a b => rfl
  have hS1 : ChS C T n o os (gs.set k x) ts q1 := hS0.setG mz z1 z2 (List.length_set ..)
  have m1 : Mv (MO o) p q1 := (Mv.of l0 : Mv (MO o) p q0).go (mz.mono fun a h => .inr (.inl h)) hS0
  have hM1 : MInv T n k (fI (gs.set k x)) (fI ts) (fO os) := by
    have e1 : fI (gs.set k x) = fun i => if i = k then x else fI gs i := funext fun i => fI_set (by rw [hS.lg]; exact hk) x i
    rw [e1]
    refine take_inv hI hk fun u a hu' ha => ?_
    have := hx.2 _ (List.mem_map_of_mem (f := fun g : Gap => g.2) (gaps_mem (gs := gs) (ts := ts) hP hk hu' ha))
    dsimp only at this
    omega
  refine q_reach m1.ok hS1 (i := 0) rfl (j := 1) rfl hk hM1 fun L d lot came q2 l2 hL2 => ?_
  have hS2 := hS1.le l2
  have m2 := m1.goL l2 hS1
  let W : Nat → L2.St → Two → Prop := fun m σ' q => ∃ (L d : Addr) (lot : List Nat) (came : List (Nat × Nat)) (gs' ts' : List Int), σ' = [some (V.ref o.x), some (V.int (k : Int)), some gv, some (.ref L), some (.ref d), none, none] ∧ m = n - came.length ∧ Mv (MO o) p q ∧ ChS C T n o os gs' ts' q ∧ MInv T n k (fI gs') (fI ts') (fO os) ∧ Lots T n k gs' ts' os L d lot came q
  refine s_while (D := { nx := _, rt := Q }) W _ ⟨L, d, lot, came, _, _, rfl, rfl, m2, hS2, hM1, hL2⟩ ?_
  rintro m σ' q ⟨L, d, lot, came, gs', ts', rfl, rfl, mq, hSq, hMq, hLq⟩
  have hlt := hLq.r.pre.lt
  have hcl := hLq.r.pre.len.1
  refine ⟨mq.ok, (freeO os came).isNone, EvB.is (et_and (a := true) (EvB.is (et_D (ev_isN (ev_s hSq Tx (i := 0) rfl))) rfl) fun _ => EvB.is (et_D (ev_isN (ev_free hSq (i := 0) rfl (j := 4) rfl hLq.d1 hLq.d2 hlt hcl))) (eN_none _)) (Bool.true_and _), fun hb q3 l3 => ?_, fun hb q3 l3 => ?_⟩
  · have hfn : freeO os came = none := Option.isNone_iff_eq_none.mp hb
    have hS3 := hSq.le l3
    have hL3 := hLq.le l3
    have m3 := mq.goL l3 hSq
    obtain ⟨e1, u1, a1, he1, hu1, hn1, ha1⟩ := leads_out hMq hLq.r.pre hch hk (free_none hfn)
    refine ⟨fun σ2 H2 => ∃ m' z, z.2 = H2 ∧ m' < n - came.length ∧ W m' σ2 z, fun σ2 H2 h => h, ?_⟩
    refine ⟨_, rfl, o.x, o.dx, _, rfl, hS3.i2, no_raise, _, rfl, _, rfl, q3, T, n, o, os, gs', ts', .ref L, d, lot, came, rfl, l3.ok, hS3, hL3.da, hL3.d1, hL3.d2, hMq.lot_nd hLq.r.pre, fun e he => by have := hMq.lot_le hLq.r.pre e he; omega, hLq.r.pre.nd, hlt, ⟨e1, u1, a1, he1, hu1, hn1, ha1⟩, rfl, fun q4 gs4 ts4 dd mv4 hS4 _ _ hmin hrai => ?_⟩
    have m4 := m3.go (mv4.mono fun a h => .inr h) hS3
    have hM4 := raise_ok hMq hLq.r hk hmin hrai
    refine s_reach m4.ok hS4 (i := 0) rfl (j := 1) rfl hk hM4 fun L5 d5 lot5 came5 q5 l5 hL5 => ?_
    have hmore := raise_more hMq hLq.r hk hmin hrai hL5.r
    have hle5 := hL5.r.pre.len.1
    exact ⟨_, q5, rfl, by omega, L5, d5, lot5, came5, gs4, ts4, rfl, rfl, m4.goL l5 hS4, hS4.le l5, hM4, hL5⟩
  · have hS3 := hSq.le l3
    have hL3 := hLq.le l3
    have m3 := mq.goL l3 hSq
    obtain ⟨u, hu1⟩ : ∃ u, freeO os came = some u := Option.isSome_iff_exists.mp (by cases e : freeO os came with
      | none => rw [e] at hb; cases hb
      | some u => rfl)
    obtain ⟨hmem, hno⟩ := free_some hu1
    refine s_if (b := true) l3.ok (EvB.is (et_D (ev_isN (ev_s hS3 Tx (i := 0) rfl))) rfl) (fun _ q4 l4 => ?_) (fun z => nomatch z)
    have hS4 := hS3.le l4
    have hL4 := hL3.le l4
    have m4 := m3.goL l4 hS3
    refine ⟨_, rfl, o.x, o.dx, _, rfl, hS4.i2, no_hand, ev_free hS4 (i := 0) rfl (j := 4) rfl hL4.d1 hL4.d2 hlt hcl q4 (.refl m4.ok) _ fun v q5 l5 hv => ?_⟩
    rw [hu1] at hv
    cases hv
    have hS5 := hS4.le l5
    have hL5 := hL4.le l5
    have m5 := m4.goL l5 hS4
    refine ⟨_, rfl, q5, T, n, k, o, os, gs', ts', d, lot, came, u, rfl, l5.ok, hS5, hL5.d1, hL5.d2, hMq, hLq.r, hmem, hno, rfl, fun q6 os' m6 hS6 hI6 => ?_⟩
    exact kk q6 os' gs' ts' (m5.go (m6.mono fun a h => .inl h) hS5) hS6 hI6
end
end HR

namespace HR
open PySem PySem.Spec PyProof.Rows L2
open HT (ent IsPat IsCh sel SInv start_inv sm wt IsW Feas end_choice end_ex)
/-! calls with more than one answer -/
def EvX (te : TE) (σ : L2.St) (p : Two) (Po : PyData → Prop) : Prop := ∀ q, Le p q → ∀ Q : VK, (∀ v r d, Le q r → Da r.1 v d → Po d → Q v r.2) → te σ q.2 Q
def spQ (R : List PyData → (PyData → Prop) → Prop) : Sp := fun vs H Q _ => ∃ (p : Two) (ds : List PyData) (Po : PyData → Prop), p.2 = H ∧ Ok p ∧ DaAll p.1 vs ds ∧ R ds Po ∧ ∀ v q d, Le p q → Da q.1 v d → Po d → Q v q.2
theorem spQ_len {R : List PyData → (PyData → Prop) → Prop} {n : Nat} (hR : ∀ ds Po, R ds Po → ds.length = n) {vs : List V} {H : Hp} {Q : VK} {E : XK} (h : spQ R vs H Q E) : vs.length = n := by
  obtain ⟨p, ds, Po, _, _, h1, h2, _⟩ := h
  rw [h1.length, hR ds Po h2]
section
variable {K : PySem.W.Frag} {C : Addr} {T : HT.Pat} {n : Nat} {o : Ob} {os : List (Option Nat)} {gs ts : List Int} {p q r : Two} {σ : L2.St} {ta tb tv ty te : TE} {D : Ends}
theorem ex_call {R : List PyData → (PyData → Prop) → Prop} {Po : PyData → Prop} {ta : TA} {ds : List PyData} (ha : EvA ta σ p ds) (h : R ds Po) : EvX (tCall (spQ R) [] E0 ta) σ p Po := fun q l Q k => ha q l _ fun vs r l1 hv => by
  show spQ R (vs ++ []) r.2 Q E0
  rw [List.append_nil]
  exact ⟨r, ds, Po, rfl, l1.ok, hv, h, fun v q2 d l2 hv2 hd => k v q2 d (l1.trans l2) hv2 hd⟩
theorem x_ret {Po : PyData → Prop} {D : Ends} (ok : Ok p) (h : EvX te σ p Po) (k : ∀ v q d, Le p q → Da q.1 v d → Po d → D.rt v q.2) : tRet te D σ p.2 := h p (.refl ok) _ k
/-- x.f = a new list -/
theorem q_fldN {x : Addr} {C dx : Addr} {fs : List (Str × V)} {f : Str} {ds : List PyData} {i : Nat} {tz : TS} (ok : Ok p) (cl : Cls K C) (na : NoAttr K C f) (h : EvN tv σ p ds) (hs : σ[i]? = some (some (.ref x))) (h1 : p.1 x = none) (h2 : p.2 x = some (.ins C dx fs)) (hl : fs.length < 1000)
    (k : ∀ L vs z, Mv (· = x) p z → z.1 x = none → z.2 x = some (.ins C dx (putF f (.ref L) fs)) → p.2 L = none → z.1 L = none → z.2 L = some (.lst vs) → L ≠ x → DaAll z.1 vs ds → tz D σ z.2) : tSeq (sFld K (tVar i) tv f) tz D σ p.2 :=
  h p (.refl ok) _ fun L vs q l f0 f1 f2 hv => by
    obtain ⟨k1, k2⟩ := l.keep h1 h2
    have hne : L ≠ x := fun e => by rw [e, h2] at f0; cases f0
    refine ⟨_, hs, x, C, dx, fs, rfl, k2, cl, na, hl, ?_⟩
    refine k L vs (q.1, upd q.2 x (.ins C dx (putF f (.ref L) fs))) (.pre l (.put l.ok k1 _)) k1 upd_same f0 f1 ?_ hne hv
    show upd q.2 x _ L = _
    rw [upd_ne hne]; exact f2
theorem q_fldD {x : Addr} {C dx : Addr} {fs : List (Str × V)} {f : Str} {d : PyData} {i : Nat} {tz : TS} (ok : Ok p) (cl : Cls K C) (na : NoAttr K C f) (h : EvD tv σ p d) (hs : σ[i]? = some (some (.ref x))) (h1 : p.1 x = none) (h2 : p.2 x = some (.ins C dx fs)) (hl : fs.length < 1000)
    (k : ∀ v z, Mv (· = x) p z → z.1 x = none → z.2 x = some (.ins C dx (putF f v fs)) → Da z.1 v d → tz D σ z.2) : tSeq (sFld K (tVar i) tv f) tz D σ p.2 :=
  h p (.refl ok) _ fun v q l hv => by
    obtain ⟨k1, k2⟩ := l.keep h1 h2
    refine ⟨_, hs, x, C, dx, fs, rfl, k2, cl, na, hl, ?_⟩
    exact k v (q.1, upd q.2 x (.ins C dx (putF f v fs))) (.pre l (.put l.ok k1 _)) k1 upd_same hv
theorem Mv.new {M N : Addr → Prop} {z : Two} (m : Mv M p z) (n : Mv N z q) (hN : ∀ a, N a → p.2 a = none) (hM : ∀ a, M a → p.2 a ≠ none → z.2 a ≠ none) : Mv M p q := ⟨m.d.trans n.d, n.s, fun a o h e => n.h a o (fun y => by rw [hN a y] at e; cases e) (m.h a o h e), fun a h1 h2 => n.f a (m.f a h1 h2) (by
  by_cases hm : M a
  · exact hM a hm h2
  · cases e : p.2 a with
    | none => exact absurd e h2
    | some o => rw [m.h a o hm e]; exact fun x => nomatch x)⟩
theorem Mv.back {M : Addr → Prop} {z : Two} {a : Addr} (m : Mv M p z) (hM : ¬ M a) (h : z.2 a = none) : p.2 a = none := by
  cases e : p.2 a with
  | none => rfl
  | some o => rw [m.h a o hM e] at h; cases h
theorem putF_le {f : Str} {v : V} {fs : List (Str × V)} {m : Nat} (h : fs.length ≤ m) : (putF f v fs).length ≤ m + 1 := by have := length_putF f v fs; omega
theorem no_take {pv ol gl tl} : (flds pv ol gl tl).lookup ("take_in" : Str) = none := fl_no (by decide +kernel)
theorem no_choice {pv ol gl tl} : (flds pv ol gl tl).lookup ("choice" : Str) = none := fl_no (by decide +kernel)
theorem put_all {pv ol gl tl} : putF ("short" : Str) .non (putF ("tops" : Str) (.ref tl) (putF ("grown" : Str) (.ref gl) (putF ("owners" : Str) (.ref ol) (putF ("pattern" : Str) pv [])))) = flds pv ol gl tl := by
  have h1 : ¬ ("pattern" : Str) = ("owners" : Str) := by decide +kernel
  have h2 : ¬ ("pattern" : Str) = ("grown" : Str) := by decide +kernel
  have h3 : ¬ ("pattern" : Str) = ("tops" : Str) := by decide +kernel
  have h4 : ¬ ("pattern" : Str) = ("short" : Str) := by decide +kernel
  have h5 : ¬ ("owners" : Str) = ("grown" : Str) := by decide +kernel
  have h6 : ¬ ("owners" : Str) = ("tops" : Str) := by decide +kernel
  have h7 : ¬ ("owners" : Str) = ("short" : Str) := by decide +kernel
  have h8 : ¬ ("grown" : Str) = ("tops" : Str) := by decide +kernel
  have h9 : ¬ ("grown" : Str) = ("short" : Str) := by decide +kernel
  have h10 : ¬ ("tops" : Str) = ("short" : Str) := by decide +kernel
  simp only [putF, flds, if_neg h1, if_neg h2, if_neg h3, if_neg h4, if_neg h5, if_neg h6, if_neg h7, if_neg h8, if_neg h9, if_neg h10]
theorem rep1 {α : Type} (n : Nat) (x : α) : (List.replicate n [x]).flatten = List.replicate n x := by
  induction n with
  | zero => rfl
  | succ n ih => rw [List.replicate_succ, List.flatten_cons, ih, List.replicate_succ]; rfl
theorem fI_rep (n : Nat) : fI (List.replicate n 0) = fun _ => 0 := by
  funext i
  unfold fI
  rw [List.getD_eq_getElem?_getD, List.getElem?_replicate]
  by_cases h : i < n
  · rw [if_pos h]; rfl
  · rw [if_neg h]; rfl
theorem fO_rep (n : Nat) : fO (List.replicate n none) = fun _ => none := by
  funext i
  unfold fO
  rw [List.getD_eq_getElem?_getD, List.getElem?_replicate]
  by_cases h : i < n
  · rw [if_pos h]; rfl
  · rw [if_neg h]; rfl
end
section
variable {P : Program} {w : World} {K : PySem.W.Frag} {mg : Str → Option Value} {base : Heap} {C : Addr}
abbrev s_c_init : Stmt := inClass (topS 4) 0
abbrev n_c_init : List Str := ["self", "pattern", "equation"]
theorem sc_c_init : FnScope n_c_init ["self", "pattern"] (defScope s_c_init) := ⟨rfl, rfl, rfl, by decide +kernel, rfl, by decide +kernel, by decide +kernel⟩
def spInit (C : Addr) : Sp := fun vs H Q _ => ∃ (p : Two) (T : HT.Pat) (n : Nat) (x dx : Addr) (pv : V), p.2 = H ∧ Ok p ∧ IsPat T n ∧ (∃ s, IsCh T n s) ∧ Da p.1 pv (ePat T) ∧ p.1 x = none ∧ p.2 x = some (.ins C dx []) ∧ vs = [.ref x, pv] ∧
  ∀ (q : Two) (o : Ob) (os : List (Option Nat)) (gs ts : List Int), o.x = x → Mv (· = x) p q → ChS C T n o os gs ts q → SInv T n n (fI gs) (fI ts) (fO os) → Q .non q.2
theorem ok_init {f : Addr} {fd : FuncData} (F : Fun K "__init__" "Choosing.__init__" s_c_init f fd) (B : Blt mg) (Tx : ChT K C) (M_take_in : MCal P w K mg base C 3 "take_in" ["self", "equation"] (spTake C)) : FnOk P w K mg base CX0 4 f fd ["self", "pattern"] (spInit C) := by
  refine F.ok sc_c_init (fun vs H Q E ⟨_, _, _, _, _, _, _, _, _, _, _, _, _, h, _⟩ => by rw [h]; rfl) (fun cdv A outer s H vs Q E hr h => ?_)
  have sc := sc_c_init
  have CL := Tx.cl
  obtain ⟨p, T, n, x, dx, v0, rfl, ok, hP, hch, hpv, x1, x2, rfl, kk⟩ := h
  refine ⟨_, pss_cons (ps_fldK K (pv 0) (pv 1) rfl)
      (pss_cons (ps_fldK K (pv 0) (pe_op op_rep (pe_lst (pa_cons (pe_non) pa_nil)) (pe_callB (call_lenK K) (by rfl) B.len_ bo_len (pa_cons (pv 1) pa_nil))) rfl)
      (pss_cons (ps_fldK K (pv 0) (pe_op op_rep (pe_lst (pa_cons (pe_int) pa_nil)) (pe_callB (call_lenK K) (by rfl) B.len_ bo_len (pa_cons (pv 1) pa_nil))) rfl)
      (pss_cons (ps_fldK K (pv 0) (pe_op op_rep (pe_lst (pa_cons (pe_int) pa_nil)) (pe_callB (call_lenK K) (by rfl) B.len_ bo_len (pa_cons (pv 1) pa_nil))) rfl)
      (pss_cons (ps_fldK K (pv 0) (pe_non) rfl)
      (pss_one (ps_for PassesOwn.never rfl (pi_range1 (by rfl) B.range_ (pa_cons (pe_callB (call_lenK K) (by rfl) B.len_ bo_len (pa_cons (pv 1) pa_nil)) pa_nil)) (pg_name (i := 2) sc.nd rfl (Or.inl rfl)) (pss_one (ps_if (pt_cmpR op_isN (pe_fldK K (pv 0) rfl) (pe_non) (nomark _)) (pss_one (ps_expr (pe_mcal (pv 0) CL M_take_in (hr.mono (by decide)) (pa_cons (pv 2) pa_nil)))) (pss_nil))))))))), ?_⟩
  have hn := hP.le
  have hlen : ∀ {q : Two}, Da q.1 v0 (ePat T) → EvD (tCB (rLen K) (tCons (tVar 1) tNil)) [some (V.ref x), some v0, none] q (.int (n : Int)) := fun h => by
    have := ev_lenT (K := K) (ev_var (σ := [some (V.ref x), some v0, none]) (i := 1) rfl h)
    rw [List.length_map, hP.len] at this
    exact this
  refine q_fldD ok CL Tx.nP (ev_var (i := 1) rfl hpv) (i := 0) rfl x1 x2 (by decide) fun v z0 m0 x1a x2a hv => ?_
  refine q_fldN m0.ok CL Tx.nO (en_rep (n := n) (en_lst (ea_cons ev_non ea_nil)) (hlen (hpv.up m0.d)) (by omega) (by simp)) (i := 0) rfl x1a x2a (Nat.lt_of_le_of_lt (putF_le (Nat.le_refl 0)) (by decide)) fun L1 vs1 z1 m1 x1b x2b f1 a1 b1 n1 hv1 => ?_
  have m1' := m0.trans m1 fun a ha _ => by rw [ha, x2a]; exact fun z => nomatch z
  refine q_fldN m1.ok CL Tx.nG (en_rep (n := n) (en_lst (ea_cons ev_int ea_nil)) (hlen (hpv.up m1'.d)) (by omega) (by simp)) (i := 0) rfl x1b x2b (Nat.lt_of_le_of_lt (putF_le (putF_le (Nat.le_refl 0))) (by decide)) fun L2 vs2 z2 m2 x1c x2c f2 a2 b2 n2 hv2 => ?_
  have m2' := m1'.trans m2 fun a ha _ => by rw [ha, x2b]; exact fun z => nomatch z
  refine q_fldN m2.ok CL Tx.nT (en_rep (n := n) (en_lst (ea_cons ev_int ea_nil)) (hlen (hpv.up m2'.d)) (by omega) (by simp)) (i := 0) rfl x1c x2c (Nat.lt_of_le_of_lt (putF_le (putF_le (putF_le (Nat.le_refl 0)))) (by decide)) fun L3 vs3 z3 m3 x1d x2d f3 a3 b3 n3 hv3 => ?_
  have m3' := m2'.trans m3 fun a ha _ => by rw [ha, x2c]; exact fun z => nomatch z
  refine q_fldD m3.ok CL Tx.nS ev_non (i := 0) rfl x1d x2d (Nat.lt_of_le_of_lt (putF_le (putF_le (putF_le (putF_le (Nat.le_refl 0))))) (by decide)) fun vn z4 m4 x1e x2e hvn => ?_
  cases hvn
  have m4' := m3'.trans m4 fun a ha _ => by rw [ha, x2d]; exact fun z => nomatch z
  rw [put_all] at x2e
  have e1 : vs1 = (List.replicate n (none : Option Nat)).map vN := by
    have h : DaAll z1.1 vs1 ((List.replicate n (none : Option Int)).map eO) := by
      rw [List.map_replicate]; rw [rep1] at hv1; exact hv1
    rw [h.opts, List.map_replicate, List.map_replicate]; rfl
  have e2 : vs2 = (List.replicate n (0 : Int)).map V.int := by
    refine DaAll.ints (D := z2.1) ?_
    rw [List.map_replicate]; rw [rep1] at hv2; exact hv2
  have e3 : vs3 = (List.replicate n (0 : Int)).map V.int := by
    refine DaAll.ints (D := z3.1) ?_
    rw [List.map_replicate]; rw [rep1] at hv3; exact hv3
  rw [e1] at b1
  rw [e2] at b2
  rw [e3] at b3
  have k1 := ((m2.keep (a := L1) n1 a1 b1))
  have k1' := m3.keep (a := L1) n1 k1.1 k1.2
  have k1'' := m4.keep (a := L1) n1 k1'.1 k1'.2
  have k2' := m3.keep (a := L2) n2 a2 b2
  have k2'' := m4.keep (a := L2) n2 k2'.1 k2'.2
  have k3'' := m4.keep (a := L3) n3 a3 b3
  have g1 : p.2 L1 = none := m0.back (a := L1) n1 f1
  have g2 : p.2 L2 = none := m1'.back (a := L2) n2 f2
  have g3 : p.2 L3 = none := m2'.back (a := L3) n3 f3
  have hS : ChS C T n ⟨x, dx, L1, L2, L3, v⟩ (List.replicate n none) (List.replicate n 0) (List.replicate n 0) z4 :=
    ⟨hP, List.length_replicate, List.length_replicate, List.length_replicate, x2e, x1e, k1''.2, k1''.1, k2''.2, k2''.1, k3''.2, k3''.1, hv.up (((m1.d.trans m2.d).trans m3.d).trans m4.d),
      (fun e : L1 = L2 => by rw [← e, b1] at f2; cases f2), (fun e : L1 = L3 => by rw [← e, k1.2] at f3; cases f3), fun e : L2 = L3 => by rw [← e, b2] at f3; cases f3⟩
  generalize ho : (⟨x, dx, L1, L2, L3, v⟩ : Ob) = o at hS
  have ox : o.x = x := by rw [← ho]
  have hMO : ∀ a, MO o a → p.2 a = none := fun a ha => by
    rw [← ho] at ha
    rcases ha with e | e | e
    · rw [e]; exact g1
    · rw [e]; exact g2
    · rw [e]; exact g3
  subst ox
  refine s_for m4.ok (List.range n) (fun e : Nat => .int (e : Int)) (ei_rng1 (hlen (hpv.up m4'.d)) (by omega)) fun r lr => ?_
  refine ⟨fun i σ' q => ∃ (o2 : Option V) (os : List (Option Nat)) (gs ts : List Int), σ' = [some (V.ref o.x), some v0, o2] ∧ Mv (MO o) z4 q ∧ Kp r q ∧ ChS C T n o os gs ts q ∧ SInv T n i (fI gs) (fI ts) (fO os),
    ⟨none, _, _, _, rfl, .of lr, .of (.refl lr.s), hS.le lr, ?_⟩, fun i σ' q ⟨_, _, _, _, _, _, h, _⟩ => h, ?_, ?_⟩
  · rw [fI_rep, fO_rep]; exact start_inv
  · rintro i e σ' q xv q2 he ⟨o2, os, gs, ts, rfl, mq, kq, hSq, hI⟩ l2 hx
    have hin : i < n ∧ e = i := by
      obtain ⟨h1, h2⟩ := List.getElem?_eq_some_iff.mp he
      rw [List.length_range] at h1
      rw [List.getElem_range] at h2
      exact ⟨h1, h2.symm⟩
    obtain ⟨hi, rfl⟩ := hin
    cases hx
    have hS2 := hSq.le l2
    refine s_if (b := true) l2.ok (EvB.is (et_D (ev_isN (ev_s hS2 Tx (i := 0) rfl))) rfl) (fun _ q3 l3 => ?_) (fun z => nomatch z)
    have hS3 := hS2.le l3
    have m3 := (mq.goL l2 hSq).goL l3 hS2
    refine ⟨_, rfl, o.x, o.dx, _, rfl, hS3.i2, no_take, _, rfl, q3, T, n, e, o, os, gs, ts, rfl, l3.ok, hS3, hi, hI, hch, rfl, fun q4 os' gs' ts' m5 hS4 hI4 => ?_⟩
    exact ⟨q4, rfl, _, os', gs', ts', rfl, m3.go m5 hS3, m5.kp ((kq.trans (.of l2)).trans (.of l3)), hS4, hI4⟩
  · rintro σ' q ⟨o2, os, gs, ts, rfl, mq, kq, hSq, hI⟩
    rw [List.length_range] at hI
    exact kk q o os gs ts rfl (m4'.new mq hMO fun a ha _ => by rw [ha, x2e]; exact fun z => nomatch z) hSq hI
abbrev s_c_choice : Stmt := inClass (topS 4) 7
abbrev n_c_choice : List Str := ["self", "equation"]
theorem sc_c_choice : FnScope n_c_choice ["self"] (defScope s_c_choice) := ⟨rfl, rfl, rfl, by decide +kernel, rfl, by decide +kernel, by decide +kernel⟩
def spChoice (C : Addr) : Sp := fun vs H Q _ => ∃ (p : Two) (T : HT.Pat) (n : Nat) (o : Ob) (os : List (Option Nat)) (gs ts : List Int) (s : List Nat), p.2 = H ∧ Ok p ∧ ChS C T n o os gs ts p ∧ SInv T n n (fI gs) (fI ts) (fO os) ∧ s.length = n ∧ (∀ i, i < n → sel s i < n ∧ fO os (sel s i) = some i) ∧ vs = [.ref o.x] ∧
  ∀ v q, Le p q → Da q.1 v (.tuple (s.map fun e : Nat => .int (e : Int))) → Q v q.2
theorem sel_map {s : List Nat} {n : Nat} (h : s.length = n) : s = (List.range n).map (sel s) := by
  apply List.ext_getElem
  · rw [List.length_map, List.length_range, h]
  · intro i h1 h2
    rw [List.getElem_map, List.getElem_range]
    unfold sel
    rw [List.getD_eq_getElem?_getD, List.getElem?_eq_getElem h1]; rfl
theorem ok_choice {f : Addr} {fd : FuncData} (F : Fun K "choice" "Choosing.choice" s_c_choice f fd) (B : Blt mg) (Tx : ChT K C) : FnOk P w K mg base CX0 1 f fd ["self"] (spChoice C) := by
  refine F.ok sc_c_choice (fun vs H Q E ⟨_, _, _, _, _, _, _, _, _, _, _, _, _, _, h, _⟩ => by rw [h]; rfl) (fun cdv A outer s H vs Q E hr h => ?_)
  have sc := sc_c_choice
  have CL := Tx.cl
  obtain ⟨p, T, n, o, os, gs, ts, s, rfl, ok, hS, hI, hl, hs, rfl, kk⟩ := h
  refine ⟨_, pss_one (ps_ret (pe_callTy (call_tupleK K) (by rfl) B.tuple_ bo_tuple (pa_cons (pe_lc (own := [("equation", 1)]) rfl sc.nd (pi_range1 (by rfl) B.range_ (pa_cons (pe_callB (call_lenK K) (by rfl) B.len_ bo_len (pa_cons (pe_fldK K (pv 0) rfl) pa_nil)) pa_nil)) (blkOk_by (own := [("equation", 1)]) (by show blkC n_c_choice (defScope s_c_choice) _ _ = true; decide +kernel)) (fun _ _ _ _ _ => pg_name (i := 1) sc.nd rfl (Or.inl rfl)) (fun _ _ _ _ _ => pts_nil) (fun _ _ _ _ _ => pe_bmK K PySem.F.plainAttrs_list PySem.F.slot_list_index PySem.F.type_list_index (mt_indexK K) (pe_fldK K (pv 0) rfl) (pa_cons (pv 1) pa_nil))) pa_nil))), ?_⟩
  have hn := hS.pat.le
  have hlen := ev_lenM (K := K) (er_o hS Tx (σ := start n_c_choice [.ref o.x]) (i := 0) rfl) hS.o2
  rw [List.length_map, hS.lo] at hlen
  refine s_ret ok (ev_tupL (EvN.toD (EvN.is (en_lc (List.range n) (fun e : Nat => .int (e : Int)) (fun _ => true) (fun e : Nat => .int ((sel s e : Nat) : Int)) (ei_rng1 hlen (by omega)) (fun e he x q l hx Q2 k2 => k2 _ (by rfl) et_yes fun _ => ?_) (by rw [List.length_range]; omega)) ?_))) fun v' q3 l3 h3 => kk v' q3 l3 h3
  · have hi : e < n := List.mem_range.mp he
    have hSq := hS.le l
    exact ev_indexO (er_o hSq Tx (i := 0) rfl) hSq.o2 (ev_var rfl hx) (by rw [hS.lo]; exact (hs e hi).1) (hs e hi).2 fun j hj hO => hI.inj j _ e (by rw [← hS.lo]; exact hj) (hs e hi).1 hO (hs e hi).2
  · rw [filter_all]
    conv => rhs; rw [sel_map hl, List.map_map]
    rfl
/-! ### the def's that use it -/
section
variable {σ : L2.St} {p : Two} {te : TE} {T : HT.Pat} {n : Nat}
/-- Choosing(pattern) -/
theorem t_mk {Q : VK} (ok : Ok p) (h : EvD te σ p (ePat T)) (hP : IsPat T n) (hch : ∃ s, IsCh T n s) (k : ∀ o os gs ts q, Le p q → ChS C T n o os gs ts q → SInv T n n (fI gs) (fI ts) (fO os) → Q (.ref o.x) q.2) : tMake C (spInit C) [] E0 (tCons te tNil) σ p.2 Q :=
  h p (.refl ok) _ fun v r l hv x dx hx hdx hne => by
    have hx1 : r.1 x = none := ex_free l.ok hx
    have hdx1 : r.1 dx = none := ex_free l.ok hdx
    have l1 : Le r (r.1, upd (upd r.2 dx (.own x)) x (.ins C dx [])) := ((Le.refl l.ok).mut hdx hdx1).mut hx hx1
    refine ⟨(r.1, upd (upd r.2 dx (.own x)) x (.ins C dx [])), T, n, x, dx, v, rfl, l1.ok, hP, hch, hv, hx1, upd_same, rfl, fun q o os gs ts ho m hS hI => ⟨rfl, ?_⟩⟩
    rw [← ho]
    exact k o os gs ts q (l.trans (m.le l1 fun a ha => by rw [ha]; exact hx)) hS hI
theorem q_mk {m : Nat} {tz : TS} {D : Ends} (ok : Ok p) (h : EvD te σ p (ePat T)) (hP : IsPat T n) (hch : ∃ s, IsCh T n s) (k : ∀ o os gs ts q, Le p q → ChS C T n o os gs ts q → SInv T n n (fI gs) (fI ts) (fO os) → tz D (σ.set m (some (.ref o.x))) q.2) : tSeq (tAsg (tMake C (spInit C) [] E0 (tCons te tNil)) (gName m)) tz D σ p.2 :=
  t_mk (Q := fun x H1 => tz D (σ.set m (some x)) H1) ok h hP hch k
end
def R_heavy : Rel := fun ds d => ∃ (T : HT.Pat) (n : Nat) (W : Int), ds = [ePat T] ∧ IsPat T n ∧ IsW T n W ∧ d = .int W
theorem R_heavy_len : ∀ ds d, R_heavy ds d → ds.length = 1 := fun ds d ⟨_, _, _, h, _⟩ => by rw [h]; rfl
def Q_some : List PyData → (PyData → Prop) → Prop := fun ds Po => ∃ (T : HT.Pat) (n : Nat) (W : Int), ds = [ePat T] ∧ IsPat T n ∧ IsW T n W ∧ Po = fun d => ∃ s g t, d = .tuple (s.map fun e : Nat => .int (e : Int)) ∧ IsCh T n s ∧ wt T n s = W ∧ Feas T n g t ∧ sm n t - sm n g = W
theorem Q_some_len : ∀ ds d, Q_some ds d → ds.length = 1 := fun ds d ⟨_, _, _, h, _⟩ => by rw [h]; rfl
abbrev s_some_heaviest : Stmt := topS 5
abbrev n_some_heaviest : List Str := ["pattern", "found"]
theorem sc_some_heaviest : FnScope n_some_heaviest ["pattern"] (defScope s_some_heaviest) := ⟨rfl, rfl, rfl, by decide +kernel, rfl, by decide +kernel, by decide +kernel⟩
theorem ok_some_heaviest {f : Addr} {fd : FuncData} (F : Fun K "some_heaviest" "some_heaviest" s_some_heaviest f fd) (B : Blt mg) (Tx : ChT K C) (MK : MkCal P w K mg base C 4 "Choosing" ["self", "pattern"] (spInit C)) (M_choice : MCal P w K mg base C 1 "choice" ["self"] (spChoice C)) :
    FnOk P w K mg base CX0 6 f fd ["pattern"] (spQ Q_some) := by
  refine F.ok sc_some_heaviest (fun vs H Q E h => spQ_len Q_some_len h) (fun cdv A outer s H vs Q E hr h => ?_)
  have sc := sc_some_heaviest
  have CL := Tx.cl
  obtain ⟨p, ds, Po, rfl, ok, hv, ⟨T, n, W, rfl, hP, hW, rfl⟩, k⟩ := h
  obtain ⟨v, rfl, h1⟩ := hv.one'
  refine ⟨_, pss_cons (ps_set (i := 1) sc.nd rfl (Or.inl rfl) (pe_mk MK (hr.mono (by decide)) (by rfl) (pa_cons (pv 0) pa_nil)))
      (pss_one (ps_ret (pe_ifExp (pt_cmpR op_isN (pe_fldK K (pv 1) rfl) (pe_non) (nomark _)) (pe_mcal0 (pv 1) CL M_choice (hr.mono (by decide))) (pe_non)))), ?_⟩
  obtain ⟨s0, hs0, _⟩ := hW.ex
  refine q_mk ok (ev_var (i := 0) rfl h1) hP ⟨s0, hs0⟩ fun o os gs ts q l hS hI => ?_
  obtain ⟨s, hl, hs⟩ := end_ex hI
  obtain ⟨c1, c2, c3, c4⟩ := end_choice hI hl hs
  have e4 := c4.uniq hW
  refine s_ret (d := .tuple (s.map fun e : Nat => .int (e : Int))) l.ok (ev_if (b := true) (EvB.is (et_D (ev_isN (ev_s hS Tx (i := 1) rfl))) rfl) (fun _ q2 l2 Q2 k2 => ?_) fun z => nomatch z) fun v' q3 l3 h3 => k v' q3 _ (l.trans l3) h3 ⟨s, _, _, rfl, c1, by rw [c3, e4], c2, e4⟩
  have hS2 := hS.le l2
  exact ⟨_, rfl, o.x, o.dx, _, rfl, hS2.i2, no_choice, q2, T, n, o, os, gs, ts, s, rfl, l2.ok, hS2, hI, hl, hs, rfl, fun v q3 l3 h3 => k2 v q3 l3 h3⟩
theorem ev_sumM {σ : L2.St} {p : Two} {te : TE} {a : Addr} {xs : List Int} (h : EvR te σ p a) (h2 : p.2 a = some (.lst (xs.map V.int))) : EvD (tCB (rSum K) (tCons te tNil)) σ p (.int xs.sum) := fun q l Q k =>
  h q l _ ⟨a, xs, rfl, .of (l.h _ _ h2), k _ q (.refl l.ok) (.int _)⟩
abbrev s_heaviest_number : Stmt := topS 6
abbrev n_heaviest_number : List Str := ["pattern", "found"]
theorem sc_heaviest_number : FnScope n_heaviest_number ["pattern"] (defScope s_heaviest_number) := ⟨rfl, rfl, rfl, by decide +kernel, rfl, by decide +kernel, by decide +kernel⟩
theorem ok_heaviest_number {f : Addr} {fd : FuncData} (F : Fun K "heaviest_number" "heaviest_number" s_heaviest_number f fd) (B : Blt mg) (Tx : ChT K C) (MK : MkCal P w K mg base C 4 "Choosing" ["self", "pattern"] (spInit C)) :
    FnOk P w K mg base CX0 6 f fd ["pattern"] (spF R_heavy) := by
  refine F.ok sc_heaviest_number (fun vs H Q E h => spF_len R_heavy_len h) (fun cdv A outer s H vs Q E hr h => ?_)
  have sc := sc_heaviest_number
  have CL := Tx.cl
  obtain ⟨p, ds, d, rfl, ok, hv, ⟨T, n, W, rfl, hP, hW, rfl⟩, k⟩ := h
  obtain ⟨v, rfl, h1⟩ := hv.one'
  refine ⟨_, pss_cons (ps_set (i := 1) sc.nd rfl (Or.inl rfl) (pe_mk MK (hr.mono (by decide)) (by rfl) (pa_cons (pv 0) pa_nil)))
      (pss_one (ps_ret (pe_ifExp (pt_cmpR op_isN (pe_fldK K (pv 1) rfl) (pe_non) (nomark _)) (pe_op op_sub (pe_callB (call_sumK K rfl) (by rfl) B.sum_ bo_sum (pa_cons (pe_fldK K (pv 1) rfl) pa_nil)) (pe_callB (call_sumK K rfl) (by rfl) B.sum_ bo_sum (pa_cons (pe_fldK K (pv 1) rfl) pa_nil))) (pe_non)))), ?_⟩
  obtain ⟨s0, hs0, _⟩ := hW.ex
  refine q_mk ok (ev_var (i := 0) rfl h1) hP ⟨s0, hs0⟩ fun o os gs ts q l hS hI => ?_
  obtain ⟨s, hl, hs⟩ := end_ex hI
  obtain ⟨c1, c2, c3, c4⟩ := end_choice hI hl hs
  have e4 := c4.uniq hW
  refine s_ret (d := .int W) l.ok (ev_if (b := true) (EvB.is (et_D (ev_isN (ev_s hS Tx (i := 1) rfl))) rfl) (fun _ => EvD.is (ev_sub (ev_sumM (er_t hS Tx (i := 1) rfl) hS.t2) (ev_sumM (er_g hS Tx (i := 1) rfl) hS.g2)) ?_) fun z => nomatch z) fun v' q3 l3 h3 => k v' q3 (l.trans l3) h3
  rw [sm_fI, sm_fI, hS.lt, hS.lg, e4]
end
end HR

namespace HR
open PySem PySem.Spec PyProof.Rows L2
open HT (ent IsPat IsCh sel sm wt IsW Feas Best Offs it nx top od LeN Cols)
/-! tuples with a part that has more than one answer -/
def EvXA (ta : TA) (σ : L2.St) (p : Two) (Po : List PyData → Prop) : Prop := ∀ q, Le p q → ∀ Q : List V → Hp → Prop, (∀ vs r ds, Le q r → DaAll r.1 vs ds → Po ds → Q vs r.2) → ta σ q.2 Q
section
variable {K : PySem.W.Frag} {p q r : Two} {σ : L2.St} {ta tb tv ty te : TE} {P1 : PyData → Prop} {P2 : List PyData → Prop} {d : PyData}
theorem EvD.x (h : EvD te σ p d) : EvX te σ p (fun e => e = d) := fun q l Q k => h q l Q fun v r l1 h1 => k v r d l1 h1 rfl
theorem xa_nil : EvXA tNil σ p (fun ds => ds = []) := fun q l Q k => k _ q _ (.refl l.ok) .nil rfl
theorem xa_cons {tr : TA} (h : EvX te σ p P1) (hr : EvXA tr σ p P2) : EvXA (tCons te tr) σ p (fun ds => ∃ d es, ds = d :: es ∧ P1 d ∧ P2 es) := fun q l Q k =>
  h q l _ fun v r1 d l1 hv hd => hr r1 (l.trans l1) _ fun vs r2 ds l2 hvs hds => k _ r2 (d :: ds) (l1.trans l2) (.cons (hv.up l2.d) hvs) ⟨d, ds, rfl, hd, hds⟩
theorem x_tup {tr : TA} (h : EvXA tr σ p P2) (hz : ∀ ds, P2 ds → ds.length ≤ 100000) : EvX (tTup tr) σ p (fun d => ∃ ds, d = .tuple ds ∧ P2 ds) := fun q l Q k =>
  h q l _ fun vs r1 ds l1 hv hd => ⟨by rw [hv.length]; exact Evl.sz_of (hz ds hd), fun z hz => k _ (_, upd r1.2 z (.tup vs)) (.tuple ds) (l1.trans (.new l1.ok hz)) (.newT (ex_free l1.s hz) hv) ⟨ds, rfl, hd⟩⟩
theorem q_asgX {g : TG} {tz : TS} {D : Ends} (ok : Ok p) (h : EvX te σ p P1) (k : ∀ v q d, Le p q → Da q.1 v d → P1 d → g v σ q.2 (tz D)) : tSeq (tAsg te g) tz D σ p.2 := h p (.refl ok) _ k
theorem g_tup4 {n m o o' : Nat} {d1 d2 d3 d4 : PyData} {x : V} {Q : L2.St → Hp → Prop} (ok : Ok p) (h : Da p.1 x (.tuple [d1, d2, d3, d4])) (k : ∀ v1 v2 v3 v4, Da p.1 v1 d1 → Da p.1 v2 d2 → Da p.1 v3 d3 → Da p.1 v4 d4 → Q ((((σ.set n (some v1)).set m (some v2)).set o (some v3)).set o' (some v4)) p.2) :
    gTup K 4 (gCons (gName n) (gCons (gName m) (gCons (gName o) (gCons (gName o') gNil)))) x σ p.2 Q := by
  cases h with
  | tup h1 h2 =>
    cases h2 with
    | cons h3 h4 =>
      cases h4 with
      | cons h5 h6 =>
        cases h6 with
        | cons h7 h8 =>
          cases h8 with
          | cons h9 h10 =>
            cases h10
            exact ⟨_, _, rfl, .of (ok _ _ h1), rfl, _, _, rfl, _, _, rfl, _, _, rfl, _, _, rfl, rfl, k _ _ _ _ h3 h5 h7 h9⟩
end
/-! lists of a function's numbers -/
def fL (n : Nat) (f : Nat → Int) : List Int := (List.range n).map f
theorem fL_len (n : Nat) (f : Nat → Int) : (fL n f).length = n := by unfold fL; rw [List.length_map, List.length_range]
theorem fL_at {n : Nat} {f : Nat → Int} {i : Nat} (h : i < n) : (fL n f)[i]? = some (f i) := by
  unfold fL
  rw [List.getElem?_map, List.getElem?_range h]; rfl
theorem fI_fL {n : Nat} {f : Nat → Int} {i : Nat} (h : i < n) : fI (fL n f) i = f i := by
  have h1 := fI_at (c := fL n f) (i := i) (by rw [fL_len]; exact h)
  rw [fL_at h] at h1
  exact (Option.some.inj h1).symm
theorem fL_congr {n : Nat} {f g : Nat → Int} (h : ∀ i, i < n → f i = g i) : fL n f = fL n g := List.map_congr_left fun i hi => h i (List.mem_range.mp hi)
theorem fL_fI (c : List Int) : fL c.length (fI c) = c := by
  apply List.ext_getElem?
  intro i
  by_cases h : i < c.length
  · rw [fL_at h, fI_at h]
  · rw [List.getElem?_eq_none (by rw [fL_len]; omega), List.getElem?_eq_none (by omega)]
theorem fL_inj {n : Nat} {f g : Nat → Int} (h : fL n f = fL n g) : ∀ i, i < n → f i = g i := fun i hi => by
  have := fL_at (f := f) hi
  rw [h, fL_at hi] at this
  exact (Option.some.inj this).symm
theorem topL_fL {T : HT.Pat} {n : Nat} {f : Nat → Int} (hc : Cols T n) : topL T n (fL n f) = fL n (top T n f) := by
  unfold topL fL
  exact List.map_congr_left fun i hi => HT.top_congr hc (fun j hj => fI_fL hj) i (List.mem_range.mp hi)
theorem eqvAll_ints : ∀ a b : List Int, PyData.eqvAll (a.map .int) (b.map .int) = decide (a = b)
  | [], [] => by rw [List.map_nil, PyData.eqvAll]; simp
  | [], b :: bs => by rw [List.map_nil, List.map_cons, PyData.eqvAll]; simp
  | a :: as, [] => by rw [List.map_nil, List.map_cons, PyData.eqvAll]; simp
  | a :: as, b :: bs => by
    rw [List.map_cons, List.map_cons, PyData.eqvAll, eqvAll_ints as bs, PyData.eqv]
    by_cases h1 : a = b
    · subst h1; by_cases h2 : as = bs
      · subst h2; simp
      · simp [h2]
    · simp [h1]
theorem eqv_ints (a b : List Int) : PyData.eqv (.list (a.map .int)) (.list (b.map .int)) = decide (a = b) := by
  rw [PyData.eqv, eqvAll_ints]
theorem eqv_ln (ds : List PyData) : PyData.eqv (.list ds) .none = false := by rw [PyData.eqv]
/-- the least best offsets -/
structure IsLeast (T : HT.Pat) (n : Nat) (W : Int) (c d : Nat → Int) : Prop where
  best : Best T n W c d
  le : ∀ c' d', Best T n W c' d' → LeN n c c' ∧ LeN n d d'
theorem enum_sel {s : List Nat} {n : Nat} (h : s.length = n) : enumD (s.map fun e : Nat => .int (e : Int)) = (List.range n).map fun i : Nat => .tuple [.int (i : Int), .int ((sel s i : Nat) : Int)] := by
  apply List.ext_getElem?
  intro i
  by_cases hi : i < n
  · rw [List.getElem?_map, List.getElem?_range hi]
    refine enumD_get ?_
    rw [List.getElem?_map, List.getElem?_eq_getElem (by omega)]
    unfold sel
    rw [List.getD_eq_getElem?_getD, List.getElem?_eq_getElem (by omega)]; rfl
  · rw [List.getElem?_eq_none (by rw [enumD_len, List.length_map]; omega), List.getElem?_eq_none (by rw [List.length_map, List.length_range]; omega)]
theorem pat_nn {T : HT.Pat} {n : Nat} (h : IsPat T n) : ∀ i j a, ent T i j = some a → 0 ≤ a := fun i j a e => (h.ord i j a e).1
section
variable {P : Program} {w : World} {K : PySem.W.Frag} {mg : Str → Option Value} {base : Heap} {C : Addr}
abbrev s_check_choices : Stmt := topS 18
abbrev n_check_choices : List Str := ["pattern"]
theorem sc_check_choices : FnScope n_check_choices ["pattern"] (defScope s_check_choices) := ⟨rfl, rfl, rfl, by decide +kernel, rfl, by decide +kernel, by decide +kernel⟩
def R_hasch : Rel := fun ds d => ∃ (T : HT.Pat) (n : Nat) (W : Int), ds = [ePat T] ∧ IsPat T n ∧ IsW T n W ∧ d = .none
theorem R_hasch_len : ∀ ds d, R_hasch ds d → ds.length = 1 := fun ds d ⟨_, _, _, h, _⟩ => by rw [h]; rfl
theorem ok_check_choices {f : Addr} {fd : FuncData} (F : Fun K "check_choices" "check_choices" s_check_choices f fd) (C_heaviest_number : Cal P w K mg base 6 "heaviest_number" ["pattern"] (spF R_heavy)) :
    FnOk P w K mg base CX0 7 f fd ["pattern"] (spF R_hasch) := by
  refine F.ok sc_check_choices (fun vs H Q E h => spF_len R_hasch_len h) (fun cdv A outer s H vs Q E hr h => ?_)
  have sc := sc_check_choices
  obtain ⟨p, ds, d, rfl, ok, hv, ⟨T, n, W, rfl, hP, hW, rfl⟩, k⟩ := h
  obtain ⟨v, rfl, h1⟩ := hv.one'
  refine ⟨_, pss_one (ps_if (pt_cmpR op_isN (pe_cal C_heaviest_number (hr.mono (by decide)) (by rfl) (pa_cons (pv 0) pa_nil)) (pe_non) (nomark _)) (pss_never) (pss_nil)), ?_⟩
  exact s_if (b := false) ok (EvB.is (et_D (ev_isN (o := some W) (ev_call (ea_cons (ev_var rfl h1) ea_nil) ⟨T, n, W, rfl, hP, hW, rfl⟩))) rfl) (fun z => nomatch z) fun _ q l => k _ q l .non
abbrev s_heaviest_weight : Stmt := topS 19
abbrev n_heaviest_weight : List Str := ["pattern"]
theorem sc_heaviest_weight : FnScope n_heaviest_weight ["pattern"] (defScope s_heaviest_weight) := ⟨rfl, rfl, rfl, by decide +kernel, rfl, by decide +kernel, by decide +kernel⟩
theorem ok_heaviest_weight {f : Addr} {fd : FuncData} (F : Fun K "heaviest_weight" "heaviest_weight" s_heaviest_weight f fd) (C_check_pattern : Cal P w K mg base 5 "check_pattern" ["value"] (spF (R_pat .none)))
    (C_heaviest_number : Cal P w K mg base 6 "heaviest_number" ["pattern"] (spF R_heavy)) : FnOk P w K mg base CX0 7 f fd ["pattern"] (spF R_heavy) := by
  refine F.ok sc_heaviest_weight (fun vs H Q E h => spF_len R_heavy_len h) (fun cdv A outer s H vs Q E hr h => ?_)
  have sc := sc_heaviest_weight
  obtain ⟨p, ds, d, rfl, ok, hv, ⟨T, n, W, rfl, hP, hW, rfl⟩, k⟩ := h
  obtain ⟨v, rfl, h1⟩ := hv.one'
  refine ⟨_, pss_cons (ps_expr (pe_cal C_check_pattern (hr.mono (by decide)) (by rfl) (pa_cons (pv 0) pa_nil)))
      (pss_one (ps_ret (pe_cal C_heaviest_number (hr.mono (by decide)) (by rfl) (pa_cons (pv 0) pa_nil)))), ?_⟩
  refine q_drop ok (ev_call (ea_cons (ev_var rfl h1) ea_nil) ⟨T, n, rfl, hP, rfl⟩) fun q l => ?_
  exact s_ret l.ok (ev_call (ea_cons (ev_var rfl (h1.up l.d)) ea_nil) ⟨T, n, W, rfl, hP, hW, rfl⟩) fun v' q3 l3 h3 => k v' q3 (l.trans l3) h3
def Q_least : List PyData → (PyData → Prop) → Prop := fun ds Po => ∃ (T : HT.Pat) (n : Nat) (W : Int), ds = [ePat T] ∧ IsPat T n ∧ IsW T n W ∧ Po = fun d => ∃ c e, d = eOff (fL n c) (fL n e) ∧ IsLeast T n W c e
theorem Q_least_len : ∀ ds d, Q_least ds d → ds.length = 1 := fun ds d ⟨_, _, _, h, _⟩ => by rw [h]; rfl
abbrev s_least_pair : Stmt := topS 26
abbrev n_least_pair : List Str := ["pattern", "choice", "grown", "last", "tops", "at", "unknown"]
theorem sc_least_pair : FnScope n_least_pair ["pattern"] (defScope s_least_pair) := ⟨rfl, rfl, rfl, by decide +kernel, rfl, by decide +kernel, by decide +kernel⟩
theorem ok_least_pair {f : Addr} {fd : FuncData} (F : Fun K "least_pair" "least_pair" s_least_pair f fd) (B : Blt mg) (C_some_heaviest : Cal P w K mg base 6 "some_heaviest" ["pattern"] (spQ Q_some)) (C_tops_over : Cal P w K mg base 2 "tops_over" ["pattern", "grown"] (spF R_tops)) :
    FnOk P w K mg base CX0 7 f fd ["pattern"] (spQ Q_least) := by
  refine F.ok sc_least_pair (fun vs H Q E h => spQ_len Q_least_len h) (fun cdv A outer s H vs Q E hr h => ?_)
  have sc := sc_least_pair
  obtain ⟨p, ds, Po, rfl, ok, hv, ⟨T, n, W, rfl, hP, hW, rfl⟩, k⟩ := h
  obtain ⟨v, rfl, h1⟩ := hv.one'
  refine ⟨_, pss_cons (ps_asg (pe_tup (pa_cons (pe_cal C_some_heaviest (hr.mono (by decide)) (by rfl) (pa_cons (pv 0) pa_nil)) (pa_cons (pe_op op_rep (pe_lst (pa_cons (pe_int) pa_nil)) (pe_callB (call_lenK K) (by rfl) B.len_ bo_len (pa_cons (pv 0) pa_nil))) (pa_cons (pe_non) (pa_cons (pe_lst (pa_nil)) pa_nil))))) (pg_tupK K (n := 4) rfl (pgs_cons (pg_name (i := 1) sc.nd rfl (Or.inl rfl)) (pgs_cons (pg_name (i := 2) sc.nd rfl (Or.inl rfl)) (pgs_cons (pg_name (i := 3) sc.nd rfl (Or.inl rfl)) (pgs_cons (pg_name (i := 4) sc.nd rfl (Or.inr rfl)) (pgs_nil)))))))
      (pss_cons (ps_while PassesOwn.never (pt_cmpR (op_neDK K hr.units) (pv 2) (pv 3) (nomark _)) (pss_cons (ps_asg (pe_tup (pa_cons (pv 2) (pa_cons (pe_cal C_tops_over (hr.mono (by decide)) (by rfl) (pa_cons (pv 0) (pa_cons (pv 2) pa_nil))) pa_nil))) (pg_tupK K (n := 2) rfl (pgs_cons (pg_name (i := 3) sc.nd rfl (Or.inl rfl)) (pgs_cons (pg_name (i := 4) sc.nd rfl (Or.inr rfl)) (pgs_nil)))))
      (pss_one (ps_setLc (i := 2) (own := [("at", 5), ("unknown", 6)]) rfl sc.nd rfl rfl (sw_true rfl rfl rfl (by decide +kernel)) (pi_enumTK K (by rfl) B.enumerate_ (pa_cons (pv 1) pa_nil)) (blkOk_by (own := [("at", 5), ("unknown", 6)]) (by show blkC n_least_pair (defScope s_least_pair) _ _ = true; decide +kernel)) (fun _ _ _ _ _ => pg_tupK K (n := 2) rfl (pgs_cons (pg_name (i := 5) sc.nd rfl (Or.inl rfl)) (pgs_cons (pg_name (i := 6) sc.nd rfl (Or.inl rfl)) (pgs_nil)))) (fun _ _ _ _ _ => pts_nil) (fun _ _ _ _ _ => pe_op op_sub (pe_ix (ix_listK K) (pv 4) (pv 6) (fun _ _ => rfl)) (pe_ix (ix_tupK K) (pe_ix (ix_tupK K) (pv 0) (pv 5) (fun _ _ => rfl)) (pv 6) (fun _ _ => rfl)))))))
      (pss_one (ps_ret (pe_tup (pa_cons (pe_callTy (call_tupleK K) (by rfl) B.tuple_ bo_tuple (pa_cons (pv 2) pa_nil)) (pa_cons (pe_callTy (call_tupleK K) (by rfl) B.tuple_ bo_tuple (pa_cons (pv 4) pa_nil)) pa_nil)))))), ?_⟩
  have hn := hP.le
  have hlen : EvD (tCB (rLen K) (tCons (tVar 0) tNil)) (start n_least_pair [v]) p (.int (n : Int)) := (ev_lenT (ev_var (i := 0) rfl h1)).is (by rw [List.length_map, hP.len])
  refine q_asgX ok (x_tup (xa_cons (ex_call (ea_cons (ev_var (i := 0) rfl h1) ea_nil) ⟨T, n, W, rfl, hP, hW, rfl⟩) (xa_cons (EvD.x (EvN.toD (en_rep (n := n) (en_lst (ea_cons ev_int ea_nil)) hlen (by omega) (by simp)))) (xa_cons (EvD.x ev_non) (xa_cons (EvD.x (EvN.toD (en_lst ea_nil))) xa_nil)))) ?_) fun tv q dd l ht hd => ?_
  · rintro ds ⟨_, _, rfl, _, _, _, rfl, _, _, _, rfl, _, _, _, rfl, _, rfl⟩; simp
  obtain ⟨_, rfl, d1, _, rfl, ⟨sc0, g0, t0, rfl, hch, hw, hf, hspan⟩, _, _, rfl, rfl, _, _, rfl, rfl, _, _, rfl, rfl, rfl⟩ := hd
  refine g_tup4 l.ok ht fun cv gv lv tv hcv hgv hlv htv => ?_
  have hC : Cols T n := hch.cols
  obtain ⟨g, hg⟩ : ∃ g : Nat → Nat → Int, g = it T n sc0 (fun _ => 0) := ⟨_, rfl⟩
  have hg0 : ∀ i, g 0 i = 0 := fun i => by rw [hg]; rfl
  have hgs : ∀ t, g (t + 1) = nx T n sc0 (g t) := fun t => by rw [hg]; rfl
  have e0 : (List.replicate n [PyData.int 0]).flatten = (fL n (g 0)).map .int := by
    rw [rep1]
    apply List.ext_getElem
    · rw [List.length_replicate, List.length_map, fL_len]
    · intro i h1 h2
      rw [List.length_replicate] at h1
      have e1 : (fL n (g 0))[i]? = some (g 0 i) := fL_at h1
      obtain ⟨h3, h4⟩ := List.getElem?_eq_some_iff.mp e1
      rw [List.getElem_replicate, List.getElem_map, h4, hg0]
  rw [e0] at hgv
  obtain ⟨cb, db, hb, h0b⟩ := HT.exists_above (pat_nn hP) hch hf hspan (fun _ => 0) (fun _ _ => by decide)
  have hbelow : ∀ (cb' db' : Nat → Int), Best T n W cb' db' → ∀ t, LeN n (g t) cb' := fun cb' db' hb' t => by
    rw [hg]
    exact HT.it_le_of hch (fun i hi => hb'.c0 i hi) (HT.nx_le hb' hch hw (fun i hi => Int.le_refl _)) t
  have hmono : ∀ t, LeN n (g t) (g (t + 1)) := fun t => by rw [hgs]; exact HT.nx_infl _ hch
  let Wv : Nat → L2.St → Two → Prop := fun m σ' q => Le p q ∧ ∃ (t : Nat) (gv lv tv : V), σ' = [some v, some cv, some gv, some lv, some tv, none, none] ∧ Da q.1 cv (.tuple (sc0.map fun e : Nat => .int (e : Int))) ∧ Da q.1 gv (.list ((fL n (g t)).map .int)) ∧
    ((t = 0 ∧ Da q.1 lv .none ∧ m = (sm n cb - sm n (g 0)).toNat + 1) ∨ (∃ t', t = t' + 1 ∧ Da q.1 lv (.list ((fL n (g t')).map .int)) ∧ Da q.1 tv (.list ((fL n (top T n (g t'))).map .int)) ∧ m = (sm n cb - sm n (g t')).toNat))
  refine s_while Wv _ ⟨l, 0, gv, lv, tv, rfl, hcv, hgv, .inl ⟨rfl, hlv, rfl⟩⟩ ?_
  rintro m σ' q1 ⟨lq, t, gv, lv, tv, rfl, hc, hgt, hcase⟩
  refine ⟨lq.ok, ?_⟩
  have key : ∃ b, EvB (tTest (tOp (rNeD K) (tVar 2) (tVar 3))) [some v, some cv, some gv, some lv, some tv, none, none] q1 b ∧ (b = true → (sm n cb - sm n (g t)).toNat < m) ∧ (b = false → ∃ t', t = t' + 1 ∧ Da q1.1 tv (.list ((fL n (top T n (g t'))).map .int)) ∧ ∀ i, i < n → g (t' + 1) i = g t' i) := by
    rcases hcase with ⟨rfl, hl, rfl⟩ | ⟨t', rfl, hl, ht', rfl⟩
    · refine ⟨true, EvB.is (et_D (ev_neD (ev_var (i := 2) rfl hgt) (ev_var (i := 3) rfl hl) (sh_ints _).shaped sh_non.shaped)) ?_, fun _ => by omega, fun z => nomatch z⟩
      rw [eqv_ln]; rfl
    · refine ⟨!decide (fL n (g (t' + 1)) = fL n (g t')), EvB.is (et_D (ev_neD (ev_var (i := 2) rfl hgt) (ev_var (i := 3) rfl hl) (sh_ints _).shaped (sh_ints _).shaped)) ?_, fun h => ?_, fun h => ?_⟩
      · rw [eqv_ints]
      · have hne : ¬ fL n (g (t' + 1)) = fL n (g t') := by simpa using h
        have hlt : sm n (g t') < sm n (g (t' + 1)) := by
          refine Classical.byContradiction fun hn => hne ?_
          exact fL_congr fun i hi => ((HT.sm_eq_of_le (hmono t') (by omega)) i hi).symm
        have hle : sm n (g (t' + 1)) ≤ sm n cb := HT.sm_le (hbelow cb db hb (t' + 1))
        omega
      · have he : fL n (g (t' + 1)) = fL n (g t') := by simpa using h
        exact ⟨t', rfl, ht', fL_inj he⟩
  obtain ⟨b, hb1, hb2, hb3⟩ := key
  refine ⟨b, hb1, fun hbt q2 l2 => ⟨fun σ2 H2 => ∃ z : Two, z.2 = H2 ∧ Wv ((sm n cb - sm n (g t)).toNat) σ2 z, fun σ2 H2 ⟨z, e, hz⟩ => ⟨_, z, e, hb2 hbt, hz⟩, ?_⟩, fun hbf q2 l2 => ?_⟩
  · have lpq := lq.trans l2
    refine q_asgT l2.ok (ev_tup (ea_cons (ev_var (i := 2) rfl (hgt.up l2.d)) (ea_cons (ev_call (ea_cons (ev_var (i := 0) rfl (h1.up lpq.d)) (ea_cons (ev_var (i := 2) rfl (hgt.up l2.d)) ea_nil)) ⟨T, n, fL n (g t), rfl, hP, fL_len n _, hC, rfl⟩) ea_nil))) fun v1 v2 q3 l3 d1 d2 => ?_
    rw [topL_fL hC] at d2
    have lp3 := lpq.trans l3
    refine s_asg (d := .list ((fL n (g (t + 1))).map .int)) l3.ok (EvN.toD (EvN.is (en_lc (List.range n) (fun i : Nat => .tuple [.int (i : Int), .int ((sel sc0 i : Nat) : Int)]) (fun _ => true) (fun i : Nat => .int (g (t + 1) i)) (EvI.is (ei_enumT (ev_var (i := 1) rfl (hc.up (l2.trans l3).d))) (enum_sel hch.perm.len)) (fun i hi x q4 l4 hx Q2 k2 => ?_) (by rw [List.length_range]; omega)) ?_)) fun v' q5 l5 h5 => ?_
    · have hin := List.mem_range.mp hi
      obtain ⟨r, hr1, hr2, hr3⟩ := ent_at hP hin (hch.perm.sel_lt hin)
      rw [HT.od_of hch hin] at hr3
      refine g_tup2 l4.ok hx fun w1 w2 e1 e2 => k2 _ (by rfl) et_yes fun _ => ?_
      rw [hgs]
      exact ev_sub (ev_ixL (n := sel sc0 i) (ev_var (i := 4) rfl (d2.up l4.d)) (ev_var (i := 6) rfl e2) (eI_at (fL_at (hch.perm.sel_lt hin)))) (ev_ixT (n := sel sc0 i) (ev_ixT (n := i) (ev_var (i := 0) rfl (h1.up (lp3.trans l4).d)) (ev_var (i := 5) rfl e1) (ePat_at hr1)) (ev_var (i := 6) rfl e2) (eRow_at hr3))
    · rw [filter_all]; unfold fL; rw [List.map_map]; rfl
    · exact ⟨q5, rfl, lp3.trans l5, t + 1, v', v1, v2, rfl, hc.up ((l2.trans l3).trans l5).d, h5, .inr ⟨t, rfl, d1.up l5.d, d2.up l5.d, rfl⟩⟩
  · obtain ⟨t', rfl, hd2, hfix⟩ := hb3 hbf
    have hB : Best T n W (g (t' + 1)) (top T n (g t')) := by
      have hB0 := HT.fix_best hW (pat_nn hP) hch hw (c := g t') (fun i hi => by
        have h0 : ∀ t, 0 ≤ g t i := by
          intro t
          induction t with
          | zero => rw [hg0]; exact Int.le_refl _
          | succ t ih => have := hmono t i hi; omega
        exact h0 t') (fun i hi => by rw [← hgs]; exact hfix i hi)
      exact ⟨fun i hi => by rw [hfix i hi]; exact hB0.c0 i hi, hB0.d0, fun i j a hi hj ha => by rw [hfix i hi]; exact hB0.feas i j a hi hj ha, by rw [HT.sm_congr hfix]; exact hB0.span⟩
    refine s_ret (d := eOff (fL n (g (t' + 1))) (fL n (top T n (g t')))) l2.ok (ev_tup (ea_cons (ev_tupL (ev_var (i := 2) rfl (hgt.up l2.d))) (ea_cons (ev_tupL (ev_var (i := 4) rfl (hd2.up l2.d))) ea_nil))) fun v' q3 l3 h3 => k v' q3 _ ((lq.trans l2).trans l3) h3 ⟨_, _, rfl, hB, fun c' d' hB' => ⟨hbelow c' d' hB' (t' + 1), HT.top_le hB' hch (hbelow c' d' hB' t')⟩⟩
abbrev s_least_offsets : Stmt := topS 32
abbrev n_least_offsets : List Str := ["pattern"]
theorem sc_least_offsets : FnScope n_least_offsets ["pattern"] (defScope s_least_offsets) := ⟨rfl, rfl, rfl, by decide +kernel, rfl, by decide +kernel, by decide +kernel⟩
theorem ok_least_offsets {f : Addr} {fd : FuncData} (F : Fun K "least_offsets" "least_offsets" s_least_offsets f fd) (C_check_pattern : Cal P w K mg base 5 "check_pattern" ["value"] (spF (R_pat .none)))
    (C_check_choices : Cal P w K mg base 7 "check_choices" ["pattern"] (spF R_hasch)) (C_least_pair : Cal P w K mg base 7 "least_pair" ["pattern"] (spQ Q_least)) : FnOk P w K mg base CX0 8 f fd ["pattern"] (spQ Q_least) := by
  refine F.ok sc_least_offsets (fun vs H Q E h => spQ_len Q_least_len h) (fun cdv A outer s H vs Q E hr h => ?_)
  have sc := sc_least_offsets
  obtain ⟨p, ds, Po, rfl, ok, hv, ⟨T, n, W, rfl, hP, hW, rfl⟩, k⟩ := h
  obtain ⟨v, rfl, h1⟩ := hv.one'
  refine ⟨_, pss_cons (ps_expr (pe_cal C_check_pattern (hr.mono (by decide)) (by rfl) (pa_cons (pv 0) pa_nil)))
      (pss_cons (ps_expr (pe_cal C_check_choices (hr.mono (by decide)) (by rfl) (pa_cons (pv 0) pa_nil)))
      (pss_one (ps_ret (pe_cal C_least_pair (hr.mono (by decide)) (by rfl) (pa_cons (pv 0) pa_nil))))), ?_⟩
  refine q_drop ok (ev_call (ea_cons (ev_var rfl h1) ea_nil) ⟨T, n, rfl, hP, rfl⟩) fun q l => ?_
  refine q_drop l.ok (ev_call (ea_cons (ev_var rfl (h1.up l.d)) ea_nil) ⟨T, n, W, rfl, hP, hW, rfl⟩) fun q2 l2 => ?_
  exact x_ret l2.ok (ex_call (ea_cons (ev_var rfl (h1.up (l.trans l2).d)) ea_nil) ⟨T, n, W, rfl, hP, hW, rfl⟩) fun v' q3 d l3 h3 hd => k v' q3 d ((l.trans l2).trans l3) h3 hd
abbrev s_are_best : Stmt := topS 31
abbrev n_are_best : List Str := ["pattern", "offsets"]
theorem sc_are_best : FnScope n_are_best ["pattern", "offsets"] (defScope s_are_best) := ⟨rfl, rfl, rfl, by decide +kernel, rfl, by decide +kernel, by decide +kernel⟩
def R_arebest : Rel := fun ds d => ∃ (T : HT.Pat) (n : Nat) (W : Int) (c e : List Int), ds = [ePat T, eOff c e] ∧ IsOff T n c e ∧ IsW T n W ∧ d = .bool (decide (e.sum - c.sum = W))
theorem R_arebest_len : ∀ ds d, R_arebest ds d → ds.length = 2 := fun ds d ⟨_, _, _, _, _, h, _⟩ => by rw [h]; rfl
theorem ok_are_best {f : Addr} {fd : FuncData} (F : Fun K "are_best" "are_best" s_are_best f fd) (C_check_pattern : Cal P w K mg base 5 "check_pattern" ["value"] (spF (R_pat .none)))
    (C_check_offsets : Cal P w K mg base 5 "check_offsets" ["pattern", "value"] (spF (R_off .none))) (C_check_choices : Cal P w K mg base 7 "check_choices" ["pattern"] (spF R_hasch)) (C_span_by : Cal P w K mg base 1 "span_by" ["offsets"] (spF R_span))
    (C_heaviest_number : Cal P w K mg base 6 "heaviest_number" ["pattern"] (spF R_heavy)) : FnOk P w K mg base CX0 8 f fd ["pattern", "offsets"] (spF R_arebest) := by
  refine F.ok sc_are_best (fun vs H Q E h => spF_len R_arebest_len h) (fun cdv A outer s H vs Q E hr h => ?_)
  have sc := sc_are_best
  obtain ⟨p, ds, d, rfl, ok, hv, ⟨T, n, W, c, e, rfl, hO, hW, rfl⟩, k⟩ := h
  obtain ⟨v, u, rfl, h1, h2⟩ := hv.two'
  refine ⟨_, pss_cons (ps_expr (pe_cal C_check_pattern (hr.mono (by decide)) (by rfl) (pa_cons (pv 0) pa_nil)))
      (pss_cons (ps_expr (pe_cal C_check_offsets (hr.mono (by decide)) (by rfl) (pa_cons (pv 0) (pa_cons (pv 1) pa_nil))))
      (pss_cons (ps_expr (pe_cal C_check_choices (hr.mono (by decide)) (by rfl) (pa_cons (pv 0) pa_nil)))
      (pss_one (ps_ret (pe_cmpR op_eq (pe_cal C_span_by (hr.mono (by decide)) (by rfl) (pa_cons (pv 1) pa_nil)) (pe_cal C_heaviest_number (hr.mono (by decide)) (by rfl) (pa_cons (pv 0) pa_nil)) (nomark _)))))), ?_⟩
  refine q_drop ok (ev_call (ea_cons (ev_var rfl h1) ea_nil) ⟨T, n, rfl, hO.pat, rfl⟩) fun q l => ?_
  refine q_drop l.ok (ev_call (ea_cons (ev_var rfl (h1.up l.d)) (ea_cons (ev_var rfl (h2.up l.d)) ea_nil)) ⟨T, n, c, e, rfl, hO, rfl⟩) fun q2 l2 => ?_
  refine q_drop l2.ok (ev_call (ea_cons (ev_var rfl (h1.up (l.trans l2).d)) ea_nil) ⟨T, n, W, rfl, hO.pat, hW, rfl⟩) fun q3 l3 => ?_
  have l13 := (l.trans l2).trans l3
  exact s_ret l3.ok (ev_eqI (ev_call (ea_cons (ev_var rfl (h2.up l13.d)) ea_nil) ⟨c, e, rfl, rfl⟩) (ev_call (ea_cons (ev_var rfl (h1.up l13.d)) ea_nil) ⟨T, n, W, rfl, hO.pat, hW, rfl⟩)) fun v' q4 l4 h4 => k v' q4 (l13.trans l4) h4
end
end HR

namespace HR
open PySem PySem.Spec PyProof.Rows L2
open Evl (Ex)
open HT (ent IsPat IsCh sel sm wt IsW Feas Best Offs it nx top od LeN Cols IsPerm)
/-! ### the well: a list of three numbers that may change -/
structure Wl (a : Addr) (z : Two) : Prop where
  d : z.1 a = none
  x : ∃ g x s : Int, z.2 a = some (.lst ([g, x, s].map V.int)) ∧ 0 ≤ g
structure Mw (a : Addr) (p q : Two) : Prop where
  m : Mv (· = a) p q
  w : Wl a q
section
variable {a L : Addr} {p q r z : Two} {o : HO} {M : Addr → Prop}
theorem Wl.ne (h : Wl a p) : p.2 a ≠ none := by
  obtain ⟨g, x, s, e, _⟩ := h.x
  rw [e]; exact fun z => nomatch z
theorem Wl.le (h : Wl a p) (l : Le p q) : Wl a q := by
  obtain ⟨g, x, s, e, h0⟩ := h.x
  obtain ⟨k1, k2⟩ := l.keep h.d e
  exact ⟨k1, g, x, s, k2, h0⟩
theorem Wl.mv (h : Wl a p) (m : Mv M p q) (hM : ¬ M a) : Wl a q := by
  obtain ⟨g, x, s, e, h0⟩ := h.x
  obtain ⟨k1, k2⟩ := m.keep hM h.d e
  exact ⟨k1, g, x, s, k2, h0⟩
theorem Wl.ne' (h : Wl a p) (hL : p.2 L = none) : L ≠ a := fun e => h.ne (e ▸ hL)
theorem Mw.of (w : Wl a p) (l : Le p q) : Mw a p q := ⟨.of l, w.le l⟩
theorem Mw.refl (ok : Ok p) (w : Wl a p) : Mw a p p := .of w (.refl ok)
theorem Mw.ok (m : Mw a p q) : Ok q := m.m.ok
theorem Mw.d (m : Mw a p q) : Ex p.1 q.1 := m.m.d
theorem Mw.trans (m : Mw a p q) (n : Mw a q r) : Mw a p r := ⟨m.m.trans n.m fun b hb _ => by rw [hb]; exact m.w.ne, n.w⟩
theorem Mw.le (m : Mw a p q) (l : Le q r) : Mw a p r := m.trans (.of m.w l)
theorem Mw.pre (l : Le p q) (m : Mw a q r) : Mw a p r := ⟨.pre l m.m, m.w⟩
theorem Mw.kp (m : Mw a p q) {r : Two} (k : Kp r p) : Kp r q := m.m.kp k
theorem Mw.keep (m : Mw a p q) (h : L ≠ a) (h1 : p.1 L = none) (h2 : p.2 L = some o) : q.1 L = none ∧ q.2 L = some o := m.m.keep h h1 h2
/-- the well, and a list that the entry did not know -/
theorem Mw.app (m : Mw a p q) (n : Mv (fun b => b = a ∨ b = L) q z) (w : Wl a z) (hL : p.2 L = none) : Mw a p z := ⟨⟨m.d.trans n.d, n.s, fun b u hb e => n.h b u (fun y => y.elim hb fun e2 => by rw [e2, hL] at e; cases e) (m.m.h b u hb e), fun b h1 h2 => n.f b (m.m.f b h1 h2) (by
  by_cases hm : b = a
  · rw [hm]; exact m.w.ne
  · cases e : p.2 b with
    | none => exact absurd e h2
    | some o => rw [m.m.h b o hm e]; exact fun x => nomatch x)⟩, w⟩
theorem Mw.frz (m : Mw a p q) (h : p.2 L = none) (hne : L ≠ a) (h1 : q.1 L = none) (h2 : q.2 L = some o) : Mw a p (upd q.1 L o, q.2) := by
  refine ⟨m.m.frz h h1 h2, ?_, m.w.x⟩
  show upd q.1 L o a = none
  rw [upd_ne fun e => hne e.symm]
  exact m.w.d
theorem Mw.back (m : Mw a p q) (hne : L ≠ a) (h : q.2 L = none) : p.2 L = none := m.m.back (M := (· = a)) hne h
end
/-- defs that draw -/
def spW (R : List PyData → (PyData → Prop) → Prop) : Sp := fun vs H Q _ => ∃ (p : Two) (a : Addr) (us : List V) (ds : List PyData) (Po : PyData → Prop), p.2 = H ∧ Ok p ∧ vs = .ref a :: us ∧ DaAll p.1 us ds ∧ R ds Po ∧ Wl a p ∧ ∀ v q d, Mw a p q → Da q.1 v d → Po d → Q v q.2
theorem spW_len {R : List PyData → (PyData → Prop) → Prop} {n : Nat} (hR : ∀ ds Po, R ds Po → ds.length = n) {vs : List V} {H : Hp} {Q : VK} {E : XK} (h : spW R vs H Q E) : vs.length = n + 1 := by
  obtain ⟨p, a, us, ds, Po, _, _, rfl, h1, h2, _⟩ := h
  rw [List.length_cons, h1.length, hR ds Po h2]
def EvM (a : Addr) (te : TE) (σ : L2.St) (p : Two) (Po : PyData → Prop) : Prop := ∀ q, Mw a p q → ∀ Q : VK, (∀ v r d, Mw a q r → Da r.1 v d → Po d → Q v r.2) → te σ q.2 Q
def EvMA (a : Addr) (ta : TA) (σ : L2.St) (p : Two) (Po : List PyData → Prop) : Prop := ∀ q, Mw a p q → ∀ Q : List V → Hp → Prop, (∀ vs r ds, Mw a q r → DaAll r.1 vs ds → Po ds → Q vs r.2) → ta σ q.2 Q
section
variable {K : PySem.W.Frag} {a L : Addr} {p q r : Two} {σ : L2.St} {te tb tm : TE} {ta tr : TA} {Po P1 : PyData → Prop} {P2 : List PyData → Prop} {d : PyData} {ds : List PyData} {i : Nat} {v : V} {D : Ends} {tz : TS} {R : List PyData → (PyData → Prop) → Prop}
theorem EvM.up (h : EvM a te σ p Po) (m : Mw a p q) : EvM a te σ q Po := fun r l => h r (m.trans l)
theorem EvM.imp (h : EvM a te σ p Po) (k : ∀ d, Po d → P1 d) : EvM a te σ p P1 := fun r l Q kk => h r l Q fun v r d m hv hd => kk v r d m hv (k d hd)
theorem em_D (h : ∀ q, Mw a p q → EvD te σ q d) : EvM a te σ p (fun e => e = d) := fun q m Q k => h q m q (.refl m.ok) Q fun v r l hv => k v r d (.of m.w l) hv rfl
theorem em_X (h : ∀ q, Mw a p q → EvX te σ q Po) : EvM a te σ p Po := fun q m Q k => h q m q (.refl m.ok) Q fun v r d l hv hd => k v r d (.of m.w l) hv hd
theorem em_var (hs : σ[i]? = some (some v)) (hd : Da p.1 v d) : EvM a (tVar i) σ p (fun e => e = d) := em_D fun q m => ev_var hs (hd.up m.d)
theorem ema_nil : EvMA a tNil σ p (fun ds => ds = []) := fun q m Q k => k _ q _ (.refl m.ok m.w) .nil rfl
theorem ema_cons (h : EvM a te σ p P1) (hr : EvMA a tr σ p P2) : EvMA a (tCons te tr) σ p (fun ds => ∃ d es, ds = d :: es ∧ P1 d ∧ P2 es) := fun q m Q k =>
  h q m _ fun v r1 d l1 hv hd => hr r1 (m.trans l1) _ fun vs r2 ds l2 hvs hds => k _ r2 (d :: ds) (l1.trans l2) (.cons (hv.up l2.d) hvs) ⟨d, ds, rfl, hd, hds⟩
theorem em_call (hs : σ[i]? = some (some (.ref a))) (h : ∀ q, Mw a p q → EvA ta σ q ds) (hR : R ds Po) : EvM a (tCall (spW R) [] E0 (tCons (tVar i) ta)) σ p Po := fun q m Q k => ⟨.ref a, hs, h q m q (.refl m.ok) _ fun vs r l hv => by
  show spW R ((V.ref a :: vs) ++ []) r.2 Q E0
  rw [List.append_nil]
  exact ⟨r, a, vs, ds, Po, rfl, l.ok, rfl, hv, hR, m.w.le l, fun v q2 d l2 hv2 hd => k v q2 d (.pre l l2) hv2 hd⟩⟩
theorem em_callQ (h : EvMA a ta σ p P2) (hR : ∀ ds, P2 ds → ∃ P', R ds P' ∧ ∀ d, P' d → Po d) : EvM a (tCall (spQ R) [] E0 ta) σ p Po := fun q m Q k => h q m _ fun vs r ds l hv hd => by
  obtain ⟨P', h1, h2⟩ := hR ds hd
  show spQ R (vs ++ []) r.2 Q E0
  rw [List.append_nil]
  exact ⟨r, ds, P', rfl, l.ok, hv, h1, fun v q2 d l2 hv2 hd => k v q2 d (l.le l2) hv2 (h2 d hd)⟩
theorem m_ret (ok : Ok p) (w : Wl a p) (h : EvM a te σ p Po) (k : ∀ v q d, Mw a p q → Da q.1 v d → Po d → D.rt v q.2) : tRet te D σ p.2 := h p (.refl ok w) _ k
theorem q_asgM {g : TG} (ok : Ok p) (w : Wl a p) (h : EvM a te σ p Po) (k : ∀ v q d, Mw a p q → Da q.1 v d → Po d → g v σ q.2 (tz D)) : tSeq (tAsg te g) tz D σ p.2 := h p (.refl ok w) _ k
/-- x, y = one, two -/
theorem q_parM {n m : Nat} (ok : Ok p) (w : Wl a p) (h : EvM a te σ p Po) (h2 : EvM a tb σ p P1) (k : ∀ v u q d e, Mw a p q → Da q.1 v d → Po d → Da q.1 u e → P1 e → tz D ((σ.set n (some v)).set m (some u)) q.2) : tSeq (tPar n m (tCons te (tCons tb tNil))) tz D σ p.2 :=
  h p (.refl ok w) _ fun v r1 d l1 hv hd => h2 r1 l1 _ fun u r2 e l2 hu he => ⟨_, _, rfl, k v u r2 d e (l1.trans l2) (hv.up l2.d) hd hu he⟩
/-- x, y = one, a new list -/
theorem q_parN {n m : Nat} (ok : Ok p) (w : Wl a p) (h : EvM a te σ p Po) (h2 : ∀ q, Mw a p q → EvN tb σ q ds) (k : ∀ v L vs q d, Mw a p q → Da q.1 v d → Po d → p.2 L = none → L ≠ a → q.1 L = none → q.2 L = some (.lst vs) → DaAll q.1 vs ds → tz D ((σ.set n (some v)).set m (some (.ref L))) q.2) : tSeq (tPar n m (tCons te (tCons tb tNil))) tz D σ p.2 :=
  h p (.refl ok w) _ fun v r1 d l1 hv hd => h2 r1 l1 r1 (.refl l1.ok) _ fun L vs r2 l2 f0 f1 f2 f3 =>
    have hne : L ≠ a := l1.w.ne' f0
    ⟨_, _, rfl, k v L vs r2 d (l1.le l2) (hv.up l2.d) hd (l1.back hne f0) hne f1 f2 f3⟩
theorem q_asgNM {n : Nat} (ok : Ok p) (w : Wl a p) (h : EvN te σ p ds) (k : ∀ L vs q, Le p q → p.2 L = none → L ≠ a → q.1 L = none → q.2 L = some (.lst vs) → DaAll q.1 vs ds → tz D (σ.set n (some (.ref L))) q.2) : tSeq (tAsg te (gName n)) tz D σ p.2 :=
  q_asgN ok h fun L vs q l f0 f1 f2 f3 => k L vs q l f0 (w.ne' f0) f1 f2 f3
/-- L.append(what is drawn) -/
theorem s_appM {n : Nat} {vs : List V} (ok : Ok p) (w : Wl a p) (hs : σ[n]? = some (some (.ref L))) (hne : L ≠ a) (h1 : p.1 L = none) (h2 : p.2 L = some (.lst vs)) (h : EvM a te σ p Po) (hz : vs.length < 100000)
    (k : ∀ v z d, Mv (fun b => b = a ∨ b = L) p z → Wl a z → Da z.1 v d → Po d → z.1 L = none → z.2 L = some (.lst (vs ++ [v])) → D.nx σ z.2) : tDrop (tBM K "list" rAppend (tVar n) (tCons te tNil)) D σ p.2 := by
  refine ⟨_, hs, ty_lstM h2, ?_⟩
  refine h p (.refl ok w) _ fun v q d l hv hd => ?_
  obtain ⟨k1, k2⟩ := l.keep hne h1 h2
  refine ⟨L, vs, v, rfl, rfl, k2, Evl.sz_lt hz, ?_⟩
  have mp : Mv (· = L) q (q.1, upd q.2 L (.lst (vs ++ [v]))) := .put l.ok k1 _
  refine k v (q.1, upd q.2 L (.lst (vs ++ [v]))) d ((l.m.mono fun b e => Or.inl e).trans (mp.mono fun b e => Or.inr e) fun b hb _ => ?_) (l.w.mv mp fun e => hne e.symm) hv hd k1 upd_same
  rcases hb with e | e
  · rw [e]; exact l.w.ne
  · rw [e, k2]; exact fun z => nomatch z
/-! numbers -/
abbrev rInt1 : List V → Hp → VK → Prop := fun xs H Q => (∃ i, xs = [.int i] ∧ Q (.int i) H) ∨ ∃ k, xs = [.bl k] ∧ Q (.int (if k then 1 else 0)) H
theorem ev_int1 {i : Int} (h : EvD te σ p (.int i)) : EvD (tCB rInt1 (tCons te tNil)) σ p (.int i) := ev_cb (ea_cons h ea_nil) fun vs q l hv => by
  obtain ⟨v, rfl, h1⟩ := hv.one'
  cases h1
  exact RCD.mk l.ok (.int _) fun Q k => .inl ⟨_, rfl, k⟩
abbrev rAbs : List V → Hp → VK → Prop := fun xs H Q => ∃ i, xs = [.int i] ∧ Q (.int (if i < 0 then -i else i)) H
theorem ev_abs {i : Int} (h : EvD te σ p (.int i)) : EvD (tCB rAbs (tCons te tNil)) σ p (.int (if i < 0 then -i else i)) := ev_cb (ea_cons h ea_nil) fun vs q l hv => by
  obtain ⟨v, rfl, h1⟩ := hv.one'
  cases h1
  exact RCD.mk l.ok (.int _) fun Q k => ⟨_, rfl, k⟩
theorem ev_pow {i j : Int} (ha : EvD te σ p (.int i)) (hb : EvD tb σ p (.int j)) (h : CPow i j) : EvD (tOp (rI CPow fun i j => .int (i ^ j.toNat)) te tb) σ p (.int (i ^ j.toNat)) := ev_I ha hb h fun _ => .int _
theorem ev_fdiv {i j : Int} (ha : EvD te σ p (.int i)) (hb : EvD tb σ p (.int j)) (h : CDiv i j) : EvD (tOp (rI CDiv fun i j => .int (i / j)) te tb) σ p (.int (i / j)) := ev_I ha hb h fun _ => .int _
theorem EvD.to (h : EvD te σ p d) (hd : Po d) : EvX te σ p Po := fun q l Q k => h q l Q fun v r l1 h1 => k v r d l1 h1 hd
theorem x_if {t : TT} {b : Bool} (h : EvB t σ p b) (h1 : b = true → EvX te σ p Po) (h2 : b = false → EvX tb σ p Po) : EvX (tIf t te tb) σ p Po := fun q l Q k => h q l _ fun r l1 => by
  cases b with
  | true => exact h1 rfl r (l.trans l1) Q fun v r2 d l2 => k v r2 d (l1.trans l2)
  | false => exact h2 rfl r (l.trans l1) Q fun v r2 d l2 => k v r2 d (l1.trans l2)
theorem em_if {t : TT} {b : Bool} (h : EvB t σ p b) (h1 : b = true → EvM a te σ p Po) (h2 : b = false → EvM a tb σ p Po) (ok : Ok p) (hq : ∀ q, Mw a p q → EvB t σ q b) : EvM a (tIf t te tb) σ p Po := fun q m Q k => hq q m q (.refl m.ok) _ fun r l1 => by
  cases b with
  | true => exact h1 rfl r (m.le l1) Q fun v r2 d l2 => k v r2 d (.pre l1 l2)
  | false => exact h2 rfl r (m.le l1) Q fun v r2 d l2 => k v r2 d (.pre l1 l2)
/-! the well's numbers -/
theorem ev_well {g x s y : Int} (hs : σ[i]? = some (some (.ref a))) (h2 : p.2 a = some (.lst ([g, x, s].map V.int))) (j : Nat) (hj : [g, x, s][j]? = some y) (hc : EvD tb σ p (.int (j : Int))) : EvD (tOp (rIxL K) (tVar i) tb) σ p (.int y) :=
  ev_ixM (er_var hs) h2 hc (vI_at hj) fun _ => .int _
abbrev rDivmod : List V → Hp → VK → Prop := fun xs H Q => ∃ i j, xs = [.int i, .int j] ∧ CDiv i j ∧ ∀ p, H p = none → Q (.ref p) (upd H p (.tup [.int (i / j), .int (i % j)]))
/-- well[0], digit = divmod(g, m) -/
theorem q_divW {g x s m : Int} {n : Nat} (ok : Ok p) (h1 : p.1 a = none) (h2 : p.2 a = some (.lst ([g, x, s].map V.int))) (hs : σ[i]? = some (some (.ref a))) (hg : EvD te σ p (.int g)) (hm : EvD tm σ p (.int m)) (hc : CDiv g m)
    (k : ∀ z, Mv (· = a) p z → z.1 a = none → z.2 a = some (.lst ([g / m, x, s].map V.int)) → tz D (σ.set n (some (.int (g % m)))) z.2) :
    tSeq (tAsg (tCB rDivmod (tCons te (tCons tm tNil))) (gTup K 2 (gCons (gSub (tVar i) (tC (.int 0)) rSetL) (gCons (gName n) gNil)))) tz D σ p.2 :=
  hg p (.refl ok) _ fun v q l hv => hm q l _ fun u r l2 hu => by
    cases hv; cases hu
    refine ⟨g, m, rfl, hc, fun t ht => ?_⟩
    have l3 := l.trans l2
    obtain ⟨k1, k2⟩ := l3.keep h1 h2
    have hne : t ≠ a := fun e => by rw [← e, ht] at k2; cases k2
    have l4 : Le r (r.1, upd r.2 t (.tup [.int (g / m), .int (g % m)])) := .newM l3.ok ht
    have k3 := l4.keep k1 k2
    refine ⟨t, _, rfl, .of upd_same, rfl, _, _, rfl, .ref a, hs, a, [g, x, s].map V.int, 0, 0, rfl, rfl, k3.2, rfl, _, _, rfl, rfl, ?_⟩
    exact k (r.1, upd (upd r.2 t (.tup [.int (g / m), .int (g % m)])) a (.lst ([g / m, x, s].map V.int))) (.pre (l3.trans l4) (.put l4.ok k3.1 _)) k1 upd_same
end
section
variable {P : Program} {w : World} {K : PySem.W.Frag} {mg : Str → Option Value} {base : Heap}
theorem draw_nat {z m : Int} (h : 0 < m) : ∃ k : Nat, PyData.int (z % m) = .int (k : Int) ∧ (k : Int) < m := by
  have h1 := Int.emod_nonneg z (by omega : m ≠ 0)
  have h2 := Int.emod_lt_of_pos z h
  refine ⟨(z % m).toNat, ?_, ?_⟩
  · rw [Int.toNat_of_nonneg h1]
  · rw [Int.toNat_of_nonneg h1]; exact h2
abbrev s_l_draw : Stmt := topS 35
abbrev n_l_draw : List Str := ["_law_well_here", "_law_many", "_law_digit", "_law_seed"]
theorem sc_l_draw : FnScope n_l_draw ["_law_well_here", "_law_many"] (defScope s_l_draw) := ⟨rfl, rfl, rfl, by decide +kernel, rfl, by decide +kernel, by decide +kernel⟩
def R_draw : List PyData → (PyData → Prop) → Prop := fun ds Po => ∃ m : Int, ds = [.int m] ∧ 0 < m ∧ m < 1073741824 ∧ Po = fun d => ∃ k : Nat, d = .int (k : Int) ∧ (k : Int) < m
theorem R_draw_len : ∀ ds d, R_draw ds d → ds.length = 1 := fun ds d ⟨_, h, _⟩ => by rw [h]; rfl
theorem ok_draw {f : Addr} {fd : FuncData} (F : Fun K "_law_draw" "_law_draw" s_l_draw f fd) (B : Blt mg) : FnOk P w K mg base CX0 1 f fd ["_law_well_here", "_law_many"] (spW R_draw) := by
  refine F.ok sc_l_draw (fun vs H Q E h => spW_len R_draw_len h) (fun cdv A outer s H vs Q E hr h => ?_)
  have sc := sc_l_draw
  obtain ⟨p, a, us, ds, Po, rfl, ok, rfl, hv, ⟨m, rfl, hm0, hm1, rfl⟩, hw, k⟩ := h
  obtain ⟨v, rfl, h1⟩ := hv.one'
  cases h1
  refine ⟨_, pss_cons (ps_if (pt_cmpR op_gt (pe_ix (ix_listK K) (pv 0) (pe_int) (fun _ _ => rfl)) (pe_int) (nomark _)) (pss_cons (ps_asg (pe_callB (call_divmod) (by rfl) B.divmod_ bo_divmod (pa_cons (pe_ix (ix_listK K) (pv 0) (pe_int) (fun _ _ => rfl)) (pa_cons (pv 1) pa_nil))) (pg_tupK K (n := 2) rfl (pgs_cons (pg_sub (pv 0) (pe_int) set_list) (pgs_cons (pg_name (i := 2) sc.nd rfl (Or.inl rfl)) (pgs_nil)))))
      (pss_one (ps_ret (pv 2)))) (pss_nil))
      (pss_cons (ps_asg (pe_op op_add (pe_ix (ix_listK K) (pv 0) (pe_int) (fun _ _ => rfl)) (pe_int)) (pg_sub (pv 0) (pe_int) set_list))
      (pss_cons (ps_set (i := 3) sc.nd rfl (Or.inl rfl) (pe_op op_mod (pe_callTy (call_int1) (by rfl) B.int_ bo_int (pa_cons (pe_op op_add (pe_ix (ix_listK K) (pv 0) (pe_int) (fun _ _ => rfl)) (pe_op op_mul (pe_int) (pe_ix (ix_listK K) (pv 0) (pe_int) (fun _ _ => rfl)))) pa_nil)) (pe_int)))
      (pss_cons (ps_asg (pe_op op_mod (pe_callTy (call_int1) (by rfl) B.int_ bo_int (pa_cons (pe_op op_add (pe_op op_mul (pv 3) (pe_op op_add (pe_op op_mod (pe_callTy (call_int1) (by rfl) B.int_ bo_int (pa_cons (pv 3) pa_nil)) (pe_int)) (pe_int))) (pe_op op_mul (pe_int) (pe_ix (ix_listK K) (pv 0) (pe_int) (fun _ _ => rfl)))) pa_nil)) (pe_int)) (pg_sub (pv 0) (pe_int) set_list))
      (pss_one (ps_ret (pe_op op_mod (pe_callTy (call_int1) (by rfl) B.int_ bo_int (pa_cons (pe_op op_fdiv (pe_ix (ix_listK K) (pv 0) (pe_int) (fun _ _ => rfl)) (pe_int)) pa_nil)) (pv 1))))))), ?_⟩
  obtain ⟨g, x, s0, e, h0⟩ := hw.x
  have hd := hw.d
  refine q_when (b := decide (0 < g)) ok (et_D (ev_gt (ev_well (i := 0) rfl e 0 rfl ev_int) ev_int)) (fun hb q l => ?_) fun hb q l => ?_
  · obtain ⟨k1, k2⟩ := l.keep hd e
    refine q_divW l.ok k1 k2 (i := 0) rfl (ev_well (i := 0) rfl k2 0 rfl ev_int) (ev_var (i := 1) rfl (.int m)) ⟨hm0, hm1⟩ fun z mz z1 z2 => ?_
    obtain ⟨n, hn1, hn2⟩ := draw_nat (z := g) hm0
    refine s_ret mz.ok (ev_var (i := 2) rfl (.int _)) fun v q3 l3 h3 => k v q3 _ ?_ h3 ⟨n, hn1, hn2⟩
    have wz : Wl a z := ⟨z1, _, _, _, z2, Int.ediv_nonneg h0 (Int.le_of_lt hm0)⟩
    exact Mw.le ⟨.pre l mz, wz⟩ l3
  · obtain ⟨k1, k2⟩ := l.keep hd e
    refine q_setI (xs := [g, x, s0]) (j := 2) l.ok (ev_add (ev_well (i := 0) rfl k2 2 rfl ev_int) ev_int) (er_var (i := 0) rfl) k1 k2 ev_int (by simp) fun z mz z1 z2 => ?_
    have m0 : Mw a p z := ⟨.pre l mz, z1, g, x, _, z2, h0⟩
    refine q_asg mz.ok (ev_mod (ev_int1 (ev_add (ev_well (i := 0) rfl z2 1 rfl ev_int) (ev_mul ev_int (ev_well (i := 0) rfl z2 2 rfl ev_int) (.inl ⟨by omega, by omega⟩)))) ev_int (by omega)) fun u q2 l2 hu => ?_
    cases hu
    obtain ⟨y1, y2⟩ := l2.keep z1 z2
    refine q_setI (xs := [g, x, s0 + 1]) (j := 1) l2.ok (ev_mod (ev_int1 (ev_add (ev_mul (ev_var (i := 3) rfl (.int _)) (ev_add (ev_mod (ev_int1 (ev_var (i := 3) rfl (.int _))) ev_int (by omega)) ev_int) (.inr ⟨?_, ?_⟩)) (ev_mul ev_int (ev_well (i := 0) rfl y2 2 rfl ev_int) (.inl ⟨by omega, by omega⟩)))) ev_int (by omega)) (er_var (i := 0) rfl) y1 y2 ev_int (by simp) fun z' mz' z1' z2' => ?_
    · omega
    · omega
    have m1 : Mw a p z' := m0.trans (.pre l2 ⟨mz', z1', g, _, _, z2', h0⟩)
    refine s_ret mz'.ok (ev_mod (ev_int1 (ev_fdiv (ev_well (i := 0) rfl z2' 1 rfl ev_int) ev_int ⟨by omega, by omega⟩)) (ev_var (i := 1) rfl (.int m)) hm0) fun v q3 l3 h3 => ?_
    obtain ⟨n, hn1, hn2⟩ := draw_nat (z := (((x + 91019 * (s0 + 1)) % 2147483399 * ((x + 91019 * (s0 + 1)) % 2147483399 % 9803 + 29009) + 23 * (s0 + 1)) % 2147483399 / 1021)) hm0
    exact k v q3 _ (m1.le l3) h3 ⟨n, hn1, hn2⟩
abbrev s_l_pick : Stmt := topS 36
abbrev n_l_pick : List Str := ["_law_well_here", "_law_some"]
theorem sc_l_pick : FnScope n_l_pick ["_law_well_here", "_law_some"] (defScope s_l_pick) := ⟨rfl, rfl, rfl, by decide +kernel, rfl, by decide +kernel, by decide +kernel⟩
def R_pick : List PyData → (PyData → Prop) → Prop := fun ds Po => ∃ es : List PyData, (ds = [.tuple es] ∨ ds = [.list es]) ∧ es ≠ [] ∧ es.length < 100000 ∧ Po = fun d => d ∈ es
theorem R_pick_len : ∀ ds d, R_pick ds d → ds.length = 1 := fun ds d ⟨_, h, _⟩ => by rcases h with h | h <;> (rw [h]; rfl)
theorem ok_pick {f : Addr} {fd : FuncData} (F : Fun K "_law_pick" "_law_pick" s_l_pick f fd) (B : Blt mg) (C_l_draw : Cal P w K mg base 1 "_law_draw" ["_law_well_here", "_law_many"] (spW R_draw)) : FnOk P w K mg base CX0 2 f fd ["_law_well_here", "_law_some"] (spW R_pick) := by
  refine F.ok sc_l_pick (fun vs H Q E h => spW_len R_pick_len h) (fun cdv A outer s H vs Q E hr h => ?_)
  have sc := sc_l_pick
  obtain ⟨p, a, us, ds, Po, rfl, ok, rfl, hv, ⟨es, hds, hne, hz, rfl⟩, hw, k⟩ := h
  refine ⟨_, pss_one (ps_ret (pe_ix (ix_seqK K) (pv 1) (pe_cal C_l_draw (hr.mono (by decide)) (by rfl) (pa_cons (pv 0) (pa_cons (pe_callB (call_lenK K) (by rfl) B.len_ bo_len (pa_cons (pv 1) pa_nil)) pa_nil))) (fun _ _ => rfl))), ?_⟩
  have hpos : 0 < es.length := List.length_pos_iff.mpr hne
  rcases hds with rfl | rfl
  · obtain ⟨v, rfl, h1⟩ := hv.one'
    refine ⟨v, rfl, ?_⟩
    refine em_call (i := 0) rfl (fun q m => ea_cons (ev_lenT (ev_var (i := 1) rfl (h1.up m.d))) ea_nil) ⟨_, rfl, by omega, by omega, rfl⟩ p (.refl ok hw) _ fun y q d m hy ⟨n, hd, hn⟩ => ?_
    subst hd
    cases hy
    have hn' : n < es.length := by omega
    cases h1 with
    | tup g1 g2 =>
      obtain ⟨u, hu1, hu2⟩ := at_nat (n := n) g2 (List.getElem?_eq_getElem hn')
      exact .inr (.inl ⟨_, _, _, u, rfl, rfl, .of (m.ok _ _ (m.d _ _ g1)), hu1, k u q _ m (hu2.up m.d) (List.getElem_mem _)⟩)
  · obtain ⟨v, rfl, h1⟩ := hv.one'
    refine ⟨v, rfl, ?_⟩
    refine em_call (i := 0) rfl (fun q m => ea_cons (ev_lenL (ev_var (i := 1) rfl (h1.up m.d))) ea_nil) ⟨_, rfl, by omega, by omega, rfl⟩ p (.refl ok hw) _ fun y q d m hy ⟨n, hd, hn⟩ => ?_
    subst hd
    cases hy
    have hn' : n < es.length := by omega
    cases h1 with
    | lst g1 g2 =>
      obtain ⟨u, hu1, hu2⟩ := at_nat (n := n) g2 (List.getElem?_eq_getElem hn')
      exact .inl ⟨_, _, _, u, rfl, rfl, .of (m.ok _ _ (m.d _ _ g1)), hu1, k u q _ m (hu2.up m.d) (List.getElem_mem _)⟩
end
end HR

namespace HR
open PySem PySem.Spec PyProof.Rows L2
open Evl (Ex)
open HT (ent IsPat IsCh sel sm wt IsW Feas Best Offs it nx top od LeN Cols IsPerm)
section
variable {K : PySem.W.Frag} {a L : Addr} {p q r : Two} {σ : L2.St} {te tb tm : TE} {ns : List Int} {i : Nat}
/-! the script of the law: a list that is only read -/
theorem sql_mono {H H' : Hp} {xs : List V} (e : Ex H H') (h : SqL K H a xs) : SqL K H' a xs := by
  rcases h with (h | ⟨o, h⟩) | h
  · exact .inl (.inl (e _ _ h))
  · exact .inl (.inr ⟨o, e _ _ h⟩)
  · exact .inr h
theorem ev_lenS (hs : σ[i]? = some (some (.ref a))) (h : SqL K p.2 a (ns.map V.int)) : EvD (tCB (rLen K) (tCons (tVar i) tNil)) σ p (.int (ns.length : Int)) := fun q l Q k => ⟨.ref a, hs, a, ns.map V.int, rfl, .inl (sql_mono l.h h), by
  rw [List.length_map]
  exact k _ q (.refl l.ok) (.int _)⟩
theorem ev_ixS {n : Nat} {x : Int} (hs : σ[i]? = some (some (.ref a))) (h : SqL K p.2 a (ns.map V.int)) (hb : EvD tb σ p (.int (n : Int))) (hx : ns[n]? = some x) : EvD (tOp (rIxL K) (tVar i) tb) σ p (.int x) := fun q l Q k =>
  ⟨.ref a, hs, hb q l _ fun y r lr hy => by
    cases hy
    exact ⟨a, ns.map V.int, _, _, rfl, rfl, sql_mono (l.trans lr).h h, atI_nat (vI_at hx), k _ r lr (.int _)⟩⟩
theorem en_slS {hi : Int} {thi : TO} (hs : σ[i]? = some (some (.ref a))) (h : SqL K p.2 a (ns.map V.int)) (hhi : ∀ q, Le p q → ∀ Q : Option Int → Hp → Prop, (∀ r, Le q r → Q (some hi) r.2) → thi σ q.2 Q) :
    EvN (tSl (rSlL K) (tVar i) tNoPart thi) σ p ((ns.take (HT.sIx ns.length ns.length (some hi))).map .int) := fun q l Q k => ⟨.ref a, hs, hhi q l _ fun r l1 => ⟨a, ns.map V.int, rfl, sql_mono (l.trans l1).h h, fun z hz => by
    have e : cutV (ns.map V.int) none (some hi) = (ns.take (HT.sIx ns.length ns.length (some hi))).map V.int := by
      unfold cutV
      rw [List.length_map, HT.sIx_none, List.drop_zero, Nat.sub_zero, List.map_take]
    rw [e]
    exact k z _ (r.1, upd r.2 z (.lst _)) (l1.trans (.newM l1.ok hz)) (ex_free l1.h hz) (ex_free l1.s hz) upd_same (DaAll.ofInts _)⟩⟩
theorem q_app {n : Nat} {vs : List V} {d : PyData} {D : Ends} {tz : TS} (ok : Ok p) (hs : σ[n]? = some (some (.ref L))) (h1 : p.1 L = none) (h2 : p.2 L = some (.lst vs)) (h : EvD te σ p d) (hz : vs.length < 100000)
    (k : ∀ v z, Mv (· = L) p z → Da z.1 v d → z.1 L = none → z.2 L = some (.lst (vs ++ [v])) → tz D σ z.2) : tSeq (tDrop (tBM K "list" rAppend (tVar n) (tCons te tNil))) tz D σ p.2 := s_app (D := { D with nx := tz D }) ok hs h1 h2 h hz k
theorem EvN.ret {D : Ends} {ds : List PyData} (ok : Ok p) (h : EvN te σ p ds) (k : ∀ L vs q, Le p q → p.2 L = none → q.1 L = none → q.2 L = some (.lst vs) → DaAll q.1 vs ds → D.rt (.ref L) q.2) : tRet te D σ p.2 := h p (.refl ok) _ k
theorem en_listRg {n : Nat} (h : EvD te σ p (.int (n : Int))) (hn : n ≤ 100000) : EvN (tLstRg (tRg1 te)) σ p ((List.range n).map fun e : Nat => .int (e : Int)) := fun q l Q k => h q l _ fun v r l1 hv => by
  cases hv
  refine ⟨_, rfl, ⟨by omega, by omega, by omega, by omega, by omega⟩, fun z hz => ?_⟩
  have e : rgV 0 (n : Int) = (List.range n).map fun e : Nat => V.int (e : Int) := by
    unfold rgV
    rw [Int.sub_zero, Int.toNat_natCast]
    exact List.map_congr_left fun i _ => by rw [Int.zero_add]
  rw [e]
  refine k z _ (r.1, upd r.2 z (.lst _)) (l1.trans (.newM l1.ok hz)) (ex_free l1.h hz) (ex_free l1.s hz) upd_same ?_
  have := DaAll.ofInts (D := r.1) ((List.range n).map fun e : Nat => (e : Int))
  rw [List.map_map, List.map_map] at this
  exact this
end
section
variable {P : Program} {w : World} {K : PySem.W.Frag} {mg : Str → Option Value} {base : Heap}
abbrev s_l_well : Stmt := topS 34
abbrev n_l_well : List Str := ["_law_script", "_law_spot", "_law_seed", "_law_cell", "_law_great"]
theorem sc_l_well : FnScope n_l_well ["_law_script", "_law_spot"] (defScope s_l_well) := ⟨rfl, rfl, rfl, by decide +kernel, rfl, by decide +kernel, by decide +kernel⟩
def spWell (K : PySem.W.Frag) : Sp := fun vs H Q _ => ∃ (p : Two) (a : Addr) (ns : List Int) (spot : Nat), p.2 = H ∧ Ok p ∧ SqL K p.2 a (ns.map V.int) ∧ vs = [.ref a, .int (spot : Int)] ∧ ∀ L q, Le p q → p.2 L = none → Wl L q → Q (.ref L) q.2
theorem ok_well {f : Addr} {fd : FuncData} (F : Fun K "_law_well" "_law_well" s_l_well f fd) (B : Blt mg) : FnOk P w K mg base CX0 1 f fd ["_law_script", "_law_spot"] (spWell K) := by
  refine F.ok sc_l_well (fun vs H Q E ⟨_, _, _, _, _, _, _, h, _⟩ => by rw [h]; rfl) (fun cdv A outer s H vs Q E hr h => ?_)
  have sc := sc_l_well
  obtain ⟨p, a, ns, spot, rfl, ok, hS, rfl, kk⟩ := h
  refine ⟨_, pss_cons (ps_set (i := 2) sc.nd rfl (Or.inl rfl) (pe_op op_add (pe_int) (pe_op op_mul (pe_int) (pv 1))))
      (pss_cons (ps_for PassesOwn.never rfl (pi_listK K (pe_slice (sl_listK K) (pv 0) (po_none) (po_some (pe_int)))) (pg_name (i := 3) sc.nd rfl (Or.inl rfl)) (pss_one (ps_set (i := 2) sc.nd rfl (Or.inl rfl) (pe_op op_mod (pe_callTy (call_int1) (by rfl) B.int_ bo_int (pa_cons (pe_op op_add (pe_op op_add (pe_op op_mul (pv 2) (pe_int)) (pe_op op_mul (pe_callTy (call_int1) (by rfl) B.int_ bo_int (pa_cons (pv 3) pa_nil)) (pe_int))) (pe_int)) pa_nil)) (pe_int)))))
      (pss_cons (ps_set (i := 3) sc.nd rfl (Or.inl rfl) (pe_ifExp (pt_cmpR op_lt (pv 1) (pe_callB (call_lenK K) (by rfl) B.len_ bo_len (pa_cons (pv 0) pa_nil)) (nomark _)) (pe_callTy (call_int1) (by rfl) B.int_ bo_int (pa_cons (pe_ix (ix_listK K) (pv 0) (pv 1) (fun _ _ => rfl)) pa_nil)) (pe_int)))
      (pss_cons (ps_set (i := 4) sc.nd rfl (Or.inl rfl) (pe_ifExp (pt_cmpR op_ge (pe_callB (call_abs) (by rfl) B.abs_ bo_abs (pa_cons (pv 3) pa_nil)) (pe_op op_pow (pe_int) (pe_int)) (nomark _)) (pe_callB (call_abs) (by rfl) B.abs_ bo_abs (pa_cons (pv 3) pa_nil)) (pe_int)))
      (pss_one (ps_ret (pe_lst (pa_cons (pv 4) (pa_cons (pe_op op_mod (pe_callTy (call_int1) (by rfl) B.int_ bo_int (pa_cons (pe_op op_add (pe_op op_add (pe_op op_mul (pv 2) (pe_int)) (pe_op op_mul (pe_op op_mod (pe_callTy (call_int1) (by rfl) B.int_ bo_int (pa_cons (pv 3) pa_nil)) (pe_int)) (pe_int))) (pe_int)) pa_nil)) (pe_int)) (pa_cons (pe_int) pa_nil))))))))), ?_⟩
  refine q_asg ok (ev_add ev_int (ev_mul ev_int (ev_var (i := 1) rfl (.int _)) (.inl ⟨by omega, by omega⟩))) fun v q l hv => ?_
  cases hv
  refine q_for l.ok (ns.take (HT.sIx ns.length ns.length (some 10))) PyData.int (ei_list (en_slS (i := 0) rfl (sql_mono l.h hS) (eo_some ev_int)).toD) fun r lr => ?_
  refine ⟨fun i σ' q => (∃ (x : Int) (o : Option V), σ' = [some (V.ref a), some (V.int (spot : Int)), some (V.int x), o, none]) ∧ Le p q ∧ Kp r q, ⟨⟨_, none, rfl⟩, l.trans lr, .of (.refl lr.s)⟩, fun i σ' q h => h.2.2, ?_, ?_⟩
  · rintro i c σ' q x q' hc ⟨⟨y, o, rfl⟩, lq, kq⟩ l' hx
    cases hx
    refine s_asg (d := .int ((y * 46811 + c * 31 + 13) % 2147483399)) l'.ok (ev_mod (ev_int1 (ev_add (ev_add (ev_mul (ev_var (i := 2) rfl (.int _)) ev_int (.inr ⟨by omega, by omega⟩)) (ev_mul (ev_int1 (ev_var (i := 3) rfl (.int _))) ev_int (.inr ⟨by omega, by omega⟩))) ev_int)) ev_int (by omega)) fun v q5 l5 h5 => ?_
    cases h5
    exact ⟨q5, rfl, ⟨_, _, rfl⟩, (lq.trans l').trans l5, (kq.trans (.of l')).trans (.of l5)⟩
  · rintro σ' q ⟨⟨y, o, rfl⟩, lq, kq⟩
    have hSq := sql_mono lq.h hS
    have hb : EvB (tTest (tOp (rI0 fun i j => .bl (decide (i < j))) (tVar 1) (tCB (rLen K) (tCons (tVar 0) tNil)))) [some (V.ref a), some (V.int (spot : Int)), some (V.int y), o, none] q (decide ((spot : Int) < (ns.length : Int))) := et_D (ev_lt (ev_var (i := 1) rfl (.int _)) (ev_lenS (i := 0) rfl hSq))
    refine q_asgX (P1 := fun d => ∃ c : Int, d = .int c) lq.ok (x_if hb (fun ht => ?_) fun _ => ev_int.to ⟨_, rfl⟩) fun v q2 d l2 hv hd => ?_
    · have hlt : spot < ns.length := by have := of_decide_eq_true ht; omega
      exact (ev_int1 (ev_ixS (i := 0) (n := spot) rfl hSq (ev_var (i := 1) rfl (.int _)) (List.getElem?_eq_getElem hlt))).to ⟨_, rfl⟩
    obtain ⟨c, rfl⟩ := hd
    cases hv
    refine q_asgX (P1 := fun d => ∃ g : Int, d = .int g ∧ 0 ≤ g) l2.ok (x_if (b := _) (et_D (ev_ge (ev_abs (ev_var (i := 3) rfl (.int _))) (ev_pow ev_int ev_int ⟨by omega, by omega, by decide⟩))) (fun _ => (ev_abs (ev_var (i := 3) rfl (.int _))).to ⟨_, rfl, ?_⟩) fun _ => ev_int.to ⟨_, rfl, by omega⟩) fun v q3 d l3 hv hd => ?_
    · split <;> omega
    obtain ⟨g, rfl, hg⟩ := hd
    cases hv
    have l23 := l2.trans l3
    refine EvN.ret l3.ok (en_lst (ds := [.int g, .int ((y * 67 + c % 2147483353 * 7013 + 3) % 2147483399), .int 0]) (ea_cons (ev_var (i := 4) rfl (.int _)) (ea_cons (ev_mod (ev_int1 (ev_add (ev_add (ev_mul (ev_var (i := 2) rfl (.int _)) ev_int (.inr ⟨by omega, by omega⟩)) (ev_mul (ev_mod (ev_int1 (ev_var (i := 3) rfl (.int _))) ev_int (by omega)) ev_int (.inr ⟨by omega, by omega⟩))) ev_int)) ev_int (by omega)) (ea_cons ev_int ea_nil)))) fun L vs q4 l4 f0 f1 f2 f3 => ?_
    have l04 := lq.trans (l23.trans l4)
    rw [DaAll.ints (ns := [g, (y * 67 + c % 2147483353 * 7013 + 3) % 2147483399, 0]) f3] at f2
    exact kk L q4 l04 (ex_free (lq.trans l23).h f0) ⟨f1, g, _, 0, f2, hg⟩
abbrev s_l_order_list : Stmt := topS 37
abbrev n_l_order_list : List Str := ["_law_well_here", "_law_n", "_law_left", "_law_found", "_law_turn", "_law_at"]
theorem sc_l_order_list : FnScope n_l_order_list ["_law_well_here", "_law_n"] (defScope s_l_order_list) := ⟨rfl, rfl, rfl, by decide +kernel, rfl, by decide +kernel, by decide +kernel⟩
def R_order : List PyData → (PyData → Prop) → Prop := fun ds Po => ∃ n : Nat, ds = [.int (n : Int)] ∧ n ≤ 100 ∧ Po = fun d => ∃ s : List Nat, d = .list (s.map fun e : Nat => .int (e : Int)) ∧ IsPerm s n
theorem R_order_len : ∀ ds d, R_order ds d → ds.length = 1 := fun ds d ⟨_, h, _⟩ => by rw [h]; rfl
theorem perm_of {s : List Nat} {n : Nat} (h : s.Perm (List.range n)) : IsPerm s n := ⟨by rw [h.length_eq, List.length_range], h.nodup_iff.mpr List.nodup_range, fun j hj => List.mem_range.mp (h.mem_iff.mp hj)⟩
theorem ok_order_list {f : Addr} {fd : FuncData} (F : Fun K "_law_order_list" "_law_order_list" s_l_order_list f fd) (B : Blt mg) (C_l_draw : Cal P w K mg base 1 "_law_draw" ["_law_well_here", "_law_many"] (spW R_draw)) :
    FnOk P w K mg base CX0 2 f fd ["_law_well_here", "_law_n"] (spW R_order) := by
  refine F.ok sc_l_order_list (fun vs H Q E h => spW_len R_order_len h) (fun cdv A outer s H vs Q E hr h => ?_)
  have sc := sc_l_order_list
  obtain ⟨p, a, us, ds, Po, rfl, ok, rfl, hv, ⟨n, rfl, hn, rfl⟩, hw, kk⟩ := h
  obtain ⟨v, rfl, h1⟩ := hv.one'
  cases h1
  refine ⟨_, pss_cons (ps_par (i := 2) (j := 3) rfl sc.nd rfl rfl (by decide) rfl rfl (pa_cons (pe_listRg rfl (by rfl) B.list_ (prg_1 (by rfl) B.range_ (pv 1))) (pa_cons (pe_lst (pa_nil)) pa_nil)) (by rfl))
      (pss_cons (ps_for PassesOwn.never rfl (pi_range1 (by rfl) B.range_ (pa_cons (pv 1) pa_nil)) (pg_name (i := 4) sc.nd rfl (Or.inl rfl)) (pss_cons (ps_set (i := 5) sc.nd rfl (Or.inl rfl) (pe_cal C_l_draw (hr.mono (by decide)) (by rfl) (pa_cons (pv 0) (pa_cons (pe_callB (call_lenK K) (by rfl) B.len_ bo_len (pa_cons (pv 2) pa_nil)) pa_nil))))
      (pss_cons (ps_expr (pe_bmK K PySem.F.plainAttrs_list PySem.F.slot_list_append PySem.F.type_list_append mt_append (pv 3) (pa_cons (pe_ix (ix_listK K) (pv 2) (pv 5) (fun _ _ => rfl)) pa_nil)))
      (pss_one (ps_set (i := 2) sc.nd rfl (Or.inl rfl) (pe_op op_cat (pe_slice (sl_listK K) (pv 2) (po_none) (po_some (pv 5))) (pe_slice (sl_listK K) (pv 2) (po_some (pe_op op_add (pv 5) (pe_int))) (po_none))))))))
      (pss_one (ps_ret (pv 3)))), ?_⟩
  refine q_parN ok hw (em_D fun q m => (en_listRg (n := n) (ev_var (i := 1) rfl (.int _)) (by omega)).toD) (fun q m => en_lst ea_nil) fun lv F vs q0 d m0 hlv hd f0 hne f1 f2 f3 => ?_
  subst hd
  cases f3
  refine q_for m0.ok (List.range n) (fun e : Nat => .int (e : Int)) (ei_rng1 (ev_var (i := 1) rfl (.int _)) (by omega)) fun r lr => ?_
  obtain ⟨g1, g2⟩ := lr.keep f1 f2
  refine ⟨fun i σ' q => ∃ (lf fl : List Nat) (lv : V) (o4 o5 : Option V), σ' = [some (.ref a), some (.int (n : Int)), some lv, some (.ref F), o4, o5] ∧ Mw a p q ∧ Kp r q ∧ Da q.1 lv (.list (lf.map fun e : Nat => .int (e : Int))) ∧ q.1 F = none ∧ q.2 F = some (.lst (fl.map fun e : Nat => V.int (e : Int))) ∧ fl.length = i ∧ (fl ++ lf).Perm (List.range n),
    ⟨List.range n, [], lv, none, none, rfl, m0.le lr, .of (.refl lr.s), hlv.up lr.d, g1, g2, rfl, .refl _⟩, fun i σ' q ⟨_, _, _, _, _, _, _, h, _⟩ => h, ?_, ?_⟩
  · rintro i e σ' q x q' he ⟨lf, fl, lv, o4, o5, rfl, mq, kq, hl, hF1, hF2, hfl, hp⟩ l' hx
    have hi : i < n := by have := (List.getElem?_eq_some_iff.mp he).1; rw [List.length_range] at this; exact this
    have hlen : fl.length + lf.length = n := by have := hp.length_eq; rw [List.length_append, List.length_range] at this; exact this
    obtain ⟨y1, y2⟩ := l'.keep hF1 hF2
    have mq' := mq.le l'
    have hl' := hl.up l'.d
    refine q_asgM l'.ok mq'.w (em_call (i := 0) rfl (fun q m => ea_cons (ev_lenL (ev_var (i := 2) rfl (hl'.up m.d))) ea_nil) ⟨_, rfl, by rw [List.length_map]; omega, by rw [List.length_map]; omega, rfl⟩) fun u q2 d m2 hu hd => ?_
    obtain ⟨k, rfl, hk⟩ := hd
    cases hu
    rw [List.length_map] at hk
    have hk' : k < lf.length := by omega
    obtain ⟨z1, z2⟩ := m2.keep hne y1 y2
    have hl2 := hl'.up m2.d
    have hat : (lf.map fun e : Nat => PyData.int (e : Int))[k]? = some (.int ((lf[k] : Nat) : Int)) := by rw [List.getElem?_map, List.getElem?_eq_getElem hk']; rfl
    refine q_app m2.ok (n := 3) rfl z1 z2 (ev_ixL (n := k) (ev_var (i := 2) rfl hl2) (ev_var (i := 5) rfl (.int _)) hat) (by rw [List.length_map]; omega) fun v z3 m3 hv3 w1 w2 => ?_
    cases hv3
    have mp3 : Mw a p z3 := (mq'.trans m2).app (m3.mono fun b e => Or.inr e) (m2.w.mv m3 fun e => hne e.symm) f0
    have hl3 := hl2.up m3.d
    refine s_asg (d := .list ((lf.take k ++ lf.drop (k + 1)).map fun e : Nat => .int (e : Int))) m3.ok (EvN.toD (EvN.is (en_cat (EvN.toD (en_slL (lo := none) (hi := some (k : Int)) (ev_var (i := 2) rfl hl3) eo_none (eo_some (ev_var (i := 5) rfl (.int _))))) (EvN.toD (en_slL (lo := some ((k : Int) + 1)) (hi := none) (ev_var (i := 2) rfl hl3) (eo_some (ev_add (ev_var (i := 5) rfl (.int _)) ev_int)) eo_none)) ?_) ?_)) fun v4 q4 l4 h4 => ?_
    · rw [List.length_take, List.length_take, List.length_drop, List.length_drop, List.length_map]; omega
    · rw [HT.sIx_none, HT.sIx_none, HT.sIx_nat, show ((k : Int) + 1) = ((k + 1 : Nat) : Int) from rfl, HT.sIx_nat, List.length_map, List.drop_zero, Nat.sub_zero, Nat.min_eq_left (Nat.le_of_lt hk'), Nat.min_eq_left hk', List.map_append, List.map_take, List.map_drop]
      congr 1
      rw [← List.length_map (f := fun e : Nat => PyData.int (e : Int)) (as := lf), ← List.length_drop, List.take_length]
    · obtain ⟨x1, x2⟩ := l4.keep w1 w2
      refine ⟨q4, rfl, lf.take k ++ lf.drop (k + 1), fl ++ [lf[k]], v4, _, _, rfl, mp3.le l4, ((kq.trans (.of l')).trans (m2.m.kp')).trans ((m3.kp').trans (.of l4)), h4, x1, ?_, ?_, ?_⟩
      · rw [x2, List.map_append]; rfl
      · rw [List.length_append, hfl]; rfl
      · refine List.Perm.trans ?_ hp
        rw [List.append_assoc]
        refine List.Perm.append_left fl ?_
        have e1 : lf = lf.take k ++ lf[k] :: lf.drop (k + 1) := by rw [← List.drop_eq_getElem_cons hk', List.take_append_drop]
        conv => rhs; rw [e1]
        exact (List.perm_middle (a := lf[k]) (l₁ := lf.take k) (l₂ := lf.drop (k + 1))).symm
  · rintro σ' q ⟨lf, fl, lv, o4, o5, rfl, mq, kq, hl, hF1, hF2, hfl, hp⟩
    rw [List.length_range] at hfl
    have hlf : lf = [] := by
      have := hp.length_eq
      rw [List.length_append, List.length_range] at this
      exact List.length_eq_zero_iff.mp (by omega)
    rw [hlf, List.append_nil] at hp
    have mf := mq.frz f0 hne hF1 hF2
    have hda : DaAll q.1 (fl.map fun e : Nat => V.int (e : Int)) (fl.map fun e : Nat => PyData.int (e : Int)) := by
      have := DaAll.ofInts (D := q.1) (fl.map fun e : Nat => (e : Int))
      rw [List.map_map, List.map_map] at this
      exact this
    exact s_ret (p := (upd q.1 F (.lst (fl.map fun e : Nat => V.int (e : Int))), q.2)) mf.ok (ev_var (i := 3) rfl (.new hF1 hda)) fun v' q3 l3 h3 => kk v' q3 _ (mf.le l3) h3 ⟨fl, rfl, perm_of hp⟩
abbrev s_l_start : Stmt := topS 44
abbrev n_l_start : List Str := ["_law_well_here", "_law_n", "_law_found", "_law_i"]
theorem sc_l_start : FnScope n_l_start ["_law_well_here", "_law_n"] (defScope s_l_start) := ⟨rfl, rfl, rfl, by decide +kernel, rfl, by decide +kernel, by decide +kernel⟩
def R_start : List PyData → (PyData → Prop) → Prop := fun ds Po => ∃ n : Nat, ds = [.int (n : Int)] ∧ n ≤ 100 ∧ Po = fun d => ∃ c : List Int, d = .list (c.map .int) ∧ c.length = n ∧ ∀ x ∈ c, 0 ≤ x
theorem R_start_len : ∀ ds d, R_start ds d → ds.length = 1 := fun ds d ⟨_, h, _⟩ => by rw [h]; rfl
theorem ok_start {f : Addr} {fd : FuncData} (F : Fun K "_law_start" "_law_start" s_l_start f fd) (B : Blt mg) (C_l_pick : Cal P w K mg base 2 "_law_pick" ["_law_well_here", "_law_some"] (spW R_pick)) :
    FnOk P w K mg base CX0 3 f fd ["_law_well_here", "_law_n"] (spW R_start) := by
  refine F.ok sc_l_start (fun vs H Q E h => spW_len R_start_len h) (fun cdv A outer s H vs Q E hr h => ?_)
  have sc := sc_l_start
  obtain ⟨p, a, us, ds, Po, rfl, ok, rfl, hv, ⟨n, rfl, hn, rfl⟩, hw, kk⟩ := h
  obtain ⟨v, rfl, h1⟩ := hv.one'
  cases h1
  refine ⟨_, pss_cons (ps_set (i := 2) sc.nd rfl (Or.inl rfl) (pe_lst (pa_nil)))
      (pss_cons (ps_for PassesOwn.never rfl (pi_range1 (by rfl) B.range_ (pa_cons (pv 1) pa_nil)) (pg_name (i := 3) sc.nd rfl (Or.inl rfl)) (pss_one (ps_expr (pe_bmK K PySem.F.plainAttrs_list PySem.F.slot_list_append PySem.F.type_list_append mt_append (pv 2) (pa_cons (pe_cal C_l_pick (hr.mono (by decide)) (by rfl) (pa_cons (pv 0) (pa_cons (pe_tup (pa_cons (pe_int) (pa_cons (pe_int) (pa_cons (pe_int) (pa_cons (pe_int) (pa_cons (pe_int) (pa_cons (pe_int) pa_nil))))))) pa_nil))) pa_nil)))))
      (pss_one (ps_ret (pv 2)))), ?_⟩
  refine q_asgNM ok hw (en_lst ea_nil) fun F vs q0 l0 f0 hne f1 f2 f3 => ?_
  cases f3
  refine q_for l0.ok (List.range n) (fun e : Nat => .int (e : Int)) (ei_rng1 (ev_var (i := 1) rfl (.int _)) (by omega)) fun r lr => ?_
  obtain ⟨g1, g2⟩ := lr.keep f1 f2
  refine ⟨fun i σ' q => ∃ (c : List Int) (o3 : Option V), σ' = [some (.ref a), some (.int (n : Int)), some (.ref F), o3] ∧ Mw a p q ∧ Kp r q ∧ q.1 F = none ∧ q.2 F = some (.lst (c.map V.int)) ∧ c.length = i ∧ ∀ x ∈ c, 0 ≤ x,
    ⟨[], none, rfl, .of hw (l0.trans lr), .of (.refl lr.s), g1, g2, rfl, fun x hx => by cases hx⟩, fun i σ' q ⟨_, _, _, _, h, _⟩ => h, ?_, ?_⟩
  · rintro i e σ' q x q' he ⟨c, o3, rfl, mq, kq, hF1, hF2, hcl, hc⟩ l' hx
    have hi : i < n := by have := (List.getElem?_eq_some_iff.mp he).1; rw [List.length_range] at this; exact this
    obtain ⟨y1, y2⟩ := l'.keep hF1 hF2
    have mq' := mq.le l'
    refine s_appM (n := 2) (Po := fun d => d ∈ [PyData.int 0, .int 0, .int 0, .int 1, .int 2, .int 4]) l'.ok mq'.w rfl hne y1 y2 (em_call (i := 0) rfl (fun q m => ea_cons (ev_tup (ea_cons ev_int (ea_cons ev_int (ea_cons ev_int (ea_cons ev_int (ea_cons ev_int (ea_cons ev_int ea_nil))))))) ea_nil) ⟨_, .inl rfl, by simp, by simp, rfl⟩) (by rw [List.length_map]; omega) fun v z d m3 wz hv3 hd w1 w2 => ?_
    obtain ⟨x, rfl, hx0⟩ : ∃ x : Int, d = .int x ∧ 0 ≤ x := by
      rcases (by simpa using hd : d = .int 0 ∨ d = .int 1 ∨ d = .int 2 ∨ d = .int 4) with h | h | h | h
      · exact ⟨0, h, by omega⟩
      · exact ⟨1, h, by omega⟩
      · exact ⟨2, h, by omega⟩
      · exact ⟨4, h, by omega⟩
    cases hv3
    refine ⟨z, rfl, c ++ [x], _, rfl, mq'.app m3 wz f0, (kq.trans (.of l')).trans m3.kp', w1, ?_, ?_, fun y hy => ?_⟩
    · rw [w2, List.map_append]; rfl
    · rw [List.length_append, hcl]; rfl
    · rcases List.mem_append.mp hy with h | h
      · exact hc y h
      · rw [List.mem_singleton.mp h]; exact hx0
  · rintro σ' q ⟨c, o3, rfl, mq, kq, hF1, hF2, hcl, hc⟩
    rw [List.length_range] at hcl
    have mf := mq.frz f0 hne hF1 hF2
    exact s_ret (p := (upd q.1 F (.lst (c.map V.int)), q.2)) mf.ok (ev_var (i := 2) rfl (.new hF1 (DaAll.ofInts c))) fun v' q3 l3 h3 => kk v' q3 _ (mf.le l3) h3 ⟨c, rfl, hcl, hc⟩
end
end HR

namespace HR
open PySem PySem.Spec PyProof.Rows L2
open Evl (Ex)
open HT (ent IsPat IsCh sel sm wt IsW Feas Best Offs it nx top od LeN Cols IsPerm)
/-! ### all choices -/
def eS (s : List Nat) : PyData := .tuple (s.map fun e : Nat => .int (e : Int))
theorem eS_at {s : List Nat} {i : Nat} (h : i < s.length) : (s.map fun e : Nat => PyData.int (e : Int))[i]? = some (.int ((sel s i : Nat) : Int)) := by
  unfold sel
  rw [List.getElem?_map, List.getD_eq_getElem?_getD, List.getElem?_eq_getElem h]; rfl
def fitC (r : List (Option Int)) (s : List Nat) : Nat → Bool := fun j => (r.getD j none).isSome && !decide (j ∈ s)
def oneC (n : Nat) (r : List (Option Int)) (s : List Nat) : List (List Nat) := ((List.range n).filter (fitC r s)).map fun j => s ++ [j]
def stepC (n : Nat) (r : List (Option Int)) (L : List (List Nat)) : List (List Nat) := L.flatMap (oneC n r)
def chsL (n : Nat) (rs : List (List (Option Int))) : List (List Nat) := rs.foldl (fun L r => stepC n r L) [[]]
theorem chsL_snoc (n : Nat) (rs : List (List (Option Int))) (r : List (Option Int)) : chsL n (rs ++ [r]) = stepC n r (chsL n rs) := by
  unfold chsL
  rw [List.foldl_append]; rfl
theorem oneC_len (n : Nat) (r : List (Option Int)) (s : List Nat) : (oneC n r s).length ≤ n := by
  unfold oneC
  rw [List.length_map]
  exact Nat.le_trans (List.length_filter_le _ _) (by rw [List.length_range]; exact Nat.le_refl _)
theorem stepC_len (n : Nat) (r : List (Option Int)) : ∀ (L : List (List Nat)), (stepC n r L).length ≤ n * L.length
  | [] => Nat.zero_le _
  | s :: L => by
    unfold stepC
    rw [List.flatMap_cons, List.length_append, List.length_cons, Nat.mul_succ]
    have h1 := oneC_len n r s
    have h2 := stepC_len n r L
    unfold stepC at h2
    omega
theorem chsL_len {n : Nat} (hn : n ≤ 4) (rs : List (List (Option Int))) : (chsL n rs).length ≤ 4 ^ rs.length := by
  suffices h : ∀ k, (chsL n (rs.take k)).length ≤ 4 ^ k ∨ rs.length < k by
    rcases h rs.length with h | h
    · rw [List.take_length] at h; exact h
    · omega
  intro k
  induction k with
  | zero => exact .inl (by rw [List.take_zero]; exact Nat.le_refl _)
  | succ k ih =>
    rcases ih with ih | ih
    · by_cases hk : k < rs.length
      · refine .inl ?_
        rw [take_snoc (List.getElem?_eq_getElem hk), chsL_snoc]
        have h1 := stepC_len n rs[k] (chsL n (rs.take k))
        have h2 : n * (chsL n (rs.take k)).length ≤ 4 * 4 ^ k := Nat.mul_le_mul hn ih
        rw [Nat.pow_succ]
        omega
      · exact .inr (by omega)
    · exact .inr (by omega)
theorem mem_oneC {n : Nat} {r : List (Option Int)} {s t : List Nat} : t ∈ oneC n r s ↔ ∃ j, j < n ∧ (r.getD j none).isSome = true ∧ j ∉ s ∧ t = s ++ [j] := by
  unfold oneC fitC
  rw [List.mem_map]
  constructor
  · rintro ⟨j, hj, rfl⟩
    rw [List.mem_filter, List.mem_range, Bool.and_eq_true] at hj
    exact ⟨j, hj.1, hj.2.1, by simpa using hj.2.2, rfl⟩
  · rintro ⟨j, h1, h2, h3, rfl⟩
    exact ⟨j, List.mem_filter.mpr ⟨List.mem_range.mpr h1, by rw [h2]; simpa using h3⟩, rfl⟩
theorem sel_app_lt {s : List Nat} {j i : Nat} (h : i < s.length) : sel (s ++ [j]) i = sel s i := by
  unfold sel
  rw [List.getD_eq_getElem?_getD, List.getD_eq_getElem?_getD, List.getElem?_append_left h]
theorem sel_app_eq {s : List Nat} {j : Nat} : sel (s ++ [j]) s.length = j := by
  unfold sel
  rw [List.getD_eq_getElem?_getD, List.getElem?_append_right (Nat.le_refl _), Nat.sub_self]; rfl
theorem mem_chs {T : HT.Pat} {n : Nat} (h : IsPat T n) : ∀ k, k ≤ n → ∀ s : List Nat, s ∈ chsL n (T.take k) ↔ (s.length = k ∧ s.Nodup ∧ (∀ j ∈ s, j < n) ∧ ∀ i, i < k → (ent T i (sel s i)).isSome = true) := by
  intro k
  induction k with
  | zero =>
    intro _ s
    rw [List.take_zero]
    show s ∈ [[]] ↔ _
    rw [List.mem_singleton]
    constructor
    · rintro rfl
      exact ⟨rfl, List.nodup_nil, fun j hj => (by cases hj), fun i hi => (by omega)⟩
    · intro hs
      exact List.length_eq_zero_iff.mp hs.1
  | succ k ih =>
    intro hk s
    have ih := ih (by omega)
    obtain ⟨r, hr1, hr2, _⟩ := row_at h (i := k) (by omega)
    have hent : ∀ j, ent T k j = r.getD j none := fun j => by
      unfold ent
      have e : T.getD k [] = r := by rw [List.getD_eq_getElem?_getD, hr1]; rfl
      rw [e]
    rw [take_snoc hr1, chsL_snoc]
    unfold stepC
    rw [List.mem_flatMap]
    constructor
    · rintro ⟨t, ht, hs⟩
      obtain ⟨j, hj, hsome, hnot, rfl⟩ := mem_oneC.mp hs
      obtain ⟨t1, t2, t3, t4⟩ := (ih t).mp ht
      refine ⟨by rw [List.length_append, t1]; rfl, ?_, ?_, fun i hi => ?_⟩
      · rw [List.nodup_append]
        refine ⟨t2, by simp, fun a ha b hb => ?_⟩
        rw [List.mem_singleton] at hb
        intro e
        exact hnot (by rw [← hb, ← e]; exact ha)
      · intro x hx
        rcases List.mem_append.mp hx with hx | hx
        · exact t3 x hx
        · rw [List.mem_singleton.mp hx]; exact hj
      · by_cases q : i < k
        · rw [sel_app_lt (by omega)]; exact t4 i q
        · have e : i = t.length := by omega
          rw [e, sel_app_eq, t1, hent]; exact hsome
    · rintro ⟨s1, s2, s3, s4⟩
      have hk' : k < s.length := by omega
      have hs : s = s.take k ++ [s[k]] := by
        rw [← take_snoc (List.getElem?_eq_getElem hk'), List.take_of_length_le (by omega)]
      have hl : (s.take k).length = k := by rw [List.length_take]; omega
      have hsel : sel s k = s[k] := by
        unfold sel
        rw [List.getD_eq_getElem?_getD, List.getElem?_eq_getElem hk']; rfl
      have hnd := s2
      rw [hs, List.nodup_append] at hnd
      refine ⟨s.take k, (ih _).mpr ⟨hl, hnd.1, fun j hj => s3 j (List.mem_of_mem_take hj), fun i hi => ?_⟩, mem_oneC.mpr ⟨s[k], s3 _ (List.getElem_mem _), ?_, fun hm => ?_, hs⟩⟩
      · have := s4 i (by omega)
        rw [hs, sel_app_lt (by omega)] at this
        exact this
      · have := s4 k (by omega)
        rw [hsel, hent] at this
        exact this
      · exact hnd.2.2 _ hm _ (List.mem_singleton.mpr rfl) rfl
theorem mem_chsL {T : HT.Pat} {n : Nat} (h : IsPat T n) (s : List Nat) : s ∈ chsL n T ↔ IsCh T n s := by
  have := mem_chs h n (Nat.le_refl _) s
  rw [List.take_of_length_le (by rw [h.len]; exact Nat.le_refl _)] at this
  rw [this]
  constructor
  · rintro ⟨h1, h2, h3, h4⟩
    exact ⟨⟨h1, h2, h3⟩, fun i hi => Option.isSome_iff_exists.mp (h4 i hi)⟩
  · rintro ⟨⟨h1, h2, h3⟩, h4⟩
    exact ⟨h1, h2, h3, fun i hi => Option.isSome_iff_exists.mpr (h4 i hi)⟩
theorem chs_le {T : HT.Pat} {n : Nat} (h : IsPat T n) : (chsL n T).length ≤ 256 := by
  have h1 := chsL_len h.le T
  have h2 : 4 ^ T.length ≤ 4 ^ 4 := Nat.pow_le_pow_right (by decide) (by rw [h.len]; exact h.le)
  exact Nat.le_trans h1 h2
theorem chs_take_le {T : HT.Pat} {n : Nat} (h : IsPat T n) (k : Nat) : (chsL n (T.take k)).length ≤ 256 := by
  have h1 := chsL_len h.le (T.take k)
  have h2 : 4 ^ (T.take k).length ≤ 4 ^ 4 := Nat.pow_le_pow_right (by decide) (by rw [List.length_take, h.len]; have := h.le; omega)
  exact Nat.le_trans h1 h2
section
variable {P : Program} {w : World} {K : PySem.W.Frag} {mg : Str → Option Value} {base : Heap}
abbrev s_l_choices : Stmt := topS 39
abbrev n_l_choices : List Str := ["_law_rows", "_law_found", "_law_line", "_law_more", "_law_some", "_law_j"]
theorem sc_l_choices : FnScope n_l_choices ["_law_rows"] (defScope s_l_choices) := ⟨rfl, rfl, rfl, by decide +kernel, rfl, by decide +kernel, by decide +kernel⟩
def R_choices : Rel := fun ds d => ∃ (T : HT.Pat) (n : Nat), ds = [ePat T] ∧ IsPat T n ∧ d = .list ((chsL n T).map eS)
theorem R_choices_len : ∀ ds d, R_choices ds d → ds.length = 1 := fun ds d ⟨_, _, h, _⟩ => by rw [h]; rfl
theorem mem_castN {j : Nat} {s : List Nat} : decide ((j : Int) ∈ s.map fun e : Nat => (e : Int)) = decide (j ∈ s) := by
  rw [decide_eq_decide]
  constructor
  · intro h
    obtain ⟨k, hk, e⟩ := List.mem_map.mp h
    have : k = j := by omega
    rw [← this]; exact hk
  · exact fun h => List.mem_map.mpr ⟨j, h, rfl⟩
theorem ok_choices {f : Addr} {fd : FuncData} (F : Fun K "_law_choices" "_law_choices" s_l_choices f fd) (B : Blt mg) : FnOk P w K mg base CX0 1 f fd ["_law_rows"] (spF R_choices) := by
  refine F.ok sc_l_choices (fun vs H Q E h => spF_len R_choices_len h) (fun cdv A outer s H vs Q E hr h => ?_)
  have sc := sc_l_choices
  obtain ⟨p, ds, d, rfl, ok, hv, ⟨T, n, rfl, hP, rfl⟩, kk⟩ := h
  obtain ⟨v, rfl, h1⟩ := hv.one'
  refine ⟨_, pss_cons (ps_set (i := 1) sc.nd rfl (Or.inl rfl) (pe_lst (pa_cons (pe_tup (pa_nil)) pa_nil)))
      (pss_cons (ps_for PassesOwn.never rfl (pi_tupK K (pv 0)) (pg_name (i := 2) sc.nd rfl (Or.inr rfl)) (pss_cons (ps_set (i := 3) sc.nd rfl (Or.inl rfl) (pe_lst (pa_nil)))
      (pss_cons (ps_for PassesOwn.never rfl (pi_listK K (pv 1)) (pg_name (i := 4) sc.nd rfl (Or.inr rfl)) (pss_one (ps_set (i := 3) sc.nd rfl (Or.inl rfl) (pe_op op_cat (pv 3) (pe_lc (own := [("_law_j", 5)]) rfl sc.nd (pi_range1 (by rfl) B.range_ (pa_cons (pe_callB (call_lenK K) (by rfl) B.len_ bo_len (pa_cons (pv 0) pa_nil)) pa_nil)) (blkOk_by (own := [("_law_j", 5)]) (by show blkC n_l_choices (defScope s_l_choices) _ _ = true; decide +kernel)) (fun _ _ _ _ _ => pg_name (i := 5) sc.nd rfl (Or.inl rfl)) (fun _ _ _ _ _ => pts_one (PW.pt (pw_and (pt_cmpR op_notN (pe_ix (ix_tupK K) (pv 2) (pv 5) (fun _ _ => rfl)) (pe_non) (nomark _)) (pw_and1 (pt_cmpR (op_notIn_seqK K) (pv 5) (pv 4) (by rfl)))))) (fun _ _ _ _ _ => pe_op (op_catAK K) (pv 4) (pe_tup (pa_cons (pv 5) pa_nil))))))))
      (pss_one (ps_set (i := 1) sc.nd rfl (Or.inl rfl) (pv 3))))))
      (pss_one (ps_ret (pv 1)))), ?_⟩
  have hn := hP.le
  refine q_asg (d := .list ([[]].map eS)) ok (EvN.toD (en_lst (ea_cons (ev_tup ea_nil) ea_nil))) fun fv q l hf => ?_
  refine q_for l.ok T eRow (ei_tup (ev_var (i := 0) rfl (h1.up l.d))) fun r lr => ?_
  refine ⟨fun i σ' q => ∃ (fv : V) (o2 o3 o4 : Option V), σ' = [some v, some fv, o2, o3, o4, none] ∧ Le p q ∧ Kp r q ∧ Da q.1 fv (.list ((chsL n (T.take i)).map eS)),
    ⟨fv, none, none, none, rfl, l.trans lr, .of (.refl lr.s), by rw [List.take_zero]; exact hf.up lr.d⟩, fun i σ' q ⟨_, _, _, _, _, _, h, _⟩ => h, ?_, ?_⟩
  · rintro i row σ' q x q' hrow ⟨fv, o2, o3, o4, rfl, lq, kq, hfd⟩ l' hx
    have hrl : row.length = n := hP.row _ (List.mem_of_getElem? hrow)
    have lq' := lq.trans l'
    refine q_asg (d := .list ((stepC n row ((chsL n (T.take i)).take 0)).map eS)) l'.ok (EvN.toD (EvN.is (ds := []) (en_lst ea_nil) (by rw [List.take_zero]; rfl))) fun mv q2 l2 hm => ?_
    refine q_for l2.ok (chsL n (T.take i)) eS (ei_list (ev_var (i := 1) rfl (hfd.up (l'.trans l2).d))) fun r2 lr2 => ?_
    have lq2 := lq'.trans (l2.trans lr2)
    refine ⟨fun j σ' q => ∃ (mv : V) (o4 : Option V), σ' = [some v, some fv, some x, some mv, o4, none] ∧ Le r2 q ∧ Da q.1 mv (.list ((stepC n row ((chsL n (T.take i)).take j)).map eS)),
      ⟨mv, o4, rfl, .refl lr2.s, hm.up lr2.d⟩, fun i σ' q ⟨_, _, _, h, _⟩ => .of h, ?_, ?_⟩
    · rintro j s σ' q3 y q4 hs ⟨mv, o4, rfl, l3, hmd⟩ l4 hy
      have l34 := l3.trans l4
      have lx := (l2.trans lr2).trans l34
      have hlt : j < (chsL n (T.take i)).length := (List.getElem?_eq_some_iff.mp hs).1
      have hz1 := stepC_len n row ((chsL n (T.take i)).take j)
      rw [List.length_take] at hz1
      have hz2 := chs_take_le hP i
      have hz3 : n * min j (chsL n (T.take i)).length ≤ 4 * 256 := Nat.mul_le_mul hn (by omega)
      have hz4 := oneC_len n row s
      refine s_asg (d := .list ((stepC n row ((chsL n (T.take i)).take (j + 1))).map eS)) l4.ok (EvN.toD (EvN.is (en_cat (ev_var (i := 3) rfl (hmd.up l4.d)) (EvN.toD (EvN.is (en_lc (List.range n) (fun e : Nat => .int (e : Int)) (fitC row s) (fun e : Nat => eS (s ++ [e])) (ei_rng1 (n := n) (EvD.is (ev_lenT (ev_var (i := 0) rfl (h1.up (lq2.trans l34).d))) (by rw [List.length_map, hP.len])) (by omega)) (fun e he z q5 l5 hz Q2 k2 => k2 _ (by rfl) (EvB.is (et_and (et_D (ev_notN (o := row.getD e none) (ev_ixT (n := e) (ev_var (i := 2) rfl (hx.up (lx.trans l5).d)) (ev_var (i := 5) rfl hz) ?_))) fun _ => et_D (ev_niT (ns := s.map fun e : Nat => (e : Int)) (ev_var (i := 5) rfl hz) (ev_var (i := 4) rfl ?_))) ?_) fun _ => ?_) (by rw [List.length_range]; omega)) (es := (oneC n row s).map eS) ?_)) ?_) ?_)) fun v' q5 l5 h5 => ?_
      · have he' : e < row.length := by rw [hrl]; exact List.mem_range.mp he
        refine eRow_at ?_
        rw [List.getD_eq_getElem?_getD, List.getElem?_eq_getElem he']; rfl
      · rw [List.map_map]; exact hy.up l5.d
      · rw [mem_castN]; rfl
      · refine EvD.is (ev_catT (ev_var (i := 4) rfl (hy.up l5.d)) (ev_tup (ea_cons (ev_var (i := 5) rfl hz) ea_nil)) ?_) ?_
        · have hsl : s.length ≤ 4 := by
            have hmem := List.mem_of_getElem? hs
            by_cases hin : i ≤ n
            · have := ((mem_chs hP i hin s).mp hmem).1; omega
            · have hi : i < T.length := (List.getElem?_eq_some_iff.mp hrow).1
              rw [hP.len] at hi; omega
          rw [List.length_map]
          simp only [List.length_cons, List.length_nil]
          omega
        · unfold eS; rw [List.map_append]; rfl
      · unfold oneC; rw [List.map_map]; rfl
      · rw [List.length_map, List.length_map]; omega
      · rw [take_snoc hs]; unfold stepC; rw [List.flatMap_append, List.flatMap_cons, List.flatMap_nil, List.append_nil, List.map_append]
      · exact ⟨q5, rfl, v', some y, rfl, l34.trans l5, h5⟩
    · rintro σ' q3 ⟨mv, o4, rfl, l3, hmd⟩
      rw [List.take_length] at hmd
      refine s_asg l3.ok (ev_var (i := 3) rfl hmd) fun v' q5 l5 h5 => ?_
      refine ⟨q5, rfl, v', some x, some mv, o4, rfl, (lq2.trans l3).trans l5, (kq.trans (.of l')).trans (.of (((l2.trans lr2).trans l3).trans l5)), ?_⟩
      rw [take_snoc hrow, chsL_snoc]; exact h5
  · rintro σ' q ⟨fv, o2, o3, o4, rfl, lq, kq, hfd⟩
    rw [List.take_length] at hfd
    exact s_ret lq.ok (ev_var (i := 1) rfl hfd) fun v' q3 l3 h3 => kk v' q3 (lq.trans l3) h3
abbrev s_l_weight : Stmt := topS 40
abbrev n_l_weight : List Str := ["_law_rows", "_law_some", "_law_i"]
theorem sc_l_weight : FnScope n_l_weight ["_law_rows", "_law_some"] (defScope s_l_weight) := ⟨rfl, rfl, rfl, by decide +kernel, rfl, by decide +kernel, by decide +kernel⟩
def R_weight : Rel := fun ds d => ∃ (T : HT.Pat) (n : Nat) (s : List Nat), ds = [ePat T, eS s] ∧ IsPat T n ∧ IsCh T n s ∧ d = .int (wt T n s)
theorem R_weight_len : ∀ ds d, R_weight ds d → ds.length = 2 := fun ds d ⟨_, _, _, h, _⟩ => by rw [h]; rfl
theorem ok_weight {f : Addr} {fd : FuncData} (F : Fun K "_law_weight" "_law_weight" s_l_weight f fd) (B : Blt mg) : FnOk P w K mg base CX0 1 f fd ["_law_rows", "_law_some"] (spF R_weight) := by
  refine F.ok sc_l_weight (fun vs H Q E h => spF_len R_weight_len h) (fun cdv A outer s H vs Q E hr h => ?_)
  have sc := sc_l_weight
  obtain ⟨p, ds, d, rfl, ok, hv, ⟨T, n, s, rfl, hP, hs, rfl⟩, kk⟩ := h
  obtain ⟨v, u, rfl, h1, h2⟩ := hv.two'
  refine ⟨_, pss_one (ps_ret (pe_callB (call_sumK K rfl) (by rfl) B.sum_ bo_sum (pa_cons (pe_lc (own := [("_law_i", 2)]) rfl sc.nd (pi_range1 (by rfl) B.range_ (pa_cons (pe_callB (call_lenK K) (by rfl) B.len_ bo_len (pa_cons (pv 0) pa_nil)) pa_nil)) (blkOk_by (own := [("_law_i", 2)]) (by show blkC n_l_weight (defScope s_l_weight) _ _ = true; decide +kernel)) (fun _ _ _ _ _ => pg_name (i := 2) sc.nd rfl (Or.inl rfl)) (fun _ _ _ _ _ => pts_nil) (fun _ _ _ _ _ => pe_ix (ix_tupK K) (pe_ix (ix_tupK K) (pv 0) (pv 2) (fun _ _ => rfl)) (pe_ix (ix_tupK K) (pv 1) (pv 2) (fun _ _ => rfl)) (fun _ _ => rfl))) pa_nil))), ?_⟩
  have hn := hP.le
  refine s_ret ok (EvD.is (ev_sum (ns := (List.range n).map fun i => (ent T i (sel s i)).getD 0) (EvN.toD (EvN.is (en_lc (List.range n) (fun e : Nat => .int (e : Int)) (fun _ => true) (fun i : Nat => .int ((ent T i (sel s i)).getD 0)) (ei_rng1 (n := n) (EvD.is (ev_lenT (ev_var (i := 0) rfl h1)) (by rw [List.length_map, hP.len])) (by omega)) (fun e he z q5 l5 hz Q2 k2 => k2 _ (by rfl) et_yes fun _ => ?_) (by rw [List.length_range]; omega)) ?_))) ?_) kk
  · have hin := List.mem_range.mp he
    obtain ⟨r, hr1, hr2, hr3⟩ := ent_at hP hin (hs.perm.sel_lt hin)
    obtain ⟨b, hb⟩ := hs.some_ e hin
    rw [hb] at hr3 ⊢
    exact ev_ixT (n := sel s e) (ev_ixT (n := e) (ev_var (i := 0) rfl (h1.up l5.d)) (ev_var (i := 2) rfl hz) (ePat_at hr1)) (ev_ixT (n := e) (ev_var (i := 1) rfl (h2.up l5.d)) (ev_var (i := 2) rfl hz) (eS_at (by rw [hs.perm.len]; exact hin))) (eRow_at hr3)
  · rw [filter_all, List.map_map]; rfl
  · unfold wt HT.sm; rfl
abbrev s_l_heaviest : Stmt := topS 41
abbrev n_l_heaviest : List Str := ["_law_rows", "_law_found", "_law_top", "_law_some"]
theorem sc_l_heaviest : FnScope n_l_heaviest ["_law_rows"] (defScope s_l_heaviest) := ⟨rfl, rfl, rfl, by decide +kernel, rfl, by decide +kernel, by decide +kernel⟩
def bestL (T : HT.Pat) (n : Nat) (W : Int) : List (List Nat) := (chsL n T).filter fun s => decide (wt T n s = W)
def R_heaviest : Rel := fun ds d => ∃ (T : HT.Pat) (n : Nat) (W : Int), ds = [ePat T] ∧ IsPat T n ∧ IsW T n W ∧ d = .tuple [.int W, .list ((bestL T n W).map eS)]
theorem R_heaviest_len : ∀ ds d, R_heaviest ds d → ds.length = 1 := fun ds d ⟨_, _, _, h, _⟩ => by rw [h]; rfl
theorem ok_heaviest {f : Addr} {fd : FuncData} (F : Fun K "_law_heaviest" "_law_heaviest" s_l_heaviest f fd) (B : Blt mg) (C_l_choices : Cal P w K mg base 1 "_law_choices" ["_law_rows"] (spF R_choices))
    (C_l_weight : Cal P w K mg base 1 "_law_weight" ["_law_rows", "_law_some"] (spF R_weight)) : FnOk P w K mg base CX0 2 f fd ["_law_rows"] (spF R_heaviest) := by
  refine F.ok sc_l_heaviest (fun vs H Q E h => spF_len R_heaviest_len h) (fun cdv A outer s H vs Q E hr h => ?_)
  have sc := sc_l_heaviest
  obtain ⟨p, ds, d, rfl, ok, hv, ⟨T, n, W, rfl, hP, hW, rfl⟩, kk⟩ := h
  obtain ⟨v, rfl, h1⟩ := hv.one'
  refine ⟨_, pss_cons (ps_set (i := 1) sc.nd rfl (Or.inl rfl) (pe_cal C_l_choices (hr.mono (by decide)) (by rfl) (pa_cons (pv 0) pa_nil)))
      (pss_cons (ps_if (pt_cmpR (op_eqDK K hr.units) (pv 1) (pe_lst (pa_nil)) (nomark _)) (pss_one (ps_ret (pe_tup (pa_cons (pe_non) (pa_cons (pe_lst (pa_nil)) pa_nil))))) (pss_nil))
      (pss_cons (ps_set (i := 2) sc.nd rfl (Or.inr rfl) (pe_callB (call_maxK K rfl) (by rfl) B.max_ bo_max (pa_cons (pe_lc (own := [("_law_some", 3)]) rfl sc.nd (pi_listK K (pv 1)) (blkOk_by (own := [("_law_some", 3)]) (by show blkC n_l_heaviest (defScope s_l_heaviest) _ _ = true; decide +kernel)) (fun _ _ _ _ _ => pg_name (i := 3) sc.nd rfl (Or.inl rfl)) (fun _ _ _ _ _ => pts_nil) (fun _ _ _ _ _ => pe_cal C_l_weight (hr.mono (by decide)) (by rfl) (pa_cons (pv 0) (pa_cons (pv 3) pa_nil)))) pa_nil)))
      (pss_one (ps_ret (pe_tup (pa_cons (pv 2) (pa_cons (pe_lc (own := [("_law_some", 3)]) rfl sc.nd (pi_listK K (pv 1)) (blkOk_by (own := [("_law_some", 3)]) (by show blkC n_l_heaviest (defScope s_l_heaviest) _ _ = true; decide +kernel)) (fun _ _ _ _ _ => pg_name (i := 3) sc.nd rfl (Or.inl rfl)) (fun _ _ _ _ _ => pts_one (pt_cmpR op_eq (pe_cal C_l_weight (hr.mono (by decide)) (by rfl) (pa_cons (pv 0) (pa_cons (pv 3) pa_nil))) (pv 2) (nomark _))) (fun _ _ _ _ _ => pv 3)) pa_nil))))))), ?_⟩
  have hn := hP.le
  have hle := chs_le hP
  obtain ⟨s0, hs0, hw0⟩ := hW.ex
  have hne : ((chsL n T).map eS).isEmpty = false := by
    cases e : chsL n T with
    | nil => have := (mem_chsL hP s0).mpr hs0; rw [e] at this; cases this
    | cons a b => rfl
  have hsh : Sh 2 (.list ((chsL n T).map eS)) := sh_lst fun s _ => sh_tup fun _ _ => sh_int _
  refine q_asg ok (ev_call (ea_cons (ev_var (i := 0) rfl h1) ea_nil) ⟨T, n, rfl, hP, rfl⟩) fun fv q l hf => ?_
  refine q_when (b := false) l.ok ((et_D (ev_eqD (ev_var (i := 1) rfl hf) (en_lst ea_nil).toD hsh.shaped sh_nilL)).is (by rw [eqv_nilL]; exact hne)) (fun z => nomatch z) fun _ q2 l2 => ?_
  have ht : ∀ {s : List Nat}, s ∈ chsL n T → IsCh T n s := fun h => (mem_chsL hP _).mp h
  refine q_asg (d := .int W) l2.ok (ev_max (ns := (chsL n T).map fun s => wt T n s) (EvN.toD (EvN.is (en_lc (chsL n T) eS (fun _ => true) (fun s => .int (wt T n s)) (ei_list (ev_var (i := 1) rfl (hf.up l2.d))) (fun s hs x q3 l3 hx Q2 k2 => k2 _ (by rfl) et_yes fun _ => ?_) (by omega)) ?_)) ⟨List.mem_map.mpr ⟨s0, (mem_chsL hP _).mpr hs0, hw0⟩, fun y hy => ?_⟩) fun tv q3 l3 htv => ?_
  · exact ev_call (ea_cons (ev_var (i := 0) rfl (h1.up ((l.trans l2).trans l3).d)) (ea_cons (ev_var (i := 3) rfl hx) ea_nil)) ⟨T, n, s, rfl, hP, ht hs, rfl⟩
  · rw [filter_all, List.map_map]; rfl
  · obtain ⟨s, hs, rfl⟩ := List.mem_map.mp hy
    exact hW.le s (ht hs)
  have l03 := (l.trans l2).trans l3
  refine s_ret l3.ok (ev_tup (ea_cons (ev_var (i := 2) rfl htv) (ea_cons (EvN.toD (en_lc (chsL n T) eS (fun s => decide (wt T n s = W)) eS (ei_list (ev_var (i := 1) rfl (hf.up (l2.trans l3).d))) (fun s hs x q4 l4 hx Q2 k2 => k2 _ (by rfl) (et_D (ev_eqI (ev_call (ea_cons (ev_var (i := 0) rfl (h1.up (l03.trans l4).d)) (ea_cons (ev_var (i := 3) rfl hx) ea_nil)) ⟨T, n, s, rfl, hP, ht hs, rfl⟩) (ev_var (i := 2) rfl (htv.up l4.d)))) fun _ => ev_var (i := 3) rfl hx) (by omega))) ea_nil))) fun v' q4 l4 h4 => kk v' q4 (l03.trans l4) h4
end
end HR

namespace HR
open PySem PySem.Spec PyProof.Rows L2
open Evl (Ex)
open HT (ent IsPat IsCh sel sm wt IsW Feas Best Offs it nx top od LeN Cols IsPerm)
theorem best_congr {T : HT.Pat} {n : Nat} {W : Int} {c d c' d' : Nat → Int} (b : Best T n W c d) (hc : ∀ i, i < n → c i = c' i) (hd : ∀ i, i < n → d i = d' i) : Best T n W c' d' :=
  ⟨fun i hi => by rw [← hc i hi]; exact b.c0 i hi, fun i hi => by rw [← hd i hi]; exact b.d0 i hi, fun i j a hi hj ha => by rw [← hc i hi, ← hd j hj]; exact b.feas i j a hi hj ha, by rw [← HT.sm_congr hc, ← HT.sm_congr hd]; exact b.span⟩
theorem settle_best {T : HT.Pat} {n : Nat} {W : Int} {s : List Nat} {c0 : Nat → Int} (hP : IsPat T n) (hW : IsW T n W) (hs : IsCh T n s) (hw : wt T n s = W) (h0 : ∀ i, i < n → 0 ≤ c0 i) (hb : ∃ c d, Best T n W c d) :
    Best T n W (it T n s c0 (n + 2)) (top T n (it T n s c0 (n + 1))) := by
  obtain ⟨c, d, hb⟩ := hb
  obtain ⟨cb, db, hb', hab⟩ := HT.exists_above (pat_nn hP) hs hb.feas hb.span c0 h0
  have st := HT.it_settles hs hw hb' hab
  have hnn : ∀ i, i < n → 0 ≤ it T n s c0 n i := fun i hi => by
    have h1 := HT.it_mono (c0 := c0) hs 0 n i hi
    rw [Nat.zero_add] at h1
    exact Int.le_trans (h0 i hi) h1
  have B := HT.fix_best hW (pat_nn hP) hs hw hnn fun i hi => st i hi
  refine best_congr B (fun i hi => ?_) fun i hi => HT.top_congr hs.cols (fun j hj => (st j hj).symm) i hi
  have h2 : it T n s c0 (n + 1) i = it T n s c0 (n + 2) i := HT.nx_congr hs (fun j hj => (st j hj).symm) i hi
  rw [← h2]; exact (st i hi).symm
theorem range_at {n i a : Nat} (h : (List.range n)[i]? = some a) : i < n ∧ a = i := by
  obtain ⟨h1, h2⟩ := List.getElem?_eq_some_iff.mp h
  rw [List.length_range] at h1
  rw [List.getElem_range] at h2
  exact ⟨h1, h2.symm⟩
theorem rows_mx {T : HT.Pat} {n j : Nat} {c : Nat → Int} (hC : Cols T n) (hj : j < n) : IsMx (((List.range n).filter fun i => (ent T i j).isSome).map fun i => c i + (ent T i j).getD 0) (top T n c j) := by
  obtain ⟨⟨i, a, hi, ha, e⟩, g⟩ := HT.top_spec (c := c) hC hj
  refine ⟨List.mem_map.mpr ⟨i, List.mem_filter.mpr ⟨List.mem_range.mpr hi, by rw [ha]; rfl⟩, by rw [ha, e]; rfl⟩, fun y hy => ?_⟩
  obtain ⟨i', hi', rfl⟩ := List.mem_map.mp hy
  rw [List.mem_filter, List.mem_range] at hi'
  obtain ⟨a', ha'⟩ := Option.isSome_iff_exists.mp hi'.2
  have := g i' a' hi'.1 ha'
  rw [ha']; exact this
section
variable {P : Program} {w : World} {K : PySem.W.Frag} {mg : Str → Option Value} {base : Heap}
abbrev s_l_best_from : Stmt := topS 42
abbrev n_l_best_from : List Str := ["_law_rows", "_law_some", "_law_start_here", "_law_n", "_law_c", "_law_turn", "_law_d", "_law_j", "_law_i"]
theorem sc_l_best_from : FnScope n_l_best_from ["_law_rows", "_law_some", "_law_start_here"] (defScope s_l_best_from) := ⟨rfl, rfl, rfl, by decide +kernel, rfl, by decide +kernel, by decide +kernel⟩
def Q_bestfrom : List PyData → (PyData → Prop) → Prop := fun ds Po => ∃ (T : HT.Pat) (n : Nat) (W : Int) (s : List Nat) (c : List Int), ds = [ePat T, eS s, .list (c.map .int)] ∧ IsPat T n ∧ IsW T n W ∧ IsCh T n s ∧ wt T n s = W ∧ c.length = n ∧ (∀ x ∈ c, 0 ≤ x) ∧ (∃ c d, Best T n W c d) ∧
  Po = fun d => ∃ c' d', d = eOff (fL n c') (fL n d') ∧ Best T n W c' d'
theorem Q_bestfrom_len : ∀ ds d, Q_bestfrom ds d → ds.length = 3 := fun ds d ⟨_, _, _, _, _, h, _⟩ => by rw [h]; rfl
theorem ok_best_from {f : Addr} {fd : FuncData} (F : Fun K "_law_best_from" "_law_best_from" s_l_best_from f fd) (B : Blt mg) : FnOk P w K mg base CX0 1 f fd ["_law_rows", "_law_some", "_law_start_here"] (spQ Q_bestfrom) := by
  refine F.ok sc_l_best_from (fun vs H Q E h => spQ_len Q_bestfrom_len h) (fun cdv A outer s H vs Q E hr h => ?_)
  have sc := sc_l_best_from
  obtain ⟨p, ds, Po, rfl, ok, hv, ⟨T, n, W, ch, c, rfl, hP, hW, hch, hw, hcl, hc0, hB, rfl⟩, kk⟩ := h
  obtain ⟨v, u, s0, rfl, h1, h2, h3⟩ := hv.three'
  refine ⟨_, pss_cons (ps_asg (pe_tup (pa_cons (pe_callB (call_lenK K) (by rfl) B.len_ bo_len (pa_cons (pv 0) pa_nil)) (pa_cons (pe_callTy (call_listK K) (by rfl) B.list_ bo_list (pa_cons (pv 2) pa_nil)) pa_nil))) (pg_tupK K (n := 2) rfl (pgs_cons (pg_name (i := 3) sc.nd rfl (Or.inl rfl)) (pgs_cons (pg_name (i := 4) sc.nd rfl (Or.inr rfl)) (pgs_nil)))))
      (pss_cons (ps_for PassesOwn.never rfl (pi_range1 (by rfl) B.range_ (pa_cons (pe_op op_add (pv 3) (pe_int)) pa_nil)) (pg_name (i := 5) sc.nd rfl (Or.inl rfl)) (pss_cons (ps_set (i := 6) sc.nd rfl (Or.inr rfl) (pe_lst (pa_nil)))
      (pss_cons (ps_for PassesOwn.never rfl (pi_range1 (by rfl) B.range_ (pa_cons (pv 3) pa_nil)) (pg_name (i := 7) sc.nd rfl (Or.inr rfl)) (pss_one (ps_expr (pe_bmK K PySem.F.plainAttrs_list PySem.F.slot_list_append PySem.F.type_list_append mt_append (pv 6) (pa_cons (pe_callB (call_maxK K rfl) (by rfl) B.max_ bo_max (pa_cons (pe_lc (own := [("_law_i", 8)]) rfl sc.nd (pi_range1 (by rfl) B.range_ (pa_cons (pv 3) pa_nil)) (blkOk_by (own := [("_law_i", 8)]) (by show blkC n_l_best_from (defScope s_l_best_from) _ _ = true; decide +kernel)) (fun _ _ _ _ _ => pg_name (i := 8) sc.nd rfl (Or.inl rfl)) (fun _ _ _ _ _ => pts_one (pt_cmpR op_notN (pe_ix (ix_tupK K) (pe_ix (ix_tupK K) (pv 0) (pv 8) (fun _ _ => rfl)) (pv 7) (fun _ _ => rfl)) (pe_non) (nomark _))) (fun _ _ _ _ _ => pe_op op_add (pe_ix (ix_listK K) (pv 4) (pv 8) (fun _ _ => rfl)) (pe_ix (ix_tupK K) (pe_ix (ix_tupK K) (pv 0) (pv 8) (fun _ _ => rfl)) (pv 7) (fun _ _ => rfl)))) pa_nil)) pa_nil)))))
      (pss_one (ps_set (i := 4) sc.nd rfl (Or.inr rfl) (pe_lc (own := [("_law_i", 8)]) rfl sc.nd (pi_range1 (by rfl) B.range_ (pa_cons (pv 3) pa_nil)) (blkOk_by (own := [("_law_i", 8)]) (by show blkC n_l_best_from (defScope s_l_best_from) _ _ = true; decide +kernel)) (fun _ _ _ _ _ => pg_name (i := 8) sc.nd rfl (Or.inl rfl)) (fun _ _ _ _ _ => pts_nil) (fun _ _ _ _ _ => pe_op op_sub (pe_ix (ix_listK K) (pv 6) (pe_ix (ix_tupK K) (pv 1) (pv 8) (fun _ _ => rfl)) (fun _ _ => rfl)) (pe_ix (ix_tupK K) (pe_ix (ix_tupK K) (pv 0) (pv 8) (fun _ _ => rfl)) (pe_ix (ix_tupK K) (pv 1) (pv 8) (fun _ _ => rfl)) (fun _ _ => rfl)))))))))
      (pss_one (ps_ret (pe_tup (pa_cons (pe_callTy (call_tupleK K) (by rfl) B.tuple_ bo_tuple (pa_cons (pv 4) pa_nil)) (pa_cons (pe_callTy (call_tupleK K) (by rfl) B.tuple_ bo_tuple (pa_cons (pv 6) pa_nil)) pa_nil)))))), ?_⟩
  have hn := hP.le
  have hC : Cols T n := hch.cols
  obtain ⟨g, hg⟩ : ∃ g : Nat → Nat → Int, g = it T n ch (fI c) := ⟨_, rfl⟩
  have hg0 : fL n (g 0) = c := by
    have e : g 0 = fI c := by rw [hg]; rfl
    rw [e, ← hcl]; exact fL_fI c
  have hgs : ∀ t, g (t + 1) = nx T n ch (g t) := fun t => by rw [hg]; rfl
  refine q_asgT ok (ev_tup (ea_cons (ev_lenT (ev_var (i := 0) rfl h1)) (ea_cons (en_lstL (ev_var (i := 2) rfl h3)).toD ea_nil))) fun v1 v2 q l d1 d2 => ?_
  rw [List.length_map, hP.len] at d1
  cases d1
  refine q_for l.ok (List.range (n + 2)) (fun e : Nat => .int (e : Int)) (ei_rng1 (n := n + 2) (EvD.is (ev_add (ev_var (i := 3) rfl (.int _)) ev_int) (by rw [Int.natCast_add]; rfl)) (by omega)) fun r lr => ?_
  refine ⟨fun t σ' q => ∃ (cv : V) (o5 dv o7 : Option V), σ' = [some v, some u, some s0, some (.int (n : Int)), some cv, o5, dv, o7, none] ∧ Le p q ∧ Kp r q ∧ Da q.1 cv (.list ((fL n (g t)).map .int)) ∧ ∀ t', t = t' + 1 → ∃ w, dv = some w ∧ Da q.1 w (.list ((fL n (top T n (g t'))).map .int)),
    ⟨v2, none, none, none, rfl, l.trans lr, .of (.refl lr.s), by rw [hg0]; exact d2.up lr.d, fun t' e => by omega⟩, fun i σ' q ⟨_, _, _, _, _, _, h, _⟩ => h, ?_, ?_⟩
  · rintro t e σ' q x q' he ⟨cv, o5, dv, o7, rfl, lq, kq, hcv, _⟩ l' hx
    have lq' := lq.trans l'
    have hcv' := hcv.up l'.d
    have h1' := h1.up lq'.d
    refine q_asgN l'.ok (en_lst ea_nil) fun F vs q2 l2 f0 f1 f2 f3 => ?_
    cases f3
    refine q_for l2.ok (List.range n) (fun e : Nat => .int (e : Int)) (ei_rng1 (n := n) (ev_var (i := 3) rfl (.int _)) (by omega)) fun r2 lr2 => ?_
    obtain ⟨g1, g2⟩ := lr2.keep f1 f2
    refine ⟨fun j σ' q => ∃ (o7 : Option V) (vs : List V), σ' = [some v, some u, some s0, some (.int (n : Int)), some cv, some x, some (.ref F), o7, none] ∧ Le q' q ∧ Kp r2 q ∧ q.1 F = none ∧ q.2 F = some (.lst vs) ∧ DaAll q.1 vs (((List.range n).take j).map fun j => .int (top T n (g t) j)),
      ⟨o7, [], rfl, l2.trans lr2, .of (.refl lr2.s), g1, g2, .nil⟩, fun i σ' q ⟨_, _, _, _, h, _⟩ => h, ?_, ?_⟩
    · rintro j e2 σ' q3 y q4 hj ⟨o7, ys, rfl, l3, k3, hF1, hF2, hys⟩ l4 hy
      obtain ⟨hjn, rfl⟩ := range_at hj
      have l34 := l3.trans l4
      obtain ⟨m1, m2⟩ := l4.keep hF1 hF2
      have hzl : ys.length ≤ n := by
        rw [hys.length, List.length_map, List.length_take, List.length_range]; omega
      refine s_app (d := .int (top T n (g t) e2)) l4.ok (n := 6) rfl m1 m2 (ev_max (EvN.toD (EvN.is (en_lc (List.range n) (fun e : Nat => .int (e : Int)) (fun i => (ent T i e2).isSome) (fun i => .int (g t i + (ent T i e2).getD 0)) (ei_rng1 (n := n) (ev_var (i := 3) rfl (.int _)) (by omega)) (fun i hi z q5 l5 hz Q2 k2 => k2 _ (by rfl) (et_D (ev_notN (o := ent T i e2) ?_)) fun hs => ?_) (by rw [List.length_range]; omega)) ?_)) (rows_mx hC hjn)) (by omega) fun z q5 mv hz hz1 hz2 => ?_
      · have hin := List.mem_range.mp hi
        obtain ⟨rw1, hr1, hr2, hr3⟩ := ent_at hP hin hjn
        exact ev_ixT (n := e2) (ev_ixT (n := i) (ev_var (i := 0) rfl (h1'.up (l34.trans l5).d)) (ev_var (i := 8) rfl hz) (ePat_at hr1)) (ev_var (i := 7) rfl (hy.up l5.d)) (eRow_at hr3)
      · have hin := List.mem_range.mp hi
        obtain ⟨rw1, hr1, hr2, hr3⟩ := ent_at hP hin hjn
        obtain ⟨b, hb⟩ := Option.isSome_iff_exists.mp hs
        rw [hb] at hr3 ⊢
        exact ev_add (ev_ixL (n := i) (ev_var (i := 4) rfl (hcv'.up (l34.trans l5).d)) (ev_var (i := 8) rfl hz) (eI_at (fL_at hin))) (ev_ixT (n := e2) (ev_ixT (n := i) (ev_var (i := 0) rfl (h1'.up (l34.trans l5).d)) (ev_var (i := 8) rfl hz) (ePat_at hr1)) (ev_var (i := 7) rfl (hy.up l5.d)) (eRow_at hr3))
      · rw [List.map_map]; rfl
      · refine ⟨q5, rfl, some y, _, rfl, mv.le l34 (fun b hb => by rw [hb]; exact f0), mv.kp (k3.trans (.of l4)), hz1, hz2, ?_⟩
        rw [take_snoc hj, List.map_append]
        exact (hys.up (l4.d.trans mv.d)).append (.one hz)
    · rintro σ' q3 ⟨o7, ys, rfl, l3, k3, hF1, hF2, hys⟩
      rw [List.take_of_length_le (by rw [List.length_range]; exact Nat.le_refl _)] at hys
      have lf := l3.frz f0 hF1 hF2
      have hdv : Da (upd q3.1 F (.lst ys)) (.ref F) (.list ((fL n (top T n (g t))).map .int)) := by
        unfold fL
        rw [List.map_map]
        exact .new hF1 hys
      refine s_asg (p := (upd q3.1 F (.lst ys), q3.2)) (d := .list ((fL n (g (t + 1))).map .int)) lf.ok (EvN.toD (EvN.is (en_lc (List.range n) (fun e : Nat => .int (e : Int)) (fun _ => true) (fun i : Nat => .int (g (t + 1) i)) (ei_rng1 (n := n) (ev_var (i := 3) rfl (.int _)) (by omega)) (fun i hi z q5 l5 hz Q2 k2 => k2 _ (by rfl) et_yes fun _ => ?_) (by rw [List.length_range]; omega)) ?_)) fun v' q5 l5 h5 => ?_
      · have hin := List.mem_range.mp hi
        have hsl := hch.perm.sel_lt hin
        obtain ⟨rw1, hr1, hr2, hr3⟩ := ent_at hP hin hsl
        rw [HT.od_of hch hin] at hr3
        have hix : ∀ {q6 : Two}, Le (upd q3.1 F (.lst ys), q3.2) q6 → EvD (tOp (rIxT K) (tVar 1) (tVar 8)) ((wipe [some v, some u, some s0, some (V.int (n : Int)), some cv, some x, some (V.ref F), o7, none] [8]).set 8 (some z)) q5 (.int ((sel ch i : Nat) : Int)) := fun _ => ev_ixT (n := i) (ev_var (i := 1) rfl (h2.up (lq'.trans (lf.trans l5)).d)) (ev_var (i := 8) rfl hz) (eS_at (by rw [hch.perm.len]; exact hin))
        rw [hgs]
        exact ev_sub (ev_ixL (n := sel ch i) (ev_var (i := 6) rfl (hdv.up l5.d)) (hix l5) (eI_at (fL_at hsl))) (ev_ixT (n := sel ch i) (ev_ixT (n := i) (ev_var (i := 0) rfl (h1'.up (lf.trans l5).d)) (ev_var (i := 8) rfl hz) (ePat_at hr1)) (hix l5) (eRow_at hr3))
      · rw [filter_all]; unfold fL; rw [List.map_map]; rfl
      · refine ⟨q5, rfl, v', some x, some (.ref F), o7, rfl, lq'.trans (lf.trans l5), (kq.trans (.of l')).trans (.of (lf.trans l5)), h5, fun t' e => ?_⟩
        have e : t' = t := by omega
        subst e
        exact ⟨_, rfl, hdv.up l5.d⟩
  · rintro σ' q ⟨cv, o5, dv, o7, rfl, lq, kq, hcv, hd⟩
    rw [List.length_range] at hcv hd
    obtain ⟨w1, rfl, hw1⟩ := hd (n + 1) rfl
    refine s_ret (d := eOff (fL n (g (n + 2))) (fL n (top T n (g (n + 1))))) lq.ok (ev_tup (ea_cons (ev_tupL (ev_var (i := 4) rfl hcv)) (ea_cons (ev_tupL (ev_var (i := 6) rfl hw1)) ea_nil))) fun v' q3 l3 h3 => kk v' q3 _ (lq.trans l3) h3 ⟨_, _, rfl, ?_⟩
    rw [hg]
    exact settle_best hP hW hch hw (fun i hi => hc0 _ (by
      have h4 := fI_at (c := c) (i := i) (by rw [hcl]; exact hi)
      exact List.mem_of_getElem? h4)) hB
abbrev s_l_together : Stmt := topS 46
abbrev n_l_together : List Str := ["_law_one", "_law_two", "_law_is_less", "_law_sides", "_law_k", "_law_pairs_now", "_law_i", "_law_each"]
theorem sc_l_together : FnScope n_l_together ["_law_one", "_law_two", "_law_is_less"] (defScope s_l_together) := ⟨rfl, rfl, rfl, by decide +kernel, rfl, by decide +kernel, by decide +kernel⟩
def mm (b : Bool) (x y : Int) : Int := if b then min x y else max x y
def mmL (b : Bool) (n : Nat) (xs ys : List Int) : List Int := fL n fun i => mm b (fI xs i) (fI ys i)
def R_tog : Rel := fun ds d => ∃ (n : Nat) (b : Bool) (c e c' e' : List Int), ds = [eOff c e, eOff c' e', .bool b] ∧ n ≤ 100 ∧ c.length = n ∧ e.length = n ∧ c'.length = n ∧ e'.length = n ∧ d = eOff (mmL b n c c') (mmL b n e e')
theorem R_tog_len : ∀ ds d, R_tog ds d → ds.length = 3 := fun ds d ⟨_, _, _, _, _, _, h, _⟩ => by rw [h]; rfl
theorem ok_together {f : Addr} {fd : FuncData} (F : Fun K "_law_together" "_law_together" s_l_together f fd) (B : Blt mg) : FnOk P w K mg base CX0 1 f fd ["_law_one", "_law_two", "_law_is_less"] (spF R_tog) := by
  refine F.ok sc_l_together (fun vs H Q E h => spF_len R_tog_len h) (fun cdv A outer s H vs Q E hr h => ?_)
  have sc := sc_l_together
  obtain ⟨p, ds, d, rfl, ok, hv, ⟨n, b, c, e, c', e', rfl, hn, hc, he, hc', he', rfl⟩, kk⟩ := h
  obtain ⟨v, u, t, rfl, h1, h2, h3⟩ := hv.three'
  refine ⟨_, pss_cons (ps_set (i := 3) sc.nd rfl (Or.inl rfl) (pe_lst (pa_nil)))
      (pss_cons (ps_for PassesOwn.never rfl (pi_tupK K (pe_tup (pa_cons (pe_int) (pa_cons (pe_int) pa_nil)))) (pg_name (i := 4) sc.nd rfl (Or.inr rfl)) (pss_cons (ps_setLc (i := 5) (own := [("_law_i", 6)]) rfl sc.nd rfl rfl (sw_true rfl rfl rfl (by decide +kernel)) (pi_range1 (by rfl) B.range_ (pa_cons (pe_callB (call_lenK K) (by rfl) B.len_ bo_len (pa_cons (pe_ix (ix_tupK K) (pv 0) (pv 4) (fun _ _ => rfl)) pa_nil)) pa_nil)) (blkOk_by (own := [("_law_i", 6)]) (by show blkC n_l_together (defScope s_l_together) _ _ = true; decide +kernel)) (fun _ _ _ _ _ => pg_name (i := 6) sc.nd rfl (Or.inl rfl)) (fun _ _ _ _ _ => pts_nil) (fun _ _ _ _ _ => pe_tup (pa_cons (pe_ix (ix_tupK K) (pe_ix (ix_tupK K) (pv 0) (pv 4) (fun _ _ => rfl)) (pv 6) (fun _ _ => rfl)) (pa_cons (pe_ix (ix_tupK K) (pe_ix (ix_tupK K) (pv 1) (pv 4) (fun _ _ => rfl)) (pv 6) (fun _ _ => rfl)) pa_nil))))
      (pss_one (ps_expr (pe_bmK K PySem.F.plainAttrs_list PySem.F.slot_list_append PySem.F.type_list_append mt_append (pv 3) (pa_cons (pe_callTy (call_tupleK K) (by rfl) B.tuple_ bo_tuple (pa_cons (pe_lc (own := [("_law_each", 7)]) rfl sc.nd (pi_listK K (pv 5)) (blkOk_by (own := [("_law_each", 7)]) (by show blkC n_l_together (defScope s_l_together) _ _ = true; decide +kernel)) (fun _ _ _ _ _ => pg_name (i := 7) sc.nd rfl (Or.inl rfl)) (fun _ _ _ _ _ => pts_nil) (fun _ _ _ _ _ => pe_ifExp (pt_val (pv 2)) (pe_callB (call_minTK K rfl hr.units) (by rfl) B.min_ bo_min (pa_cons (pv 7) pa_nil)) (pe_callB (call_maxTK K rfl hr.units) (by rfl) B.max_ bo_max (pa_cons (pv 7) pa_nil)))) pa_nil)) pa_nil))))))
      (pss_one (ps_ret (pe_callTy (call_tupleK K) (by rfl) B.tuple_ bo_tuple (pa_cons (pv 3) pa_nil))))), ?_⟩
  refine q_asgN ok (en_lst ea_nil) fun F vs q0 l0 f0 f1 f2 f3 => ?_
  cases f3
  refine q_for l0.ok [0, 1] (fun e : Nat => .int (e : Int)) (EvI.is (ei_tup (ev_tup (ea_cons ev_int (ea_cons ev_int ea_nil)))) rfl) fun r lr => ?_
  obtain ⟨g1, g2⟩ := lr.keep f1 f2
  refine ⟨fun i σ' q => ∃ (o4 o5 : Option V) (vs : List V), σ' = [some v, some u, some t, some (.ref F), o4, o5, none, none] ∧ Le p q ∧ Kp r q ∧ q.1 F = none ∧ q.2 F = some (.lst vs) ∧ DaAll q.1 vs ([eIs (mmL b n c c'), eIs (mmL b n e e')].take i),
    ⟨none, none, [], rfl, l0.trans lr, .of (.refl lr.s), g1, g2, .nil⟩, fun i σ' q ⟨_, _, _, _, _, h, _⟩ => h, ?_, ?_⟩
  · rintro i k σ' q x q' hk ⟨o4, o5, ys, rfl, lq, kq, hF1, hF2, hys⟩ l' hx
    obtain ⟨X, Y, hX1, hX2, hX3, hY2, hZ⟩ : ∃ X Y : List Int, [eIs c, eIs e][k]? = some (eIs X) ∧ X.length = n ∧ [eIs c', eIs e'][k]? = some (eIs Y) ∧ Y.length = n ∧ [eIs (mmL b n c c'), eIs (mmL b n e e')][i]? = some (eIs (mmL b n X Y)) := by
      obtain _ | _ | i := i
      · cases hk; exact ⟨c, c', rfl, hc, rfl, hc', rfl⟩
      · cases hk; exact ⟨e, e', rfl, he, rfl, he', rfl⟩
      · cases hk
    have hil : i < 2 := (List.getElem?_eq_some_iff.mp hk).1
    have lq' := lq.trans l'
    have hone : ∀ {σ : L2.St} {q3 : Two}, Le q' q3 → σ[0]? = some (some v) → σ[4]? = some (some x) → EvD (tOp (rIxT K) (tVar 0) (tVar 4)) σ q3 (eIs X) := fun l3 e1 e2 => ev_ixT (n := k) (ev_var (i := 0) e1 (h1.up (lq'.trans l3).d)) (ev_var (i := 4) e2 (hx.up l3.d)) hX1
    have htwo : ∀ {σ : L2.St} {q3 : Two}, Le q' q3 → σ[1]? = some (some u) → σ[4]? = some (some x) → EvD (tOp (rIxT K) (tVar 1) (tVar 4)) σ q3 (eIs Y) := fun l3 e1 e2 => ev_ixT (n := k) (ev_var (i := 1) e1 (h2.up (lq'.trans l3).d)) (ev_var (i := 4) e2 (hx.up l3.d)) hX3
    refine q_asg (d := .list ((List.range n).map fun i => .tuple [.int (fI X i), .int (fI Y i)])) l'.ok (EvN.toD (EvN.is (en_lc (List.range n) (fun e : Nat => .int (e : Int)) (fun _ => true) (fun i => .tuple [.int (fI X i), .int (fI Y i)]) (ei_rng1 (n := n) (EvD.is (ev_lenT (hone (.refl l'.ok) rfl rfl)) (by rw [List.length_map, hX2])) (by omega)) (fun i hi z q3 l3 hz Q2 k2 => k2 _ (by rfl) et_yes fun _ => ?_) (by rw [List.length_range]; omega)) (by rw [filter_all]))) fun pv' q3 l3 hp => ?_
    · have hin := List.mem_range.mp hi
      exact ev_tup (ea_cons (ev_ixT (n := i) (hone l3 rfl rfl) (ev_var (i := 6) rfl hz) (eI_at (fI_at (by rw [hX2]; exact hin)))) (ea_cons (ev_ixT (n := i) (htwo l3 rfl rfl) (ev_var (i := 6) rfl hz) (eI_at (fI_at (by rw [hY2]; exact hin)))) ea_nil))
    obtain ⟨m1, m2⟩ := (l'.trans l3).keep hF1 hF2
    have hzl : ys.length ≤ 2 := by
      rw [hys.length, List.length_take]
      exact Nat.min_le_right _ _
    refine s_app (d := eIs (mmL b n X Y)) l3.ok (n := 3) rfl m1 m2 (ev_tupL (EvN.toD (EvN.is (en_lc (List.range n) (fun i => .tuple [.int (fI X i), .int (fI Y i)]) (fun _ => true) (fun i => .int (mm b (fI X i) (fI Y i))) (ei_list (ev_var (i := 5) rfl hp)) (fun i hi z q5 l5 hz Q2 k2 => k2 _ (by rfl) et_yes fun _ => ?_) (by rw [List.length_range]; omega)) ?_))) (by omega) fun z q5 mv hz hz1 hz2 => ?_
    · exact ev_if (b := b) (et_B (ev_var (i := 2) rfl (h3.up (lq'.trans (l3.trans l5)).d))) (fun hb => EvD.is (ev_minP (ev_var (i := 7) rfl hz)) (by rw [hb]; rfl)) fun hb => EvD.is (ev_maxP (ev_var (i := 7) rfl hz)) (by rw [hb]; rfl)
    · rw [filter_all]; unfold mmL fL; rw [List.map_map]; rfl
    · refine ⟨q5, rfl, _, _, _, rfl, mv.le (lq'.trans l3) (fun b hb => by rw [hb]; exact f0), mv.kp ((kq.trans (.of l')).trans (.of l3)), hz1, hz2, ?_⟩
      rw [take_snoc hZ]
      exact (hys.up ((l'.d.trans l3.d).trans mv.d)).append (.one hz)
  · rintro σ' q ⟨o4, o5, ys, rfl, lq, kq, hF1, hF2, hys⟩
    have lf := lq.frz f0 hF1 hF2
    exact s_ret (p := (upd q.1 F (.lst ys), q.2)) (d := eOff (mmL b n c c') (mmL b n e e')) lf.ok (ev_tupL (ev_var (i := 3) rfl (.new hF1 hys))) fun v' q3 l3 h3 => kk v' q3 (lf.trans l3) h3
abbrev s_l_is_from : Stmt := topS 47
abbrev n_l_is_from : List Str := ["_law_some", "_law_least", "_law_numbers", "_law_ends", "_law_k"]
theorem sc_l_is_from : FnScope n_l_is_from ["_law_some", "_law_least"] (defScope s_l_is_from) := ⟨rfl, rfl, rfl, by decide +kernel, rfl, by decide +kernel, by decide +kernel⟩
def R_from : Rel := fun ds d => ∃ (c e c' e' : List Int), ds = [eOff c e, eOff c' e'] ∧ c.length ≤ 100 ∧ e.length ≤ 100 ∧ c'.length = c.length ∧ e'.length = e.length ∧ (∀ i, i < c.length → fI c' i ≤ fI c i) ∧ (∀ i, i < e.length → fI e' i ≤ fI e i) ∧ d = .bool true
theorem R_from_len : ∀ ds d, R_from ds d → ds.length = 2 := fun ds d ⟨_, _, _, _, h, _⟩ => by rw [h]; rfl
theorem fI_app {c e : List Int} {k : Nat} : fI (c ++ e) k = if k < c.length then fI c k else fI e (k - c.length) := by
  unfold fI
  by_cases h : k < c.length
  · rw [if_pos h, List.getD_eq_getElem?_getD, List.getElem?_append_left h, ← List.getD_eq_getElem?_getD]
  · rw [if_neg h, List.getD_eq_getElem?_getD, List.getElem?_append_right (by omega), ← List.getD_eq_getElem?_getD]
theorem ok_is_from {f : Addr} {fd : FuncData} (F : Fun K "_law_is_from" "_law_is_from" s_l_is_from f fd) (B : Blt mg) : FnOk P w K mg base CX0 1 f fd ["_law_some", "_law_least"] (spF R_from) := by
  refine F.ok sc_l_is_from (fun vs H Q E h => spF_len R_from_len h) (fun cdv A outer s H vs Q E hr h => ?_)
  have sc := sc_l_is_from
  obtain ⟨p, ds, d, rfl, ok, hv, ⟨c, e, c', e', rfl, hz1, hz2, hc, he, hle1, hle2, rfl⟩, kk⟩ := h
  obtain ⟨v, u, rfl, h1, h2⟩ := hv.two'
  refine ⟨_, pss_cons (ps_asg (pe_tup (pa_cons (pe_op (op_catAK K) (pe_ix (ix_tupK K) (pv 0) (pe_int) (fun _ _ => rfl)) (pe_ix (ix_tupK K) (pv 0) (pe_int) (fun _ _ => rfl))) (pa_cons (pe_op (op_catAK K) (pe_ix (ix_tupK K) (pv 1) (pe_int) (fun _ _ => rfl)) (pe_ix (ix_tupK K) (pv 1) (pe_int) (fun _ _ => rfl))) pa_nil))) (pg_tupK K (n := 2) rfl (pgs_cons (pg_name (i := 2) sc.nd rfl (Or.inr rfl)) (pgs_cons (pg_name (i := 3) sc.nd rfl (Or.inr rfl)) (pgs_nil)))))
      (pss_one (ps_ret (pe_cmpR (op_eqDK K hr.units) (pe_lc (own := [("_law_k", 4)]) rfl sc.nd (pi_range1 (by rfl) B.range_ (pa_cons (pe_callB (call_lenK K) (by rfl) B.len_ bo_len (pa_cons (pv 2) pa_nil)) pa_nil)) (blkOk_by (own := [("_law_k", 4)]) (by show blkC n_l_is_from (defScope s_l_is_from) _ _ = true; decide +kernel)) (fun _ _ _ _ _ => pg_name (i := 4) sc.nd rfl (Or.inl rfl)) (fun _ _ _ _ _ => pts_one (pt_cmpR op_lt (pe_ix (ix_tupK K) (pv 2) (pv 4) (fun _ _ => rfl)) (pe_ix (ix_tupK K) (pv 3) (pv 4) (fun _ _ => rfl)) (nomark _))) (fun _ _ _ _ _ => pv 4)) (pe_lst (pa_nil)) (nomark _)))), ?_⟩
  refine q_asgT ok (ev_tup (ea_cons (ev_catT (ev_ixT (n := 0) (ev_var (i := 0) rfl h1) ev_int rfl) (ev_ixT (n := 1) (ev_var (i := 0) rfl h1) ev_int rfl) ?_) (ea_cons (ev_catT (ev_ixT (n := 0) (ev_var (i := 1) rfl h2) ev_int rfl) (ev_ixT (n := 1) (ev_var (i := 1) rfl h2) ev_int rfl) ?_) ea_nil))) fun v1 v2 q l d1 d2 => ?_
  · rw [List.length_map, List.length_map]; omega
  · rw [List.length_map, List.length_map]; omega
  rw [← List.map_append] at d1 d2
  have hN : (c ++ e).length = c.length + e.length := List.length_append
  have hE : (c' ++ e').length = c.length + e.length := by rw [List.length_append, hc, he]
  have hnil : (List.range (c ++ e).length).filter (fun k => decide (fI (c ++ e) k < fI (c' ++ e') k)) = [] := by
    rw [List.filter_eq_nil_iff]
    intro k hk
    have hk := List.mem_range.mp hk
    rw [hN] at hk
    rw [decide_eq_true_eq, fI_app, fI_app, hc]
    by_cases q : k < c.length
    · rw [if_pos q, if_pos q]; have := hle1 k q; omega
    · rw [if_neg q, if_neg q]; have := hle2 (k - c.length) (by omega); omega
  have hlc : EvN (tLc (iRng1 (tCons (tCB (rLen K) (tCons (tVar 2) tNil)) tNil)) (gName 4) (tTest (tOp (rI0 fun i j => .bl (decide (i < j))) (tOp (rIxT K) (tVar 2) (tVar 4)) (tOp (rIxT K) (tVar 3) (tVar 4)))) (tVar 4) [4]) [some v, some u, some v1, some v2, none] q [] := by
    refine EvN.is (en_lc (List.range (c ++ e).length) (fun e : Nat => .int (e : Int)) (fun k => decide (fI (c ++ e) k < fI (c' ++ e') k)) (fun e : Nat => .int (e : Int)) (ei_rng1 (n := (c ++ e).length) (EvD.is (ev_lenT (ev_var (i := 2) rfl d1)) (by rw [List.length_map])) (by omega)) (fun k hk z q5 l5 hz Q2 k2 => k2 _ (by rfl) (et_D (ev_lt (ev_ixT (n := k) (ev_var (i := 2) rfl (d1.up l5.d)) (ev_var (i := 4) rfl hz) (eI_at (fI_at (List.mem_range.mp hk)))) (ev_ixT (n := k) (ev_var (i := 3) rfl (d2.up l5.d)) (ev_var (i := 4) rfl hz) (eI_at (fI_at ?_))))) fun _ => ev_var (i := 4) rfl hz) (by rw [List.length_range]; omega)) ?_
    · have := List.mem_range.mp hk
      rw [hE]; omega
    · rw [hnil]; rfl
  exact s_ret l.ok (EvD.is (ev_eqD hlc.toD (en_lst ea_nil).toD sh_nilL sh_nilL) (by rw [eqv_nilL]; rfl)) fun v' q3 l3 h3 => kk v' q3 (l.trans l3) h3
end
end HR

namespace HR
open PySem PySem.Spec PyProof.Rows L2
open Evl (Ex)
open HT (ent IsPat IsCh sel sm wt IsW Feas Best Offs it nx top od LeN Cols IsPerm)
theorem exists_mx : ∀ {ns : List Int}, ns ≠ [] → ∃ m, IsMx ns m
  | [], h => absurd rfl h
  | [a], _ => ⟨a, by simp, fun y hy => by simp at hy; omega⟩
  | a :: b :: r, _ => by
    obtain ⟨m, h1, h2⟩ := exists_mx (ns := b :: r) (by simp)
    by_cases q : m ≤ a
    · exact ⟨a, List.mem_cons_self .., fun y hy => by
        rcases List.mem_cons.mp hy with e | e
        · omega
        · have := h2 y e; omega⟩
    · exact ⟨m, List.mem_cons_of_mem _ h1, fun y hy => by
        rcases List.mem_cons.mp hy with e | e
        · omega
        · exact h2 y e⟩
theorem fI_snoc {c : List Int} {x : Int} {k : Nat} : fI (c ++ [x]) k = if k < c.length then fI c k else if k = c.length then x else 0 := by
  rw [fI_app]
  by_cases h : k < c.length
  · rw [if_pos h, if_pos h]
  · rw [if_neg h, if_neg h]
    unfold fI
    by_cases e : k = c.length
    · subst e; rw [if_pos rfl, Nat.sub_self]; rfl
    · rw [if_neg e, List.getD_eq_getElem?_getD, List.getElem?_eq_none (by simp; omega)]; rfl
section
variable {K : PySem.W.Frag} {a L : Addr} {p q r : Two} {σ : L2.St} {te ta tb tm t1 t2 : TE} {Po P1 : PyData → Prop} {ds es : List PyData} {D : Ends} {tz : TS}
/-- x, y = two new lists -/
theorem q_asgNN {n m : Nat} (ok : Ok p) (h1 : EvN t1 σ p ds) (h2 : EvN t2 σ p es) (k : ∀ F G vs us q, Le p q → p.2 F = none → p.2 G = none → F ≠ G → q.1 F = none → q.1 G = none → q.2 F = some (.lst vs) → q.2 G = some (.lst us) → DaAll q.1 vs ds → DaAll q.1 us es → tz D ((σ.set n (some (.ref F))).set m (some (.ref G))) q.2) :
    tSeq (tAsg (tTup (tCons t1 (tCons t2 tNil))) (gTup K 2 (gCons (gName n) (gCons (gName m) gNil)))) tz D σ p.2 :=
  h1 p (.refl ok) _ fun F vs q1 l1 f0 f1 f2 f3 => h2 q1 l1 _ fun G us q2 l2 g0 g1 g2 g3 => ⟨Evl.sz_of (by simp), fun z hz => by
    have l3 : Le q2 (q2.1, upd q2.2 z (.tup [.ref F, .ref G])) := .newM l2.ok hz
    have ne : F ≠ G := fun e => by rw [← e, f2] at g0; cases g0
    have k1 := (l2.trans l3).keep f1 f2
    have k2 := l3.keep g1 g2
    refine ⟨z, _, rfl, .of upd_same, rfl, _, _, rfl, _, _, rfl, rfl, ?_⟩
    exact k F G vs us (q2.1, upd q2.2 z (.tup [.ref F, .ref G])) ((l1.trans l2).trans l3) f0 (ex_free l1.h g0) ne k1.1 k2.1 k1.2 k2.2 (f3.up l2.d) g3⟩
theorem em_addM {i : Int} (ha : ∀ q, Mw a p q → EvD ta σ q (.int i)) (hb : EvM a tb σ p Po) (hP : ∀ d, Po d → ∃ j : Int, d = .int j ∧ P1 (.int (i + j))) : EvM a (tOp (rI0 fun i j => .int (i + j)) ta tb) σ p P1 := fun q m Q k =>
  ha q m q (.refl m.ok) _ fun v r l hv => hb r (m.le l) _ fun u r2 d m2 hu hd => by
    obtain ⟨j, rfl, hj⟩ := hP d hd
    cases hv; cases hu
    exact ⟨i, j, rfl, rfl, k _ r2 _ (.pre l m2) (.int _) hj⟩
end
section
variable {P : Program} {w : World} {K : PySem.W.Frag} {mg : Str → Option Value} {base : Heap}
abbrev s_l_any_offsets : Stmt := topS 45
abbrev n_l_any_offsets : List Str := ["_law_well_here", "_law_rows", "_law_c", "_law_d", "_law_i", "_law_j", "_law_least"]
theorem sc_l_any_offsets : FnScope n_l_any_offsets ["_law_well_here", "_law_rows"] (defScope s_l_any_offsets) := ⟨rfl, rfl, rfl, by decide +kernel, rfl, by decide +kernel, by decide +kernel⟩
def R_anyoff : List PyData → (PyData → Prop) → Prop := fun ds Po => ∃ (T : HT.Pat) (n : Nat), ds = [ePat T] ∧ IsPat T n ∧ Po = fun d => ∃ c e, d = eOff c e ∧ IsOff T n c e
theorem R_anyoff_len : ∀ ds d, R_anyoff ds d → ds.length = 1 := fun ds d ⟨_, _, h, _⟩ => by rw [h]; rfl
theorem ok_any_offsets {f : Addr} {fd : FuncData} (F : Fun K "_law_any_offsets" "_law_any_offsets" s_l_any_offsets f fd) (B : Blt mg) (C_l_draw : Cal P w K mg base 1 "_law_draw" ["_law_well_here", "_law_many"] (spW R_draw)) (C_l_pick : Cal P w K mg base 2 "_law_pick" ["_law_well_here", "_law_some"] (spW R_pick)) :
    FnOk P w K mg base CX0 3 f fd ["_law_well_here", "_law_rows"] (spW R_anyoff) := by
  refine F.ok sc_l_any_offsets (fun vs H Q E h => spW_len R_anyoff_len h) (fun cdv A outer s H vs Q E hr h => ?_)
  have sc := sc_l_any_offsets
  obtain ⟨p, a, us, ds, Po, rfl, ok, rfl, hv, ⟨T, n, rfl, hP, rfl⟩, hw, kk⟩ := h
  obtain ⟨v, rfl, h1⟩ := hv.one'
  refine ⟨_, pss_cons (ps_asg (pe_tup (pa_cons (pe_lst (pa_nil)) (pa_cons (pe_lst (pa_nil)) pa_nil))) (pg_tupK K (n := 2) rfl (pgs_cons (pg_name (i := 2) sc.nd rfl (Or.inr rfl)) (pgs_cons (pg_name (i := 3) sc.nd rfl (Or.inl rfl)) (pgs_nil)))))
      (pss_cons (ps_for PassesOwn.never rfl (pi_range1 (by rfl) B.range_ (pa_cons (pe_callB (call_lenK K) (by rfl) B.len_ bo_len (pa_cons (pv 1) pa_nil)) pa_nil)) (pg_name (i := 4) sc.nd rfl (Or.inl rfl)) (pss_one (ps_expr (pe_bmK K PySem.F.plainAttrs_list PySem.F.slot_list_append PySem.F.type_list_append mt_append (pv 2) (pa_cons (pe_cal C_l_draw (hr.mono (by decide)) (by rfl) (pa_cons (pv 0) (pa_cons (pe_int) pa_nil))) pa_nil)))))
      (pss_cons (ps_for PassesOwn.never rfl (pi_range1 (by rfl) B.range_ (pa_cons (pe_callB (call_lenK K) (by rfl) B.len_ bo_len (pa_cons (pv 1) pa_nil)) pa_nil)) (pg_name (i := 5) sc.nd rfl (Or.inr rfl)) (pss_cons (ps_set (i := 6) sc.nd rfl (Or.inl rfl) (pe_callB (call_maxK K rfl) (by rfl) B.max_ bo_max (pa_cons (pe_op op_cat (pe_lst (pa_cons (pe_int) pa_nil)) (pe_lc (own := [("_law_i", 4)]) rfl sc.nd (pi_range1 (by rfl) B.range_ (pa_cons (pe_callB (call_lenK K) (by rfl) B.len_ bo_len (pa_cons (pv 1) pa_nil)) pa_nil)) (blkOk_by (own := [("_law_i", 4)]) (by show blkC n_l_any_offsets (defScope s_l_any_offsets) _ _ = true; decide +kernel)) (fun _ _ _ _ _ => pg_name (i := 4) sc.nd rfl (Or.inl rfl)) (fun _ _ _ _ _ => pts_one (pt_cmpR op_notN (pe_ix (ix_tupK K) (pe_ix (ix_tupK K) (pv 1) (pv 4) (fun _ _ => rfl)) (pv 5) (fun _ _ => rfl)) (pe_non) (nomark _))) (fun _ _ _ _ _ => pe_op op_add (pe_ix (ix_listK K) (pv 2) (pv 4) (fun _ _ => rfl)) (pe_ix (ix_tupK K) (pe_ix (ix_tupK K) (pv 1) (pv 4) (fun _ _ => rfl)) (pv 5) (fun _ _ => rfl))))) pa_nil)))
      (pss_one (ps_expr (pe_bmK K PySem.F.plainAttrs_list PySem.F.slot_list_append PySem.F.type_list_append mt_append (pv 3) (pa_cons (pe_op op_add (pv 6) (pe_cal C_l_pick (hr.mono (by decide)) (by rfl) (pa_cons (pv 0) (pa_cons (pe_tup (pa_cons (pe_int) (pa_cons (pe_int) (pa_cons (pe_int) (pa_cons (pe_int) (pa_cons (pe_int) pa_nil)))))) pa_nil)))) pa_nil))))))
      (pss_one (ps_ret (pe_tup (pa_cons (pe_callTy (call_tupleK K) (by rfl) B.tuple_ bo_tuple (pa_cons (pv 2) pa_nil)) (pa_cons (pe_callTy (call_tupleK K) (by rfl) B.tuple_ bo_tuple (pa_cons (pv 3) pa_nil)) pa_nil))))))), ?_⟩
  have hn := hP.le
  have hlen : ∀ {q : Two} {σ : L2.St}, σ[1]? = some (some v) → Ex p.1 q.1 → EvD (tCB (rLen K) (tCons (tVar 1) tNil)) σ q (.int (n : Int)) := fun e x => (ev_lenT (ev_var (i := 1) e (h1.up x))).is (by rw [List.length_map, hP.len])
  refine q_asgNN ok (en_lst ea_nil) (en_lst ea_nil) fun F G vs us q0 l0 f0 g0 fg f1 g1 f2 g2 f3 g3 => ?_
  cases f3; cases g3
  have hneF : F ≠ a := hw.ne' f0
  have hneG : G ≠ a := hw.ne' g0
  refine q_for l0.ok (List.range n) (fun e : Nat => .int (e : Int)) (ei_rng1 (hlen rfl l0.d) (by omega)) fun r lr => ?_
  have kF := lr.keep f1 f2
  have kG := lr.keep g1 g2
  refine ⟨fun i σ' q => ∃ (c : List Int) (o4 : Option V), σ' = [some (.ref a), some v, some (.ref F), some (.ref G), o4, none, none] ∧ Mw a p q ∧ Kp r q ∧ q.1 F = none ∧ q.2 F = some (.lst (c.map V.int)) ∧ q.1 G = none ∧ q.2 G = some (.lst []) ∧ c.length = i ∧ ∀ x ∈ c, 0 ≤ x,
    ⟨[], none, rfl, .of hw (l0.trans lr), .of (.refl lr.s), kF.1, kF.2, kG.1, kG.2, rfl, fun x hx => (by cases hx)⟩, fun i σ' q ⟨_, _, _, _, h, _⟩ => h, ?_, ?_⟩
  · rintro i e σ' q x q' he ⟨c, o4, rfl, mq, kq, hF1, hF2, hG1, hG2, hcl, hc⟩ l' hx
    obtain ⟨hi, rfl⟩ := range_at he
    have y := l'.keep hF1 hF2
    have y' := l'.keep hG1 hG2
    have mq' := mq.le l'
    refine s_appM (n := 2) l'.ok mq'.w rfl hneF y.1 y.2 (em_call (i := 0) rfl (fun q m => ea_cons ev_int ea_nil) ⟨4, rfl, by omega, by omega, rfl⟩) (by rw [List.length_map]; omega) fun u z d m3 wz hv3 hd w1 w2 => ?_
    obtain ⟨k, rfl, hk⟩ := hd
    cases hv3
    have yG := m3.keep (fun e => e.elim hneG fun e => fg e.symm) y'.1 y'.2
    refine ⟨z, rfl, c ++ [(k : Int)], _, rfl, mq'.app m3 wz f0, (kq.trans (.of l')).trans m3.kp', w1, ?_, yG.1, yG.2, ?_, fun y hy => ?_⟩
    · rw [w2, List.map_append]; rfl
    · rw [List.length_append, hcl]; rfl
    · rcases List.mem_append.mp hy with h | h
      · exact hc y h
      · rw [List.mem_singleton.mp h]; omega
  · rintro σ' q ⟨c, o4, rfl, mq, kq, hF1, hF2, hG1, hG2, hcl, hc⟩
    rw [List.length_range] at hcl
    have mf := mq.frz f0 hneF hF1 hF2
    have hcd : Da (upd q.1 F (.lst (c.map V.int))) (.ref F) (.list (c.map .int)) := .new hF1 (DaAll.ofInts c)
    have hG1' : upd q.1 F (.lst (c.map V.int)) G = none := by rw [upd_ne fun e => fg e.symm]; exact hG1
    have hcpos : ∀ i, i < n → 0 ≤ fI c i := fun i hi => hc _ (List.mem_of_getElem? (fI_at (c := c) (i := i) (by rw [hcl]; exact hi)))
    refine q_for (p := (upd q.1 F (.lst (c.map V.int)), q.2)) mf.ok (List.range n) (fun e : Nat => .int (e : Int)) (ei_rng1 (hlen rfl mf.d) (by omega)) fun r2 lr2 => ?_
    have kG2 := lr2.keep hG1' hG2
    refine ⟨fun j σ' q3 => ∃ (e : List Int) (o5 o6 : Option V), σ' = [some (.ref a), some v, some (.ref F), some (.ref G), o4, o5, o6] ∧ Mw a p q3 ∧ Kp r2 q3 ∧ Ex (upd q.1 F (.lst (c.map V.int))) q3.1 ∧ q3.1 G = none ∧ q3.2 G = some (.lst (e.map V.int)) ∧ e.length = j ∧ ∀ k, k < j → 0 ≤ fI e k ∧ ∀ i b, i < n → ent T i k = some b → b ≤ fI e k - fI c i,
      ⟨[], none, none, rfl, mf.le lr2, .of (.refl lr2.s), lr2.d, kG2.1, kG2.2, rfl, fun k hk => (by omega)⟩, fun i σ' q ⟨_, _, _, _, _, h, _⟩ => h, ?_, ?_⟩
    · rintro j e0 σ' q3 x q4 hj ⟨e, o5, o6, rfl, m3, k3, x3, hG1, hG2, hel, he⟩ l4 hx
      obtain ⟨hjn, rfl⟩ := range_at hj
      have m4 := m3.le l4
      have yG := l4.keep hG1 hG2
      have hcd4 := hcd.up (x3.trans l4.d)
      obtain ⟨M, hM⟩ := exists_mx (ns := 0 :: ((List.range n).filter fun i => (ent T i e0).isSome).map fun i => fI c i + (ent T i e0).getD 0) (by simp)
      refine q_asg (d := .int M) l4.ok (ev_max (ns := 0 :: ((List.range n).filter fun i => (ent T i e0).isSome).map fun i => fI c i + (ent T i e0).getD 0) (EvN.toD (EvN.is (en_cat (en_lst (ea_cons ev_int ea_nil)).toD (EvN.toD (en_lc (List.range n) (fun e : Nat => .int (e : Int)) (fun i => (ent T i e0).isSome) (fun i => .int (fI c i + (ent T i e0).getD 0)) (ei_rng1 (n := n) (hlen rfl m4.d) (by omega)) (fun i hi z q5 l5 hz Q2 k2 => k2 _ (by rfl) (et_D (ev_notN (o := ent T i e0) ?_)) fun hs => ?_) (by rw [List.length_range]; omega))) ?_) ?_)) hM) fun u q5 l5 hu => ?_
      · have hin := List.mem_range.mp hi
        obtain ⟨rw1, hr1, hr2, hr3⟩ := ent_at hP hin hjn
        exact ev_ixT (n := e0) (ev_ixT (n := i) (ev_var (i := 1) rfl ((h1.up m4.d).up l5.d)) (ev_var (i := 4) rfl hz) (ePat_at hr1)) (ev_var (i := 5) rfl (hx.up l5.d)) (eRow_at hr3)
      · have hin := List.mem_range.mp hi
        obtain ⟨rw1, hr1, hr2, hr3⟩ := ent_at hP hin hjn
        obtain ⟨b, hb⟩ := Option.isSome_iff_exists.mp hs
        rw [hb] at hr3 ⊢
        exact ev_add (ev_ixL (n := i) (ev_var (i := 2) rfl (hcd4.up l5.d)) (ev_var (i := 4) rfl hz) (eI_at (fI_at (by rw [hcl]; exact hin)))) (ev_ixT (n := e0) (ev_ixT (n := i) (ev_var (i := 1) rfl ((h1.up m4.d).up l5.d)) (ev_var (i := 4) rfl hz) (ePat_at hr1)) (ev_var (i := 5) rfl (hx.up l5.d)) (eRow_at hr3))
      · have h5 : (List.filter (fun i => (ent T i e0).isSome) (List.range n)).length ≤ n := Nat.le_trans (List.length_filter_le _ _) (by rw [List.length_range]; exact Nat.le_refl _)
        rw [List.length_map]
        simp only [List.length_cons, List.length_nil]
        omega
      · rw [List.map_cons, List.map_map]; rfl
      cases hu
      have m5 := m4.le l5
      have yG5 := l5.keep yG.1 yG.2
      refine s_appM (n := 3) (Po := fun d => ∃ y : Int, d = .int y ∧ M ≤ y) l5.ok m5.w rfl hneG yG5.1 yG5.2 (em_addM (fun q m => ev_var (i := 6) rfl (.int M)) (em_call (i := 0) rfl (fun q m => ea_cons (ev_tup (ea_cons ev_int (ea_cons ev_int (ea_cons ev_int (ea_cons ev_int (ea_cons ev_int ea_nil)))))) ea_nil) ⟨_, .inl rfl, by simp, by simp, rfl⟩) ?_) (by rw [List.length_map]; omega) fun u z d m6 wz hv3 hd w1 w2 => ?_
      · intro d hd
        rcases (by simpa using hd : d = .int 0 ∨ d = .int 1 ∨ d = .int 2) with h | h | h
        · exact ⟨0, h, _, rfl, by omega⟩
        · exact ⟨1, h, _, rfl, by omega⟩
        · exact ⟨2, h, _, rfl, by omega⟩
      obtain ⟨y, rfl, hy⟩ := hd
      cases hv3
      refine ⟨z, rfl, e ++ [y], _, _, rfl, m5.app m6 wz g0, (k3.trans (.of (l4.trans l5))).trans m6.kp', ((x3.trans l4.d).trans l5.d).trans m6.d, w1, ?_, ?_, fun k hk => ?_⟩
      · rw [w2, List.map_append]; rfl
      · rw [List.length_append, hel]; rfl
      · rw [fI_snoc, hel]
        by_cases q : k < e0
        · rw [if_pos q]; exact he k q
        · have e9 : k = e0 := by omega
          subst e9
          rw [if_neg q, if_pos rfl]
          have h00 := hM.2 0 (List.mem_cons_self ..)
          refine ⟨by omega, fun i b hi hb => ?_⟩
          have := hM.2 (fI c i + b) (List.mem_cons_of_mem _ (List.mem_map.mpr ⟨i, List.mem_filter.mpr ⟨List.mem_range.mpr hi, by rw [hb]; rfl⟩, by rw [hb]; rfl⟩))
          omega
    · rintro σ' q3 ⟨e, o5, o6, rfl, m3, k3, x3, hG1, hG2, hel, he⟩
      rw [List.length_range] at hel he
      have mg' := m3.frz g0 hneG hG1 hG2
      have x4 : Ex q3.1 (upd q3.1 G (.lst (e.map V.int))) := Evl.Ex.new hG1
      refine s_ret (p := (upd q3.1 G (.lst (e.map V.int)), q3.2)) (d := eOff c e) mg'.ok (ev_tup (ea_cons (ev_tupL (ev_var (i := 2) rfl ((hcd.up x3).up x4))) (ea_cons (ev_tupL (ev_var (i := 3) rfl (.new hG1 (DaAll.ofInts e)))) ea_nil))) fun v' q5 l5 h5 => kk v' q5 _ (mg'.le l5) h5 ⟨c, e, rfl, hP, hcl, hel, hcpos, fun j hj => (he j hj).1, fun i j b hi hj hb => (he j hj).2 i b hi hb⟩
end
end HR

namespace HR
open PySem PySem.Spec PyProof.Rows L2
open Evl (Ex)
open HT (ent IsPat IsCh sel sm wt IsW Feas Best Offs it nx top od LeN Cols IsPerm)
/-! ### a list of lists, all of which may change -/
structure Rws (p0 : Two) (a R : Addr) (Ls : List Addr) (T : HT.Pat) (z : Two) : Prop where
  r0 : p0.2 R = none
  ra : R ≠ a
  r1 : z.1 R = none
  r2 : z.2 R = some (.lst (Ls.map V.ref))
  len : Ls.length = T.length
  nd : Ls.Nodup
  out : ∀ L ∈ Ls, L ≠ R ∧ L ≠ a ∧ p0.2 L = none ∧ z.1 L = none
  at_ : ∀ (k : Nat) (L : Addr) (r : List (Option Int)), Ls[k]? = some L → T[k]? = some r → z.2 L = some (.lst (r.map vO))
section
variable {K : PySem.W.Frag} {a R L F : Addr} {p0 p q r z z' : Two} {σ : L2.St} {te ta tb tm tl : TE} {Po P1 : PyData → Prop} {ds es : List PyData} {D : Ends} {tz : TS} {Ls : List Addr} {T : HT.Pat} {M : Addr → Prop} {n : Nat} {s : List Nat}
theorem Rws.has (h : Rws p0 a R Ls T z) (hL : L ∈ Ls) : z.2 L ≠ none := by
  obtain ⟨k, hk, e⟩ := List.getElem_of_mem hL
  have hk2 : k < T.length := by rw [← h.len]; exact hk
  rw [h.at_ k L T[k] (by rw [List.getElem?_eq_getElem hk, e]) (List.getElem?_eq_getElem hk2)]
  exact fun z => nomatch z
theorem Rws.mv (h : Rws p0 a R Ls T z) (m : Mv M z z') (hR : ¬ M R) (hL : ∀ L ∈ Ls, ¬ M L) : Rws p0 a R Ls T z' :=
  ⟨h.r0, h.ra, (m.keep hR h.r1 h.r2).1, (m.keep hR h.r1 h.r2).2, h.len, h.nd, fun L hm => ⟨(h.out L hm).1, (h.out L hm).2.1, (h.out L hm).2.2.1, m.f L (h.out L hm).2.2.2 (h.has hm)⟩, fun k L r h1 h2 => m.h L _ (hL L (List.mem_of_getElem? h1)) (h.at_ k L r h1 h2)⟩
theorem Rws.le (h : Rws p0 a R Ls T z) (l : Le z z') : Rws p0 a R Ls T z' := h.mv (M := fun _ => False) (.of l) (fun x => x) fun _ _ x => x
theorem Rws.mw (h : Rws p0 a R Ls T z) (m : Mw a z z') : Rws p0 a R Ls T z' := h.mv m.m h.ra fun L hL => (h.out L hL).2.1
theorem Rws.new (h : Rws p0 a R Ls T z) (hF : z.2 F = none) : F ≠ R ∧ F ∉ Ls := ⟨fun e => (by rw [e, h.r2] at hF; cases hF), fun e => h.has e hF⟩
/-- a row is added -/
theorem Rws.add {row : List (Option Int)} (h : Rws p0 a R Ls T z) (m : Mv (· = R) z z') (h1 : z'.1 R = none) (h2 : z'.2 R = some (.lst (Ls.map V.ref ++ [V.ref F]))) (hF : F ≠ R ∧ F ∉ Ls) (hFa : F ≠ a) (hF0 : p0.2 F = none) (hF1 : z.1 F = none) (hF2 : z.2 F = some (.lst (row.map vO))) : Rws p0 a R (Ls ++ [F]) (T ++ [row]) z' := by
  have kF := m.keep (a := F) hF.1 hF1 hF2
  refine ⟨h.r0, h.ra, h1, by rw [h2, List.map_append]; rfl, by rw [List.length_append, List.length_append, h.len]; rfl, ?_, fun L hm => ?_, fun k L r e1 e2 => ?_⟩
  · rw [List.nodup_append]
    exact ⟨h.nd, by simp, fun x hx y hy e => hF.2 (by rw [← List.mem_singleton.mp hy, ← e]; exact hx)⟩
  · rcases List.mem_append.mp hm with hm | hm
    · exact ⟨(h.out L hm).1, (h.out L hm).2.1, (h.out L hm).2.2.1, m.f L (h.out L hm).2.2.2 (h.has hm)⟩
    · rw [List.mem_singleton.mp hm]; exact ⟨hF.1, hFa, hF0, kF.1⟩
  · by_cases q : k < Ls.length
    · rw [List.getElem?_append_left q] at e1
      rw [List.getElem?_append_left (by rw [← h.len]; exact q)] at e2
      exact m.h L _ (h.out L (List.mem_of_getElem? e1)).1 (h.at_ k L r e1 e2)
    · rw [List.getElem?_append_right (by omega)] at e1
      rw [List.getElem?_append_right (by rw [← h.len]; omega), ← h.len] at e2
      obtain ⟨x, y⟩ := List.getElem?_eq_some_iff.mp e1
      have e0 : k - Ls.length = 0 := by simp at x; omega
      rw [e0] at e1 e2
      have e1 : F = L := Option.some.inj e1
      have e2 : row = r := Option.some.inj e2
      subst e1; subst e2
      exact kF.2
/-- L.append(another list) -/
theorem s_appR {n m : Nat} {vs : List V} (ok : Ok p) (hs : σ[n]? = some (some (.ref R))) (h1 : p.1 R = none) (h2 : p.2 R = some (.lst vs)) (hF : σ[m]? = some (some (.ref F))) (hz : vs.length < 100000)
    (k : ∀ z, Mv (· = R) p z → z.1 R = none → z.2 R = some (.lst (vs ++ [V.ref F])) → D.nx σ z.2) : tDrop (tBM K "list" rAppend (tVar n) (tCons (tVar m) tNil)) D σ p.2 :=
  ⟨_, hs, ty_lstM h2, _, hF, R, vs, _, rfl, rfl, h2, Evl.sz_lt hz, k (p.1, upd p.2 R (.lst (vs ++ [V.ref F]))) (.put ok h1 _) h1 upd_same⟩
/-- rows[i] -/
theorem er_row {iR iI i : Nat} (h : Rws p0 a R Ls T p) (hR : σ[iR]? = some (some (.ref R))) (hI : σ[iI]? = some (some (.int (i : Int)))) (hL : Ls[i]? = some L) : EvR (tOp (rIxL K) (tVar iR) (tVar iI)) σ p L := fun q l Q k =>
  ⟨.ref R, hR, .int (i : Int), hI, R, Ls.map V.ref, _, .ref L, rfl, rfl, .of (h.le l).r2, atI_nat (by rw [List.getElem?_map, hL]; rfl), k⟩
theorem vO_at {r : List (Option Int)} {j : Nat} {o : Option Int} (h : r[j]? = some o) : (r.map vO)[j]? = some (vO o) := by rw [List.getElem?_map, h]; rfl
/-- what a step of filling does -/
def FillAt (m : Int) (s : List Nat) (i : Nat) (T T' : HT.Pat) : Prop := ∃ r, T[i]? = some r ∧ ((T' = T ∧ ∃ x, r[sel s i]? = some (some x)) ∨ ∃ k : Nat, (k : Int) < m ∧ T' = T.set i (r.set (sel s i) (some (k : Int))))
/-- if rows[i][order[i]] is None: rows[i][order[i]] = draw(well, m) -/
theorem s_fill {iR iI iO i0 i : Nat} {m : Int} {ov : V} (ok : Ok p) (w : Wl a p) (m0 : Mw a p0 p) (h : Rws p0 a R Ls T p) (h0 : σ[i0]? = some (some (.ref a))) (hR : σ[iR]? = some (some (.ref R))) (hI : σ[iI]? = some (some (.int (i : Int)))) (hO : σ[iO]? = some (some ov)) (hov : Da p.1 ov (.list (s.map fun e : Nat => .int (e : Int))))
    (hs : IsPerm s n) (hi : i < n) (hn : n < 1000) (hT : T.length = n) (hrow : ∀ r ∈ T, r.length = n) (hm : ∀ q, Mw a p q → EvD tm σ q (.int m)) (hm0 : 0 < m) (hm1 : m < 1073741824)
    (k : ∀ T' z, Mw a p0 z → Mw a p z ∨ (∃ L, p0.2 L = none ∧ Mv (fun b => b = a ∨ b = L) p z) → Kp p z → Rws p0 a R Ls T' z → FillAt m s i T T' → D.nx σ z.2) :
    tIfS (tTest (tOp rIsN (tOp (rIxL K) (tOp (rIxL K) (tVar iR) (tVar iI)) (tOp (rIxL K) (tVar iO) (tVar iI))) (tC .non))) (tAsg (tCall (spW R_draw) [] E0 (tCons (tVar i0) (tCons tm tNil))) (gSub (tOp (rIxL K) (tVar iR) (tVar iI)) (tOp (rIxL K) (tVar iO) (tVar iI)) rSetL)) tNext D σ p.2 := by
  have hiT : i < T.length := by rw [hT]; exact hi
  have hiL : i < Ls.length := by rw [h.len]; exact hiT
  have hTr := List.getElem?_eq_getElem hiT
  have hLr := List.getElem?_eq_getElem hiL
  have hrl : T[i].length = n := hrow _ (List.getElem_mem _)
  have hsl := hs.sel_lt hi
  have hord : ∀ {q : Two}, Ex p.1 q.1 → EvD (tOp (rIxL K) (tVar iO) (tVar iI)) σ q (.int ((sel s i : Nat) : Int)) := fun x => ev_ixL (n := i) (ev_var hO (hov.up x)) (ev_var hI (.int _)) (eS_at (by rw [hs.len]; exact hi))
  have hsr : sel s i < T[i].length := by rw [hrl]; exact hsl
  have hat := List.getElem?_eq_getElem hsr
  refine s_if ok (et_D (ev_isN (o := T[i][sel s i]) (ev_ixM (er_row h hR hI hLr) (h.at_ i _ _ hLr hTr) (hord (Ex.refl _)) (vO_at hat) fun _ => .ofOpt _))) (fun hb q l => ?_) fun hb q l => ?_
  · have hq := h.le l
    refine em_call (Po := fun d => ∃ k : Nat, d = .int (k : Int) ∧ (k : Int) < m) h0 (fun q' m' => ea_cons (hm q' (.pre l m')) ea_nil) ⟨m, rfl, hm0, hm1, rfl⟩ q (.refl l.ok (w.le l)) _ fun v r d mr hv hd => ?_
    obtain ⟨x, rfl, hx⟩ := hd
    cases hv
    have hr := hq.mw mr
    have lin := List.mem_of_getElem? hLr
    have mp : Mw a p r := .pre l mr
    refine er_row hr hR hI hLr r (.refl mr.ok) _ (hord mp.d r (.refl mr.ok) _ fun y r2 l2 hy => ?_)
    cases hy
    have hr2 := hr.le l2
    have e2 := hr2.at_ i _ _ hLr hTr
    have o2 := hr2.out _ lin
    have m2 := mp.le l2
    refine ⟨Ls[i], T[i].map vO, _, sel s i, rfl, rfl, e2, ?_, ?_⟩
    · unfold ixN
      rw [if_pos (by omega), if_pos (by rw [List.length_map, hrl]; omega), Int.toNat_natCast]
    · have mput : Mv (· = Ls[i]) r2 (r2.1, upd r2.2 Ls[i] (.lst ((T[i].map vO).set (sel s i) (.int (x : Int))))) := .put l2.ok o2.2.2.2 _
      have wz : Wl a (r2.1, upd r2.2 Ls[i] (.lst ((T[i].map vO).set (sel s i) (.int (x : Int))))) := m2.w.mv mput fun e => o2.2.1 e.symm
      have mz : Mv (fun b => b = a ∨ b = Ls[i]) p (r2.1, upd r2.2 Ls[i] (.lst ((T[i].map vO).set (sel s i) (.int (x : Int))))) := (m2.m.mono fun b e => Or.inl e).trans (mput.mono fun b e => Or.inr e) fun b hb _ => by
        rcases hb with e | e
        · rw [e]; exact m2.w.ne
        · rw [e, e2]; exact fun z => nomatch z
      refine k (T.set i (T[i].set (sel s i) (some (x : Int)))) (r2.1, upd r2.2 Ls[i] (.lst ((T[i].map vO).set (sel s i) (.int (x : Int))))) (m0.app mz wz o2.2.2.1) (.inr ⟨_, o2.2.2.1, mz⟩) mz.kp' ?_ ⟨_, hTr, .inr ⟨x, hx, rfl⟩⟩
      refine ⟨h.r0, h.ra, hr2.r1, ?_, by rw [List.length_set]; exact h.len, h.nd, hr2.out, fun j L r e1 e3 => ?_⟩
      · show upd r2.2 Ls[i] _ R = _
        rw [upd_ne fun e => o2.1 e.symm]
        exact hr2.r2
      · by_cases q : j = i
        · rw [q] at e1 e3
          rw [hLr] at e1
          rw [List.getElem?_set_self hiT] at e3
          have e1 : Ls[i] = L := Option.some.inj e1
          have e3 : T[i].set (sel s i) (some (x : Int)) = r := Option.some.inj e3
          subst e1; subst e3
          rw [List.map_set]
          exact upd_same
        · rw [List.getElem?_set_ne fun e => q e.symm] at e3
          show upd r2.2 Ls[i] _ L = _
          rw [upd_ne]
          · exact hr2.at_ j L r e1 e3
          · intro e
            obtain ⟨x1, x2⟩ := List.getElem?_eq_some_iff.mp e1
            rw [e] at x2
            exact q ((List.getElem_inj h.nd).mp x2)
  · refine k T q (m0.le l) (.inl (.of w l)) (.of l) (h.le l) ⟨_, hTr, .inl ⟨rfl, ?_⟩⟩
    cases e : T[i][sel s i] with
    | none => rw [e] at hb; cases hb
    | some x => exact ⟨x, by rw [hat, e]⟩
/-- the rows become data -/
theorem frz_rows : ∀ (Ls : List Addr) (T : HT.Pat) (q : Two), Ls.length = T.length → Ls.Nodup → (∀ L ∈ Ls, L ≠ a ∧ p0.2 L = none ∧ q.1 L = none) → (∀ (k : Nat) (L : Addr) (r : List (Option Int)), Ls[k]? = some L → T[k]? = some r → q.2 L = some (.lst (r.map vO))) → Mw a p0 q →
    ∃ D', Ex q.1 D' ∧ Mw a p0 (D', q.2) ∧ DaAll D' (Ls.map V.ref) (T.map fun r => .list (r.map eO)) ∧ ∀ x, q.1 x = none → x ∉ Ls → D' x = none
  | [], [], q, _, _, _, _, m => ⟨q.1, Ex.refl _, m, .nil, fun x h _ => h⟩
  | [], _ :: _, _, h, _, _, _, _ => by cases h
  | _ :: _, [], _, h, _, _, _, _ => by cases h
  | L :: Ls, r :: T, q, hl, nd, ho, hat, m => by
    rw [List.nodup_cons] at nd
    have hL := ho L (List.mem_cons_self ..)
    have h2 := hat 0 L r rfl rfl
    have m1 := m.frz hL.2.1 hL.1 hL.2.2 h2
    obtain ⟨D', x1, m2, d, f⟩ := frz_rows Ls T (upd q.1 L (.lst (r.map vO)), q.2) (by simpa using hl) nd.2 (fun L' h' => by
      have := ho L' (List.mem_cons_of_mem _ h')
      refine ⟨this.1, this.2.1, ?_⟩
      show upd q.1 L _ L' = none
      rw [upd_ne fun e => nd.1 (by rw [← e]; exact h')]
      exact this.2.2) (fun k L' r' e1 e2 => hat (k + 1) L' r' (by simpa using e1) (by simpa using e2)) m1
    have x0 : Ex q.1 (upd q.1 L (.lst (r.map vO))) := Evl.Ex.new hL.2.2
    refine ⟨D', x0.trans x1, m2, .cons ?_ d, fun x hx hn => ?_⟩
    · exact Da.up (.new hL.2.2 (DaAll.ofOpts r)) x1
    · rw [List.mem_cons, not_or] at hn
      refine f x ?_ hn.2
      show upd q.1 L _ x = none
      rw [upd_ne hn.1]; exact hx
theorem Rws.data (h : Rws p0 a R Ls T q) (m : Mw a p0 q) : ∃ D', Ex q.1 D' ∧ Mw a p0 (D', q.2) ∧ Da D' (.ref R) (.list (T.map fun r => .list (r.map eO))) := by
  obtain ⟨D', x1, m2, d, f⟩ := frz_rows Ls T q h.len h.nd (fun L hL => (h.out L hL).2) h.at_ m
  have hR : D' R = none := f R h.r1 fun e => (h.out R e).1 rfl
  exact ⟨upd D' R (.lst (Ls.map V.ref)), x1.trans (Evl.Ex.new hR), m2.frz h.r0 h.ra hR h.r2, .new hR d⟩
end
/-! rows that can be filled -/
def okRow (n : Nat) (r : List (Option Int)) : Prop := r.length = n ∧ ∀ x : Int, some x ∈ r → 0 ≤ x ∧ x ≤ 9
theorem FillAt.keep {m : Int} {s : List Nat} {i n : Nat} {T T' : HT.Pat} (h : FillAt m s i T T') (hm : m ≤ 10) (hs : IsPerm s n) (hi : i < n) (hT : T.length = n) (hok : ∀ r ∈ T, okRow n r) :
    T'.length = n ∧ (∀ r ∈ T', okRow n r) ∧ (∃ x, ent T' i (sel s i) = some x) ∧ ∀ k x, ent T k (sel s k) = some x → ∃ y, ent T' k (sel s k) = some y := by
  obtain ⟨r, hr, h⟩ := h
  have hrm := hok r (List.mem_of_getElem? hr)
  have hil : i < T.length := (List.getElem?_eq_some_iff.mp hr).1
  rcases h with ⟨rfl, x, hx⟩ | ⟨k, hk, rfl⟩
  · exact ⟨hT, hok, ⟨x, ent_of hr hx⟩, fun k x h => ⟨x, h⟩⟩
  · have hnew : (T.set i (r.set (sel s i) (some (k : Int))))[i]? = some (r.set (sel s i) (some (k : Int))) := List.getElem?_set_self hil
    have hsl : sel s i < r.length := by rw [hrm.1]; exact hs.sel_lt hi
    have hin : ent (T.set i (r.set (sel s i) (some (k : Int)))) i (sel s i) = some (k : Int) := ent_of hnew (List.getElem?_set_self hsl)
    refine ⟨by rw [List.length_set]; exact hT, fun r' h' => ?_, ⟨_, hin⟩, fun j x h => ?_⟩
    · rcases List.mem_or_eq_of_mem_set h' with h' | rfl
      · exact hok r' h'
      · refine ⟨by rw [List.length_set]; exact hrm.1, fun x hx => ?_⟩
        rcases List.mem_or_eq_of_mem_set hx with hx | hx
        · exact hrm.2 x hx
        · have := Option.some.inj hx; omega
    · by_cases q : j = i
      · subst q; exact ⟨_, hin⟩
      · refine ⟨x, ?_⟩
        have e : ent (T.set i (r.set (sel s i) (some (k : Int)))) j (sel s j) = ent T j (sel s j) := by
          unfold ent
          have e9 : (T.set i (r.set (sel s i) (some (k : Int)))).getD j [] = T.getD j [] := by
            rw [List.getD_eq_getElem?_getD, List.getD_eq_getElem?_getD, List.getElem?_set_ne fun e => q e.symm]
          rw [e9]
        rw [e]; exact h
theorem isPat_of {T : HT.Pat} {n : Nat} (h0 : 0 < n) (h4 : n ≤ 4) (hT : T.length = n) (hok : ∀ r ∈ T, okRow n r) : IsPat T n := ⟨h0, h4, hT, fun r hr => (hok r hr).1, fun i j x h => by
  unfold ent at h
  cases e : T[i]? with
  | none =>
    have e' : T.getD i [] = [] := by rw [List.getD_eq_getElem?_getD, e]; rfl
    rw [e'] at h; cases h
  | some r =>
    have e' : T.getD i [] = r := by rw [List.getD_eq_getElem?_getD, e]; rfl
    rw [e', List.getD_eq_getElem?_getD] at h
    cases e2 : r[j]? with
    | none => rw [e2] at h; cases h
    | some o =>
      rw [e2] at h
      have h : o = some x := h
      subst h
      exact (hok r (List.mem_of_getElem? e)).2 x (List.mem_of_getElem? e2)⟩
end HR

namespace HR
open PySem PySem.Spec PyProof.Rows L2
open Evl (Ex)
open HT (ent IsPat IsCh sel sm wt IsW Feas Best Offs it nx top od LeN Cols IsPerm)
section
variable {K : PySem.W.Frag} {a R L F : Addr} {p0 p q r z z' : Two} {σ : L2.St} {te ta tb tm tl : TE} {Po P1 : PyData → Prop} {ds es : List PyData} {D : Ends} {tz : TS} {Ls : List Addr} {T : HT.Pat} {M : Addr → Prop} {n : Nat} {s : List Nat}
theorem em_min2 {i : Int} (ha : ∀ q, Mw a p q → EvD ta σ q (.int i)) (hb : EvM a tb σ p Po) (hP : ∀ d, Po d → ∃ j : Int, d = .int j ∧ P1 (.int (min i j))) : EvM a (tCB rMn2 (tCons ta (tCons tb tNil))) σ p P1 := fun q m Q k =>
  ha q m q (.refl m.ok) _ fun v r l hv => hb r (m.le l) _ fun u r2 d m2 hu hd => by
    obtain ⟨j, rfl, hj⟩ := hP d hd
    cases hv; cases hu
    have e : (if j < i then j else i) = min i j := by split <;> omega
    exact ⟨i, j, rfl, by rw [e]; exact k _ r2 _ (.pre l m2) (.int _) hj⟩
theorem em_geM (ha : EvM a ta σ p Po) (hP : ∀ d, Po d → ∃ i : Int, d = .int i) (hb : ∀ q, Mw a p q → ∃ j : Int, EvD tb σ q (.int j)) : EvM a (tOp (rI0 fun i j => .bl (decide (j ≤ i))) ta tb) σ p (fun d => ∃ b, d = .bool b) := fun q m Q k =>
  ha q m _ fun v r d m2 hv hd => by
    obtain ⟨i, rfl⟩ := hP d hd
    obtain ⟨j, hj⟩ := hb r (m.trans m2)
    refine hj r (.refl m2.ok) _ fun u r2 l hu => ?_
    cases hv; cases hu
    exact ⟨i, j, rfl, rfl, k _ r2 _ (m2.le l) (.bl _) ⟨_, rfl⟩⟩
/-- return tuple([tuple(line) for line in rows]) -/
theorem s_retRows {iR iL : Nat} (m : Mw a p0 q) (h : Rws p0 a R Ls T q) (hz : T.length ≤ 100) (hR : (wipe σ [iL])[iR]? = some (some (.ref R))) (hR0 : σ[iR]? = some (some (.ref R))) (hL : ∀ x, ((wipe σ [iL]).set iL (some x))[iL]? = some (some x)) (hw : ∀ x, wipe ((wipe σ [iL]).set iL (some x)) [iL] = wipe σ [iL])
    (k : ∀ v z, Mw a p0 z → Da z.1 v (ePat T) → D.rt v z.2) : tRet (tCB (rTupOf K) (tCons (tLc (iList K (tVar iR)) (gName iL) tYes (tCB (rTupOf K) (tCons (tVar iL) tNil)) [iL]) tNil)) D σ q.2 := by
  obtain ⟨D', x1, m2, hd⟩ := h.data m
  refine s_ret (p := (D', q.2)) m2.ok (ev_tupL (EvN.toD (EvN.is (en_lc T (fun r => .list (r.map eO)) (fun _ => true) eRow (ei_list (ev_var (i := iR) hR0 hd)) (fun r hr x q5 l5 hx Q2 k2 => k2 _ (hw x) et_yes fun _ => ev_tupL (ev_var (i := iL) (hL x) hx)) (by omega)) (by rw [filter_all])))) fun v z l hv => k v z (m2.le l) hv
/-- rows = [list(line) for line in grid] -/
theorem q_rows {iR iL : Nat} (w : Wl a p) (ok : Ok p) (h : EvM a tl σ p Po) (hPo : ∀ d, Po d → ∃ T n, d = ePat T ∧ IsPat T n) (hL : ∀ x, ((wipe σ [iL]).set iL (some x))[iL]? = some (some x)) (hw : ∀ x, wipe ((wipe σ [iL]).set iL (some x)) [iL] = wipe σ [iL])
    (k : ∀ T n R Ls z, IsPat T n → Mw a p z → Rws p a R Ls T z → tz D (σ.set iR (some (.ref R))) z.2) : tSeq (tAsg (tLc (iTup K tl) (gName iL) tYes (tCB (rLstOf K) (tCons (tVar iL) tNil)) [iL]) (gName iR)) tz D σ p.2 := by
  refine h p (.refl ok w) _ fun v r d mr hv hd => ?_
  obtain ⟨T, n, rfl, hP⟩ := hPo d hd
  cases hv with
  | @tup a1 xs1 _ h1 h2 =>
    have W := walkD_tup (K := K) h1 h2
    refine ⟨_, rfl, ⟨_, .of (mr.ok _ _ h1)⟩, fun R hR => ?_⟩
    have hne : R ≠ a := mr.w.ne' hR
    have hR0 : p.2 R = none := mr.back hne hR
    have hR1 : r.1 R = none := ex_free mr.ok hR
    have l0 : Le r (r.1, upd r.2 R (.lst [])) := .newM mr.ok hR
    let I : Nat → Hp → Prop := fun i H => ∃ (z : Two) (Ls : List Addr), z.2 = H ∧ Mw a p z ∧ Kp r z ∧ Rws p a R Ls (T.take i) z
    refine ⟨fun i m H => m = T.length - i ∧ i ≤ T.length ∧ I i H, ⟨_, rfl, Nat.zero_le _, (r.1, upd r.2 R (.lst [])), [], rfl, mr.le l0, .of l0, ?_⟩, ?_⟩
    · exact ⟨hR0, hne, hR1, upd_same, by rw [List.take_zero]; rfl, List.nodup_nil, fun L hL => (by cases hL), fun k L r e1 e2 => (by simp at e1)⟩
    · rintro i m H ⟨rfl, hle, z, Ls, rfl, mz, kz, hRw⟩
      by_cases hlt : i < T.length
      · refine .inr ⟨W.goes i z (by rw [List.length_map]; exact hlt) kz, I (i + 1), fun H' h' => ⟨_, by omega, rfl, hlt, h'⟩, fun x H' y => ?_⟩
        obtain ⟨D', ly, dd, hd', hx⟩ := W.yields i z x H' (by rw [List.length_map]; exact hlt) kz y
        have ha : T[i]? = some T[i] := by simp [hlt]
        rw [List.getElem?_map, ha] at hd'
        have e : eRow T[i] = dd := Option.some.inj hd'
        subst e
        refine ⟨hw x, x, hL x, ?_⟩
        cases hx with
        | @tup a2 xs2 _ g1 g2 =>
          refine ⟨_, _, rfl, .inr (.of (ly.s _ _ g1)), fun L hL => ?_⟩
          have hL : H' L = none := hL
          have l2 : Le (D', H') (D', upd H' L (.lst xs2)) := .newM ly.ok hL
          have hRy := hRw.le ly
          have hnew := hRy.new (F := L) hL
          have hR2 := hRy.le l2
          have my := mz.le (ly.trans l2)
          have hLa : L ≠ a := (mz.le ly).w.ne' hL
          have hL0 : p.2 L = none := (mz.le ly).back hLa hL
          have hL1 : D' L = none := ex_free ly.s hL
          have hzl : Ls.length ≤ T.length := by have := hRw.len; rw [List.length_take] at this; omega
          have hn := hP.le
          have hTl := hP.len
          have mp : Mv (· = R) (D', upd H' L (.lst xs2)) (D', upd (upd H' L (.lst xs2)) R (.lst (Ls.map V.ref ++ [V.ref L]))) := .put l2.ok hR2.r1 _
          have e2 : xs2 = T[i].map vO := g2.opts
          refine ⟨_, hR2.r2, by rw [List.length_map]; exact Evl.sz_lt (by omega), (D', upd (upd H' L (.lst xs2)) R (.lst (Ls.map V.ref ++ [V.ref L]))), Ls ++ [L], rfl, ?_, (kz.trans (.of (ly.trans l2))).trans mp.kp', ?_⟩
          · exact my.app (mp.mono fun b e => Or.inr e) (my.w.mv mp fun e => hne e.symm) hR0
          · rw [take_snoc ha]
            exact hR2.add mp hR2.r1 upd_same hnew hLa hL0 hL1 (by rw [← e2]; exact upd_same)
      · have e0 : i = T.length := by omega
        subst e0
        refine .inl ⟨by have := W.stops z kz; rw [List.length_map] at this; exact this, ?_⟩
        rw [List.take_length] at hRw
        exact k T n R Ls z hP mz hRw
end
section
variable {P : Program} {w : World} {K : PySem.W.Frag} {mg : Str → Option Value} {base : Heap}
abbrev s_l_grid : Stmt := topS 38
abbrev n_l_grid : List Str := ["_law_well_here", "_law_most", "_law_n", "_law_style", "_law_high", "_law_rows", "_law_i", "_law_line", "_law_j", "_law_is_there", "_law_way", "_law_order"]
theorem sc_l_grid : FnScope n_l_grid ["_law_well_here", "_law_most"] (defScope s_l_grid) := ⟨rfl, rfl, rfl, by decide +kernel, rfl, by decide +kernel, by decide +kernel⟩
def R_grid : List PyData → (PyData → Prop) → Prop := fun ds Po => ∃ most : Int, ds = [.int most] ∧ 1 ≤ most ∧ Po = fun d => ∃ T n, d = ePat T ∧ IsPat T n
theorem R_grid_len : ∀ ds d, R_grid ds d → ds.length = 1 := fun ds d ⟨_, h, _⟩ => by rw [h]; rfl
theorem style_at {k : Nat} (h : (k : Int) < 5) : ∃ j : Int, [PyData.int 4, .int 3, .int 2, .int 1, .int 0][k]? = some (.int j) := by
  obtain _ | _ | _ | _ | _ | k := k
  · exact ⟨4, rfl⟩
  · exact ⟨3, rfl⟩
  · exact ⟨2, rfl⟩
  · exact ⟨1, rfl⟩
  · exact ⟨0, rfl⟩
  · omega
theorem ok_grid {f : Addr} {fd : FuncData} (F : Fun K "_law_grid" "_law_grid" s_l_grid f fd) (B : Blt mg) (C_l_draw : Cal P w K mg base 1 "_law_draw" ["_law_well_here", "_law_many"] (spW R_draw)) (C_l_pick : Cal P w K mg base 2 "_law_pick" ["_law_well_here", "_law_some"] (spW R_pick))
    (C_l_order_list : Cal P w K mg base 2 "_law_order_list" ["_law_well_here", "_law_n"] (spW R_order)) : FnOk P w K mg base CX0 3 f fd ["_law_well_here", "_law_most"] (spW R_grid) := by
  refine F.ok sc_l_grid (fun vs H Q E h => spW_len R_grid_len h) (fun cdv A outer s H vs Q E hr h => ?_)
  have sc := sc_l_grid
  obtain ⟨p, a, us, ds, Po, rfl, ok, rfl, hv, ⟨most, rfl, hmost, rfl⟩, hw, kk⟩ := h
  obtain ⟨v, rfl, h1⟩ := hv.one'
  cases h1
  refine ⟨_, pss_cons (ps_par (i := 2) (j := 3) rfl sc.nd rfl rfl (by decide) rfl rfl (pa_cons (pe_callB (call_min2 rfl) (by rfl) B.min_ bo_min (pa_cons (pv 1) (pa_cons (pe_cal C_l_pick (hr.mono (by decide)) (by rfl) (pa_cons (pv 0) (pa_cons (pe_tup (pa_cons (pe_int) (pa_cons (pe_int) (pa_cons (pe_int) (pa_cons (pe_int) (pa_cons (pe_int) (pa_cons (pe_int) (pa_cons (pe_int) pa_nil)))))))) pa_nil))) pa_nil))) (pa_cons (pe_cal C_l_draw (hr.mono (by decide)) (by rfl) (pa_cons (pv 0) (pa_cons (pe_int) pa_nil))) pa_nil)) (by rfl))
      (pss_cons (ps_par (i := 4) (j := 5) rfl sc.nd rfl rfl (by decide) rfl rfl (pa_cons (pe_cal C_l_pick (hr.mono (by decide)) (by rfl) (pa_cons (pv 0) (pa_cons (pe_tup (pa_cons (pe_int) (pa_cons (pe_int) (pa_cons (pe_int) (pa_cons (pe_int) (pa_cons (pe_int) (pa_cons (pe_int) pa_nil))))))) pa_nil))) (pa_cons (pe_lst (pa_nil)) pa_nil)) (by rfl))
      (pss_cons (ps_for PassesOwn.never rfl (pi_range1 (by rfl) B.range_ (pa_cons (pv 2) pa_nil)) (pg_name (i := 6) sc.nd rfl (Or.inl rfl)) (pss_cons (ps_set (i := 7) sc.nd rfl (Or.inl rfl) (pe_lst (pa_nil)))
      (pss_cons (ps_for PassesOwn.never rfl (pi_range1 (by rfl) B.range_ (pa_cons (pv 2) pa_nil)) (pg_name (i := 8) sc.nd rfl (Or.inl rfl)) (pss_cons (ps_set (i := 9) sc.nd rfl (Or.inl rfl) (pe_cmpR op_ge (pe_cal C_l_draw (hr.mono (by decide)) (by rfl) (pa_cons (pv 0) (pa_cons (pe_int) pa_nil))) (pe_ix (ix_tupK K) (pe_tup (pa_cons (pe_int) (pa_cons (pe_int) (pa_cons (pe_int) (pa_cons (pe_int) (pa_cons (pe_int) pa_nil)))))) (pv 3) (fun _ _ => rfl)) (nomark _)))
      (pss_one (ps_expr (pe_bmK K PySem.F.plainAttrs_list PySem.F.slot_list_append PySem.F.type_list_append mt_append (pv 7) (pa_cons (pe_ifExp (pt_val (pv 9)) (pe_cal C_l_draw (hr.mono (by decide)) (by rfl) (pa_cons (pv 0) (pa_cons (pv 4) pa_nil))) (pe_non)) pa_nil))))))
      (pss_one (ps_expr (pe_bmK K PySem.F.plainAttrs_list PySem.F.slot_list_append PySem.F.type_list_append mt_append (pv 5) (pa_cons (pv 7) pa_nil)))))))
      (pss_cons (ps_set (i := 10) sc.nd rfl (Or.inl rfl) (pe_cal C_l_draw (hr.mono (by decide)) (by rfl) (pa_cons (pv 0) (pa_cons (pe_int) pa_nil))))
      (pss_cons (ps_if (pt_cmpR op_gt (pv 10) (pe_int) (nomark _)) (pss_cons (ps_set (i := 11) sc.nd rfl (Or.inl rfl) (pe_cal C_l_order_list (hr.mono (by decide)) (by rfl) (pa_cons (pv 0) (pa_cons (pv 2) pa_nil))))
      (pss_one (ps_for PassesOwn.never rfl (pi_range1 (by rfl) B.range_ (pa_cons (pv 2) pa_nil)) (pg_name (i := 6) sc.nd rfl (Or.inl rfl)) (pss_one (ps_if (pt_cmpR op_isN (pe_ix (ix_listK K) (pe_ix (ix_listK K) (pv 5) (pv 6) (fun _ _ => rfl)) (pe_ix (ix_listK K) (pv 11) (pv 6) (fun _ _ => rfl)) (fun _ _ => rfl)) (pe_non) (nomark _)) (pss_one (ps_asg (pe_cal C_l_draw (hr.mono (by decide)) (by rfl) (pa_cons (pv 0) (pa_cons (pv 4) pa_nil))) (pg_sub (pe_ix (ix_listK K) (pv 5) (pv 6) (fun _ _ => rfl)) (pe_ix (ix_listK K) (pv 11) (pv 6) (fun _ _ => rfl)) set_list))) (pss_nil)))))) (pss_nil))
      (pss_one (ps_ret (pe_callTy (call_tupleK K) (by rfl) B.tuple_ bo_tuple (pa_cons (pe_lc (own := [("_law_line", 7)]) rfl sc.nd (pi_listK K (pv 5)) (blkOk_by (own := [("_law_line", 7)]) (by show blkC n_l_grid (defScope s_l_grid) _ _ = true; decide +kernel)) (fun _ _ _ _ _ => pg_name (i := 7) sc.nd rfl (Or.inl rfl)) (fun _ _ _ _ _ => pts_nil) (fun _ _ _ _ _ => pe_callTy (call_tupleK K) (by rfl) B.tuple_ bo_tuple (pa_cons (pv 7) pa_nil))) pa_nil)))))))), ?_⟩
  refine q_parM ok hw (em_min2 (Po := fun d => d ∈ [PyData.int 1, .int 2, .int 2, .int 3, .int 3, .int 3, .int 4]) (P1 := fun d => ∃ n : Nat, d = .int (n : Int) ∧ 1 ≤ n ∧ n ≤ 4) (fun q m => ev_var (i := 1) rfl (.int most)) (em_call (i := 0) rfl (fun q m => ea_cons (ev_tup (ea_cons ev_int (ea_cons ev_int (ea_cons ev_int (ea_cons ev_int (ea_cons ev_int (ea_cons ev_int (ea_cons ev_int ea_nil)))))))) ea_nil) ⟨_, .inl rfl, by simp, by simp, rfl⟩) ?_)
    (em_call (i := 0) (Po := fun d => ∃ k : Nat, d = .int (k : Int) ∧ (k : Int) < 5) rfl (fun q m => ea_cons ev_int ea_nil) ⟨5, rfl, by omega, by omega, rfl⟩) fun v u q d e m0 hv hd hu he => ?_
  · intro d hd
    have hx : ∃ x : Int, d = .int x ∧ 1 ≤ x ∧ x ≤ 4 := by
      rcases (by simpa using hd : d = .int 1 ∨ d = .int 2 ∨ d = .int 3 ∨ d = .int 4) with h | h | h | h
      · exact ⟨1, h, by omega, by omega⟩
      · exact ⟨2, h, by omega, by omega⟩
      · exact ⟨3, h, by omega, by omega⟩
      · exact ⟨4, h, by omega, by omega⟩
    obtain ⟨x, rfl, hx1, hx2⟩ := hx
    exact ⟨x, rfl, (min most x).toNat, by rw [Int.toNat_of_nonneg (by omega)], by omega, by omega⟩
  obtain ⟨n, rfl, hn1, hn4⟩ := hd
  obtain ⟨st, rfl, hst⟩ := he
  cases hv; cases hu
  refine q_parN m0.ok m0.w (em_call (Po := fun d => d ∈ [PyData.int 1, .int 2, .int 3, .int 3, .int 4, .int 10]) (i := 0) rfl (fun q m => ea_cons (ev_tup (ea_cons ev_int (ea_cons ev_int (ea_cons ev_int (ea_cons ev_int (ea_cons ev_int (ea_cons ev_int ea_nil))))))) ea_nil) ⟨_, .inl rfl, by simp, by simp, rfl⟩) (fun q m => en_lst ea_nil) fun v R vs q1 d m1 hv hd f0 hne f1 f2 f3 => ?_
  cases f3
  obtain ⟨high, rfl, hh0, hh1⟩ : ∃ x : Int, d = .int x ∧ 0 < x ∧ x ≤ 10 := by
    rcases (by simpa using hd : d = .int 1 ∨ d = .int 2 ∨ d = .int 3 ∨ d = .int 4 ∨ d = .int 10) with h | h | h | h | h
    · exact ⟨1, h, by omega, by omega⟩
    · exact ⟨2, h, by omega, by omega⟩
    · exact ⟨3, h, by omega, by omega⟩
    · exact ⟨4, h, by omega, by omega⟩
    · exact ⟨10, h, by omega, by omega⟩
  cases hv
  have mp := m0.trans m1
  have fp : p.2 R = none := m0.back hne f0
  refine q_for mp.ok (List.range n) (fun e : Nat => .int (e : Int)) (ei_rng1 (n := n) (ev_var (i := 2) rfl (.int _)) (by omega)) fun r lr => ?_
  have kR := lr.keep f1 f2
  refine ⟨fun i σ' q => ∃ (Ls : List Addr) (T : HT.Pat) (o6 o7 o8 o9 : Option V), σ' = [some (.ref a), some (.int most), some (.int (n : Int)), some (.int (st : Int)), some (.int high), some (.ref R), o6, o7, o8, o9, none, none] ∧ Mw a p q ∧ Kp r q ∧ Rws p a R Ls T q ∧ T.length = i ∧ ∀ r ∈ T, okRow n r,
    ⟨[], [], none, none, none, none, rfl, mp.le lr, .of (.refl lr.s), ⟨fp, hne, kR.1, kR.2, rfl, List.nodup_nil, fun L hL => (by cases hL), fun k L r e1 e2 => (by simp at e1)⟩, rfl, fun r hr => (by cases hr)⟩, fun i σ' q ⟨_, _, _, _, _, _, _, _, h, _⟩ => h, ?_, ?_⟩
  · rintro i e σ' q x q' he ⟨Ls, T, o6, o7, o8, o9, rfl, mq, kq, hRw, hTl, hok⟩ l' hx
    obtain ⟨hi, rfl⟩ := range_at he
    cases hx
    have mq' := mq.le l'
    have hRw' := hRw.le l'
    refine q_asgNM l'.ok mq'.w (en_lst ea_nil) fun F vs q2 l2 g0 hneF g1 g2 g3 => ?_
    cases g3
    have hnew := hRw'.new g0
    have hF0 : p.2 F = none := mq'.back hneF g0
    refine q_for l2.ok (List.range n) (fun e : Nat => .int (e : Int)) (ei_rng1 (n := n) (ev_var (i := 2) rfl (.int _)) (by omega)) fun r2 lr2 => ?_
    have kF := lr2.keep g1 g2
    refine ⟨fun j σ' q => ∃ (row : List (Option Int)) (o8 o9 : Option V), σ' = [some (.ref a), some (.int most), some (.int (n : Int)), some (.int (st : Int)), some (.int high), some (.ref R), some (.int (e : Int)), some (.ref F), o8, o9, none, none] ∧ Mw a p q ∧ Kp r2 q ∧ Rws p a R Ls T q ∧ q.1 F = none ∧ q.2 F = some (.lst (row.map vO)) ∧ row.length = j ∧ ∀ x : Int, some x ∈ row → 0 ≤ x ∧ x ≤ 9,
      ⟨[], o8, o9, rfl, mq'.le (l2.trans lr2), .of (.refl lr2.s), hRw'.le (l2.trans lr2), kF.1, kF.2, rfl, fun x hx => (by cases hx)⟩, fun i σ' q ⟨_, _, _, _, _, h, _⟩ => h, ?_, ?_⟩
    · rintro j e2 σ' q3 y q4 hj ⟨row, o8, o9, rfl, m3, k3, hR3, hF1, hF2, hrl, hre⟩ l4 hy
      obtain ⟨hjn, rfl⟩ := range_at hj
      cases hy
      have m4 := m3.le l4
      have yF := l4.keep hF1 hF2
      obtain ⟨sj, hsj⟩ := style_at hst
      refine q_asgM l4.ok m4.w (em_geM (em_call (Po := fun d => ∃ k : Nat, d = .int (k : Int) ∧ (k : Int) < 6) (i := 0) rfl (fun q m => ea_cons ev_int ea_nil) ⟨6, rfl, by omega, by omega, rfl⟩) (fun d ⟨k, h, _⟩ => ⟨_, h⟩) fun q m => ⟨sj, ev_ixT (n := st) (ev_tup (ea_cons ev_int (ea_cons ev_int (ea_cons ev_int (ea_cons ev_int (ea_cons ev_int ea_nil)))))) (ev_var (i := 3) rfl (.int _)) hsj⟩) fun u q5 d m5 hu hd => ?_
      obtain ⟨b, rfl⟩ := hd
      cases hu
      have hR5 := (hR3.le l4).mw m5
      have yF5 := m5.keep hneF yF.1 yF.2
      have mp5 := m4.trans m5
      refine s_appM (n := 7) (Po := fun d => ∃ o : Option Int, d = eO o ∧ ∀ x : Int, o = some x → 0 ≤ x ∧ x ≤ 9) m5.ok m5.w rfl hneF yF5.1 yF5.2 (em_if (b := b) (et_B (ev_var (i := 9) rfl (.bl b))) (fun _ => (em_call (Po := fun d => ∃ k : Nat, d = .int (k : Int) ∧ (k : Int) < high) (i := 0) rfl (fun q m => ea_cons (ev_var (i := 4) rfl (.int high)) ea_nil) ⟨high, rfl, by omega, by omega, rfl⟩).imp fun d ⟨k, h, hk⟩ => ⟨some (k : Int), h, fun x hx => ?_⟩) (fun _ => (em_D fun q m => ev_non).imp fun d h => ⟨none, h, fun x hx => (by cases hx)⟩) m5.ok fun q m => et_B (ev_var (i := 9) rfl (.bl b))) (by rw [List.length_map]; omega) fun u z d m6 wz hv3 hd w1 w2 => ?_
      · have := Option.some.inj hx; omega
      obtain ⟨o, rfl, ho⟩ := hd
      have hu := hv3.opt
      subst hu
      refine ⟨z, rfl, row ++ [o], _, _, rfl, mp5.app m6 wz hF0, ((k3.trans (.of l4)).trans m5.m.kp').trans m6.kp', hR5.mv m6 (fun e => e.elim hne fun e => hnew.1 e.symm) (fun L hL e => e.elim (hR5.out L hL).2.1 fun e => hnew.2 (e ▸ hL)), w1, ?_, ?_, fun x hx => ?_⟩
      · rw [w2, List.map_append]; rfl
      · rw [List.length_append, hrl]; rfl
      · rcases List.mem_append.mp hx with hx | hx
        · exact hre x hx
        · exact ho x (List.mem_singleton.mp hx).symm
    · rintro σ' q3 ⟨row, o8, o9, rfl, m3, k3, hR3, hF1, hF2, hrl, hre⟩
      rw [List.length_range] at hrl
      have hzl : (Ls.map V.ref).length < 100000 := by rw [List.length_map, hR3.len, hTl]; omega
      refine s_appR (n := 5) (m := 7) m3.ok rfl hR3.r1 hR3.r2 rfl hzl fun z mz z1 z2 => ?_
      have wz := m3.w.mv mz fun e => hne e.symm
      refine ⟨z, rfl, Ls ++ [F], T ++ [row], _, _, _, _, rfl, m3.app (mz.mono fun b e => Or.inr e) wz fp, ((kq.trans (.of (l'.trans (l2.trans lr2)))).trans k3).trans mz.kp', hR3.add mz z1 z2 hnew hneF hF0 hF1 hF2, ?_, fun r hr => ?_⟩
      · rw [List.length_append, hTl]; rfl
      · rcases List.mem_append.mp hr with hr | hr
        · exact hok r hr
        · rw [List.mem_singleton.mp hr]; exact ⟨hrl, hre⟩
  · rintro σ' q ⟨Ls, T, o6, o7, o8, o9, rfl, mq, kq, hRw, hTl, hok⟩
    rw [List.length_range] at hTl
    refine q_asgM mq.ok mq.w (em_call (Po := fun d => ∃ k : Nat, d = .int (k : Int) ∧ (k : Int) < 8) (i := 0) rfl (fun q m => ea_cons ev_int ea_nil) ⟨8, rfl, by omega, by omega, rfl⟩) fun u q2 d m2 hu hd => ?_
    obtain ⟨way, rfl, _⟩ := hd
    cases hu
    have mp2 := mq.trans m2
    have hRw2 := hRw.mw m2
    refine q_when (b := decide ((1 : Int) < (way : Int))) m2.ok (et_D (ev_gt (ev_var (i := 10) rfl (.int _)) ev_int)) (fun _ q3 l3 => ?_) fun _ q3 l3 => ?_
    · have mp3 := mp2.le l3
      have hRw3 := hRw2.le l3
      refine q_asgM l3.ok mp3.w (em_call (i := 0) rfl (fun q m => ea_cons (ev_var (i := 2) rfl (.int (n : Int))) ea_nil) ⟨n, rfl, by omega, rfl⟩) fun ov q4 d m4 hov hd => ?_
      obtain ⟨s, rfl, hs⟩ := hd
      have mp4 := mp3.trans m4
      have hRw4 := hRw3.mw m4
      refine s_for m4.ok (List.range n) (fun e : Nat => .int (e : Int)) (ei_rng1 (n := n) (ev_var (i := 2) rfl (.int _)) (by omega)) fun r4 lr4 => ?_
      refine ⟨fun i σ' q => ∃ (T : HT.Pat) (o6 : Option V), σ' = [some (.ref a), some (.int most), some (.int (n : Int)), some (.int (st : Int)), some (.int high), some (.ref R), o6, o7, o8, o9, some (.int (way : Int)), some ov] ∧ Mw a p q ∧ Kp r4 q ∧ Rws p a R Ls T q ∧ T.length = n ∧ (∀ r ∈ T, okRow n r) ∧ Da q.1 ov (.list (s.map fun e : Nat => .int (e : Int))),
        ⟨T, o6, rfl, mp4.le lr4, .of (.refl lr4.s), hRw4.le lr4, hTl, hok, hov.up lr4.d⟩, fun i σ' q ⟨_, _, _, _, h, _⟩ => h, ?_, ?_⟩
      · rintro i e σ' q x q' he ⟨T, o6, rfl, mq, kq, hRw, hTl, hok, hov⟩ l' hx
        obtain ⟨hi, rfl⟩ := range_at he
        cases hx
        refine s_fill (K := K) (i0 := 0) (iR := 5) (iI := 6) (iO := 11) (i := e) l'.ok (mq.le l').w (mq.le l') (hRw.le l') rfl rfl rfl rfl (hov.up l'.d) hs hi (by omega) hTl (fun r hr => (hok r hr).1) (fun q m => ev_var (i := 4) rfl (.int high)) hh0 (by omega) fun T' z mz _ kz hRz hf => ?_
        have hk := hf.keep (by omega) hs hi hTl hok
        exact ⟨z, rfl, T', _, rfl, mz, (kq.trans (.of l')).trans kz, hRz, hk.1, hk.2.1, (hov.up l'.d).up kz.e⟩
      · rintro σ' q ⟨T, o6, rfl, mq, kq, hRw, hTl, hok, hov⟩
        exact s_retRows mq hRw (by omega) rfl rfl (fun x => rfl) (fun x => rfl) fun v z mz hz => kk v z _ mz hz ⟨T, n, rfl, isPat_of (by omega) hn4 hTl hok⟩
    · exact s_retRows (mp2.le l3) (hRw2.le l3) (by omega) rfl rfl (fun x => rfl) (fun x => rfl) fun v z mz hz => kk v z _ mz hz ⟨T, n, rfl, isPat_of (by omega) hn4 hTl hok⟩
abbrev s_l_filled : Stmt := topS 43
abbrev n_l_filled : List Str := ["_law_well_here", "_law_most", "_law_high", "_law_rows", "_law_order", "_law_i", "_law_line", "_law_each"]
theorem sc_l_filled : FnScope n_l_filled ["_law_well_here", "_law_most", "_law_high"] (defScope s_l_filled) := ⟨rfl, rfl, rfl, by decide +kernel, rfl, by decide +kernel, by decide +kernel⟩
def R_filled : List PyData → (PyData → Prop) → Prop := fun ds Po => ∃ most high : Int, ds = [.int most, .int high] ∧ 1 ≤ most ∧ 0 ≤ high ∧ Po = fun d => ∃ T n, d = ePat T ∧ IsPat T n ∧ ∃ s, IsCh T n s
theorem R_filled_len : ∀ ds d, R_filled ds d → ds.length = 2 := fun ds d ⟨_, _, h, _⟩ => by rw [h]; rfl
def capR (h : Int) (r : List (Option Int)) : List (Option Int) := r.map fun o => o.map fun x => min x h
theorem cap_ok {n : Nat} {h : Int} {r : List (Option Int)} (hr : okRow n r) (h0 : 0 ≤ h) : okRow n (capR h r) := by
  refine ⟨by unfold capR; rw [List.length_map]; exact hr.1, fun x hx => ?_⟩
  unfold capR at hx
  obtain ⟨o, ho, e⟩ := List.mem_map.mp hx
  cases o with
  | none => cases e
  | some y =>
    have e : min y h = x := Option.some.inj e
    have := hr.2 y ho
    omega
theorem row_ok {T : HT.Pat} {n : Nat} (h : IsPat T n) : ∀ r ∈ T, okRow n r := fun r hr => ⟨h.row r hr, fun x hx => ent_mem h hr hx⟩
theorem cap_ent {T : HT.Pat} {n i j : Nat} {h x : Int} (hP : IsPat T n) (hi : i < n) (hj : j < n) (e : ent T i j = some x) : ent (T.map (capR h)) i j = some (min x h) := by
  obtain ⟨r, h1, h2, h3⟩ := ent_at hP hi hj
  rw [e] at h3
  exact ent_of (r := capR h r) (by rw [List.getElem?_map, h1]; rfl) (by unfold capR; rw [List.getElem?_map, h3]; rfl)
theorem ok_filled {f : Addr} {fd : FuncData} (F : Fun K "_law_filled" "_law_filled" s_l_filled f fd) (B : Blt mg) (C_l_draw : Cal P w K mg base 1 "_law_draw" ["_law_well_here", "_law_many"] (spW R_draw)) (C_l_grid : Cal P w K mg base 3 "_law_grid" ["_law_well_here", "_law_most"] (spW R_grid))
    (C_l_order_list : Cal P w K mg base 2 "_law_order_list" ["_law_well_here", "_law_n"] (spW R_order)) : FnOk P w K mg base CX0 4 f fd ["_law_well_here", "_law_most", "_law_high"] (spW R_filled) := by
  refine F.ok sc_l_filled (fun vs H Q E h => spW_len R_filled_len h) (fun cdv A outer s H vs Q E hr h => ?_)
  have sc := sc_l_filled
  obtain ⟨p, a, us, ds, Po, rfl, ok, rfl, hv, ⟨most, high, rfl, hmost, hhigh, rfl⟩, hw, kk⟩ := h
  obtain ⟨v1, v2, rfl, h1, h2⟩ := hv.two'
  cases h1; cases h2
  refine ⟨_, pss_cons (ps_setLc (i := 3) (own := [("_law_line", 6)]) rfl sc.nd rfl rfl (sw_true rfl rfl rfl (by decide +kernel)) (pi_tupK K (pe_cal C_l_grid (hr.mono (by decide)) (by rfl) (pa_cons (pv 0) (pa_cons (pv 1) pa_nil)))) (blkOk_by (own := [("_law_line", 6)]) (by show blkC n_l_filled (defScope s_l_filled) _ _ = true; decide +kernel)) (fun _ _ _ _ _ => pg_name (i := 6) sc.nd rfl (Or.inl rfl)) (fun _ _ _ _ _ => pts_nil) (fun _ _ _ _ _ => pe_callTy (call_listK K) (by rfl) B.list_ bo_list (pa_cons (pv 6) pa_nil)))
      (pss_cons (ps_set (i := 4) sc.nd rfl (Or.inl rfl) (pe_cal C_l_order_list (hr.mono (by decide)) (by rfl) (pa_cons (pv 0) (pa_cons (pe_callB (call_lenK K) (by rfl) B.len_ bo_len (pa_cons (pv 3) pa_nil)) pa_nil))))
      (pss_cons (ps_for PassesOwn.never rfl (pi_range1 (by rfl) B.range_ (pa_cons (pe_callB (call_lenK K) (by rfl) B.len_ bo_len (pa_cons (pv 3) pa_nil)) pa_nil)) (pg_name (i := 5) sc.nd rfl (Or.inl rfl)) (pss_one (ps_if (pt_cmpR op_isN (pe_ix (ix_listK K) (pe_ix (ix_listK K) (pv 3) (pv 5) (fun _ _ => rfl)) (pe_ix (ix_listK K) (pv 4) (pv 5) (fun _ _ => rfl)) (fun _ _ => rfl)) (pe_non) (nomark _)) (pss_one (ps_asg (pe_cal C_l_draw (hr.mono (by decide)) (by rfl) (pa_cons (pv 0) (pa_cons (pe_int) pa_nil))) (pg_sub (pe_ix (ix_listK K) (pv 3) (pv 5) (fun _ _ => rfl)) (pe_ix (ix_listK K) (pv 4) (pv 5) (fun _ _ => rfl)) set_list))) (pss_nil))))
      (pss_one (ps_ret (pe_callTy (call_tupleK K) (by rfl) B.tuple_ bo_tuple (pa_cons (pe_lc (own := [("_law_line", 6)]) rfl sc.nd (pi_listK K (pv 3)) (blkOk_by (own := [("_law_line", 6)]) (by show blkC n_l_filled (defScope s_l_filled) _ _ = true; decide +kernel)) (fun _ _ _ _ _ => pg_name (i := 6) sc.nd rfl (Or.inl rfl)) (fun _ _ _ _ _ => pts_nil) (fun _ _ _ _ _ => pe_callTy (call_tupleK K) (by rfl) B.tuple_ bo_tuple (pa_cons (pe_lc (own := [("_law_each", 7)]) rfl sc.nd (pi_listK K (pv 6)) (blkOk_by (own := [("_law_each", 7)]) (by show blkC n_l_filled (relS _ (defScope s_l_filled)) _ _ = true; decide +kernel)) (fun _ _ _ _ _ => pg_name (i := 7) sc.nd rfl (Or.inl rfl)) (fun _ _ _ _ _ => pts_nil) (fun _ _ _ _ _ => pe_ifExp (pt_cmpR op_isN (pv 7) (pe_non) (nomark _)) (pv 7) (pe_callB (call_min2 rfl) (by rfl) B.min_ bo_min (pa_cons (pv 7) (pa_cons (pv 2) pa_nil))))) pa_nil))) pa_nil)))))), ?_⟩
  refine q_rows (iR := 3) (iL := 6) hw ok (em_call (i := 0) rfl (fun q m => ea_cons (ev_var (i := 1) rfl (.int most)) ea_nil) ⟨most, rfl, hmost, rfl⟩) (fun d h => h) (fun x => rfl) (fun x => rfl) fun T n R Ls q hP mq hRw => ?_
  have hn := hP.le
  have hlen : ∀ {q : Two} {σ : L2.St} {T : HT.Pat}, σ[3]? = some (some (.ref R)) → Rws p a R Ls T q → T.length = n → EvD (tCB (rLen K) (tCons (tVar 3) tNil)) σ q (.int (n : Int)) := fun e h hT => (ev_lenM (er_var (i := 3) e) h.r2).is (by rw [List.length_map, h.len, hT])
  refine q_asgM mq.ok mq.w (em_call (i := 0) rfl (fun q m => ea_cons (hlen rfl (hRw.mw m) hP.len) ea_nil) ⟨n, rfl, by omega, rfl⟩) fun ov q2 d m2 hov hd => ?_
  obtain ⟨s, rfl, hs⟩ := hd
  have mp2 := mq.trans m2
  have hRw2 := hRw.mw m2
  refine q_for m2.ok (List.range n) (fun e : Nat => .int (e : Int)) (ei_rng1 (n := n) (hlen rfl hRw2 hP.len) (by omega)) fun r4 lr4 => ?_
  refine ⟨fun i σ' q => ∃ (T : HT.Pat) (o5 : Option V), σ' = [some (.ref a), some (.int most), some (.int high), some (.ref R), some ov, o5, none, none] ∧ Mw a p q ∧ Kp r4 q ∧ Rws p a R Ls T q ∧ T.length = n ∧ (∀ r ∈ T, okRow n r) ∧ Da q.1 ov (.list (s.map fun e : Nat => .int (e : Int))) ∧ ∀ k, k < i → ∃ x, ent T k (sel s k) = some x,
    ⟨T, none, rfl, mp2.le lr4, .of (.refl lr4.s), hRw2.le lr4, hP.len, row_ok hP, hov.up lr4.d, fun k hk => (by omega)⟩, fun i σ' q ⟨_, _, _, _, h, _⟩ => h, ?_, ?_⟩
  · rintro i e σ' q x q' he ⟨T, o5, rfl, mq, kq, hRw, hTl, hok, hov, hfil⟩ l' hx
    obtain ⟨hi, rfl⟩ := range_at he
    cases hx
    refine s_fill (K := K) (i0 := 0) (iR := 3) (iI := 5) (iO := 4) (i := e) l'.ok (mq.le l').w (mq.le l') (hRw.le l') rfl rfl rfl rfl (hov.up l'.d) hs hi (by omega) hTl (fun r hr => (hok r hr).1) (fun q m => ev_int) (m := 3) (by omega) (by omega) fun T' z mz _ kz hRz hf => ?_
    have hk := hf.keep (by omega) hs hi hTl hok
    refine ⟨z, rfl, T', _, rfl, mz, (kq.trans (.of l')).trans kz, hRz, hk.1, hk.2.1, (hov.up l'.d).up kz.e, fun k hkl => ?_⟩
    by_cases q : k < e
    · obtain ⟨x, hx⟩ := hfil k q
      exact hk.2.2.2 k x hx
    · have e9 : k = e := by omega
      subst e9
      exact hk.2.2.1
  · rintro σ' q ⟨T, o5, rfl, mq, kq, hRw, hTl, hok, hov, hfil⟩
    rw [List.length_range] at hfil
    have hP' : IsPat T n := isPat_of hP.pos hn hTl hok
    obtain ⟨D', x1, m3, hd⟩ := hRw.data mq
    refine s_ret (p := (D', q.2)) (d := ePat (T.map (capR high))) m3.ok (ev_tupL (EvN.toD (EvN.is (en_lc T (fun r => .list (r.map eO)) (fun _ => true) (fun r => eRow (capR high r)) (ei_list (ev_var (i := 3) rfl hd)) (fun r hr x q5 l5 hx Q2 k2 => k2 _ (by rfl) et_yes fun _ => ?_) (by omega)) ?_))) fun v z l hv => kk v z _ (m3.le l) hv ⟨T.map (capR high), n, rfl, ?_, s, hs, fun i hi => ?_⟩
    · refine ev_tupL (EvN.toD (EvN.is (en_lc r eO (fun _ => true) (fun o => eO (o.map fun x => min x high)) (ei_list (ev_var (i := 6) rfl hx)) (fun o ho y q6 l6 hy Q2 k2 => k2 _ (by rfl) et_yes fun _ => ?_) (by have := (hok r hr).1; omega)) ?_))
      · refine ev_if (b := o.isNone) (et_D (ev_isN (o := o) (ev_var (i := 7) rfl hy))) (fun hb => ?_) fun hb => ?_
        · cases o with
          | none => exact ev_var (i := 7) rfl hy
          | some x => cases hb
        · cases o with
          | none => cases hb
          | some x => exact ev_min2 (ev_var (i := 7) rfl hy) (ev_var (i := 2) rfl (.int high))
      · rw [filter_all]; unfold capR; rw [List.map_map]; rfl
    · rw [filter_all, List.map_map]; rfl
    · exact isPat_of hP.pos hn (by rw [List.length_map]; exact hTl) fun r hr => by
        obtain ⟨r0, h0, rfl⟩ := List.mem_map.mp hr
        exact cap_ok (hok r0 h0) hhigh
    · obtain ⟨x, hx⟩ := hfil i hi
      exact ⟨_, cap_ent hP' hi (hs.sel_lt hi) hx⟩
end
end HR

namespace HR
open PySem PySem.Spec PyProof.Rows L2
open Evl (Ex)
open HT (ent IsPat IsCh sel sm wt IsW Feas Best Offs it nx top od LeN Cols IsPerm)
/-! ### what is shown -/
def Shn (d : PyData) : Prop := d.showable = true ∧ d.hasDict = false ∧ d.shown.length ≤ sizeLine ∧ d.depth ≤ 8
instance (d : PyData) : Decidable (Shn d) := by unfold Shn; infer_instance
theorem shn36 : ∀ k : Fin 37, Shn (.list [.bool true, .bool true, .int (k.val : Int), .bool true]) := by decide +kernel
theorem shn2 : Shn (.list [.bool true, .bool true]) := by decide +kernel
theorem shnW {W : Int} (h0 : 0 ≤ W) (h1 : W ≤ 36) : Shn (.list [.bool true, .bool true, .int W, .bool true]) := by
  have h := shn36 ⟨W.toNat, by omega⟩
  have e : ((W.toNat : Nat) : Int) = W := Int.toNat_of_nonneg h0
  have h : Shn (.list [.bool true, .bool true, .int ((W.toNat : Nat) : Int), .bool true]) := h
  rw [e] at h; exact h
def EvS (te : TE) (σ : L2.St) (p : Two) (x : Str) : Prop := ∀ q, Le p q → ∀ Q : VK, (∀ r, Le q r → Q (.str x) r.2) → te σ q.2 Q
section
variable {K : PySem.W.Frag} {a : Addr} {p q : Two} {σ : L2.St} {te ta tb : TE} {x : Str} {b : Bool}
theorem es_repr {ds : List PyData} (h : EvD te σ p (.list ds)) (hs : Shn (.list ds)) : EvS (tCB (rRepr K) (tCons te tNil)) σ p (PyData.shown (.list ds)) := fun q l Q k => h q l _ fun v r l1 hv => by
  have hd : Dp K r.2 v (.list ds) := hv.dp l1.s
  cases hv with
  | lst h1 h2 => exact ⟨_, _, rfl, ⟨_, rfl⟩, hd, hs.1, hs.2.1, hs.2.2.1, hs.2.2.2, k r l1⟩
theorem es_reprB (h : EvD te σ p (.bool b)) : EvS (tCB rReprB (tCons te tNil)) σ p (PyData.shown (.bool b)) := fun q l Q k => h q l _ fun v r l1 hv => by
  cases hv
  exact ⟨b, rfl, fun x e => by rw [e]; exact k r l1⟩
theorem et_neS (h1 : EvS ta σ p x) (h2 : EvS tb σ p x) : EvB (tTest (tOp rNe ta tb)) σ p false := fun q l Q k => h1 q l _ fun r l1 => h2 r (l.trans l1) _ fun r2 l2 => ⟨rfl, false, by rw [decide_eq_true (rfl : V.str x = V.str x)]; rfl, k r2 (l1.trans l2)⟩
theorem ev_eqS (h1 : EvS ta σ p x) (h2 : EvS tb σ p x) : EvD (tOp rEq ta tb) σ p (.bool true) := fun q l Q k => h1 q l _ fun r l1 => h2 r (l.trans l1) _ fun r2 l2 => ⟨rfl, by
  rw [decide_eq_true (rfl : V.str x = V.str x)]
  exact k _ r2 (l1.trans l2) (.bl true)⟩
theorem em_tup {ta : TA} {P2 : List PyData → Prop} (h : EvMA a ta σ p P2) (hz : ∀ ds, P2 ds → ds.length ≤ 100000) : EvM a (tTup ta) σ p (fun d => ∃ ds, d = .tuple ds ∧ P2 ds) := fun q m Q k =>
  h q m _ fun vs r1 ds m1 hv hd => ⟨by rw [hv.length]; exact Evl.sz_of (hz ds hd), fun z hz => k _ (_, upd r1.2 z (.tup vs)) (.tuple ds) (m1.le (.new m1.ok hz)) (.newT (ex_free m1.ok hz) hv) ⟨ds, rfl, hd⟩⟩
theorem q_par3X {i j l : Nat} {ta : TA} {P2 : List PyData → Prop} {D : Ends} {tz : TS} (ok : Ok p) (h : EvXA ta σ p P2) (k : ∀ vs q ds, Le p q → DaAll q.1 vs ds → P2 ds → ∃ u v w, vs = [u, v, w] ∧ tz D (((σ.set i (some u)).set j (some v)).set l (some w)) q.2) : tSeq (tPar3 i j l ta) tz D σ p.2 := h p (.refl ok) _ k
end
/-! ### the heaviest weight -/
theorem sm_const (n : Nat) (x : Int) : sm n (fun _ => x) = (n : Int) * x := by
  induction n with
  | zero => rw [HT.sm_zero]; simp
  | succ n ih => rw [HT.sm_succ, ih]; rw [Int.natCast_add, Int.add_mul]; simp
theorem w_bound {T : HT.Pat} {n : Nat} {W : Int} (hP : IsPat T n) (hW : IsW T n W) : 0 ≤ W ∧ W ≤ 36 := by
  obtain ⟨s, hs, rfl⟩ := hW.ex
  have hb : ∀ i, i < n → 0 ≤ (ent T i (sel s i)).getD 0 ∧ (ent T i (sel s i)).getD 0 ≤ 9 := fun i hi => by
    obtain ⟨x, hx⟩ := hs.some_ i hi
    have := hP.ord _ _ _ hx
    rw [hx]; exact this
  have h1 : sm n (fun _ => 0) ≤ wt T n s := HT.sm_le fun i hi => (hb i hi).1
  have h2 : wt T n s ≤ sm n (fun _ => 9) := HT.sm_le fun i hi => (hb i hi).2
  rw [sm_const] at h1 h2
  have := hP.le
  omega
theorem exists_W {T : HT.Pat} {n : Nat} (hP : IsPat T n) (h : ∃ s, IsCh T n s) : ∃ W, IsW T n W := by
  obtain ⟨s, hs⟩ := h
  obtain ⟨W, hW⟩ := exists_mx (ns := (chsL n T).map fun s => wt T n s) (by
    intro e
    rw [List.map_eq_nil_iff] at e
    have := (mem_chsL hP s).mpr hs
    rw [e] at this; cases this)
  obtain ⟨t, ht, e⟩ := List.mem_map.mp hW.1
  exact ⟨W, ⟨t, (mem_chsL hP t).mp ht, e⟩, fun u hu => hW.2 _ (List.mem_map.mpr ⟨u, (mem_chsL hP u).mpr hu, rfl⟩)⟩
theorem fL_sum (n : Nat) (f : Nat → Int) : (fL n f).sum = sm n f := rfl
theorem isOff_fL {T : HT.Pat} {n : Nat} {W : Int} {c d : Nat → Int} (hP : IsPat T n) (h : Best T n W c d) : IsOff T n (fL n c) (fL n d) := ⟨hP, fL_len _ _, fL_len _ _, fun i hi => by rw [fI_fL hi]; exact h.c0 i hi, fun i hi => by rw [fI_fL hi]; exact h.d0 i hi, fun i j a hi hj ha => by rw [fI_fL hi, fI_fL hj]; exact h.feas i j a hi hj ha⟩
theorem mmL_fL {b : Bool} {n : Nat} {f g : Nat → Int} : mmL b n (fL n f) (fL n g) = fL n fun i => mm b (f i) (g i) := fL_congr fun i hi => by rw [fI_fL hi, fI_fL hi]
theorem best_mm {T : HT.Pat} {n : Nat} {W : Int} {c d c' d' : Nat → Int} (hW : IsW T n W) (h : Best T n W c d) (h' : Best T n W c' d') (b : Bool) : Best T n W (fun i => mm b (c i) (c' i)) (fun i => mm b (d i) (d' i)) := by
  have := HT.best_minmax hW h h'
  cases b with
  | true => exact this.1
  | false => exact this.2
theorem off_mm {T : HT.Pat} {n : Nat} {c d c' d' : List Int} (h : IsOff T n c d) (h' : IsOff T n c' d') (b : Bool) : IsOff T n (mmL b n c c') (mmL b n d d') := by
  refine ⟨h.pat, fL_len _ _, fL_len _ _, ?_⟩
  have hm : Offs T n (fun i => mm b (fI c i) (fI c' i)) (fun i => mm b (fI d i) (fI d' i)) := by
    cases b with
    | true => exact HT.offs_min h.offs h'.offs
    | false => exact HT.offs_max h.offs h'.offs
  exact ⟨fun i hi => by unfold mmL; rw [fI_fL hi]; exact hm.c0 i hi, fun i hi => by unfold mmL; rw [fI_fL hi]; exact hm.d0 i hi, fun i j a hi hj ha => by unfold mmL; rw [fI_fL hi, fI_fL hj]; exact hm.feas i j a hi hj ha⟩
section
variable {K : PySem.W.Frag} {a : Addr} {p q : Two} {σ : L2.St}
/-- best_from(rows, pick(well, top), start(well, len(rows))) -/
theorem em_bf {T : HT.Pat} {n : Nat} {W : Int} {v1 v2 : V} (h0 : σ[0]? = some (some (.ref a))) (h1 : σ[1]? = some (some v1)) (h2 : σ[2]? = some (some v2)) (d1 : Da p.1 v1 (ePat T)) (d2 : Da p.1 v2 (.list ((bestL T n W).map eS))) (hP : IsPat T n) (hW : IsW T n W) (hB : ∃ c d, Best T n W c d) :
    EvM a (tCall (spQ Q_bestfrom) [] E0 (tCons (tVar 1) (tCons (tCall (spW R_pick) [] E0 (tCons (tVar 0) (tCons (tVar 2) tNil))) (tCons (tCall (spW R_start) [] E0 (tCons (tVar 0) (tCons (tCB (rLen K) (tCons (tVar 1) tNil)) tNil))) tNil)))) σ p (fun d => ∃ c' d', d = eOff (fL n c') (fL n d') ∧ Best T n W c' d') := by
  have hn := hP.le
  have hne : (bestL T n W).map eS ≠ [] := by
    intro e
    rw [List.map_eq_nil_iff] at e
    obtain ⟨s, hs, hw⟩ := hW.ex
    have : s ∈ bestL T n W := List.mem_filter.mpr ⟨(mem_chsL hP s).mpr hs, by rw [hw]; simp⟩
    rw [e] at this; cases this
  have hle : ((bestL T n W).map eS).length < 100000 := by
    have h3 : (bestL T n W).length ≤ (chsL n T).length := List.length_filter_le _ _
    have := chs_le hP
    rw [List.length_map]; omega
  refine em_callQ (ema_cons (em_var h1 d1) (ema_cons (em_call h0 (fun q m => ea_cons (ev_var h2 (d2.up m.d)) ea_nil) ⟨_, .inr rfl, hne, hle, rfl⟩) (ema_cons (em_call h0 (fun q m => ea_cons ((ev_lenT (ev_var h1 (d1.up m.d))).is (by rw [List.length_map, hP.len])) ea_nil) ⟨n, rfl, by omega, rfl⟩) ema_nil))) ?_
  rintro ds ⟨_, _, rfl, rfl, _, _, rfl, hd, _, _, rfl, ⟨c, rfl, hcl, hc0⟩, rfl⟩
  obtain ⟨s, hs, rfl⟩ := List.mem_map.mp hd
  have hs := List.mem_filter.mp hs
  exact ⟨_, ⟨T, n, W, s, c, rfl, hP, hW, (mem_chsL hP s).mp hs.1, of_decide_eq_true hs.2, hcl, hc0, hB, rfl⟩, fun d h => h⟩
end
section
variable {P : Program} {w : World} {K : PySem.W.Frag} {mg : Str → Option Value} {base : Heap}
abbrev s_l_right : Stmt := topS 48
abbrev n_l_right : List Str := ["_law_well_here", "_law_rows", "_law_top", "_law_weight_here", "_law_least", "_law_one", "_law_two", "_law_up", "_law_some", "_law_told", "_law_any_now", "_law_span", "_law_pairs_now", "_law_each"]
theorem sc_l_right : FnScope n_l_right ["_law_well_here"] (defScope s_l_right) := ⟨rfl, rfl, rfl, by decide +kernel, rfl, by decide +kernel, by decide +kernel⟩
def spRight : Sp := fun vs H Q _ => ∃ (p : Two) (a : Addr), p.2 = H ∧ Ok p ∧ vs = [.ref a] ∧ Wl a p ∧ ∀ q, Mw a p q → Q (.bl true) q.2
theorem ok_right {f : Addr} {fd : FuncData} (F : Fun K "_law_right" "_law_right" s_l_right f fd) (B : Blt mg) (C_l_filled : Cal P w K mg base 4 "_law_filled" ["_law_well_here", "_law_most", "_law_high"] (spW R_filled)) (C_l_heaviest : Cal P w K mg base 2 "_law_heaviest" ["_law_rows"] (spF R_heaviest))
    (C_heaviest_weight : Cal P w K mg base 7 "heaviest_weight" ["pattern"] (spF R_heavy)) (C_least_offsets : Cal P w K mg base 8 "least_offsets" ["pattern"] (spQ Q_least)) (C_l_best_from : Cal P w K mg base 1 "_law_best_from" ["_law_rows", "_law_some", "_law_start_here"] (spQ Q_bestfrom))
    (C_l_pick : Cal P w K mg base 2 "_law_pick" ["_law_well_here", "_law_some"] (spW R_pick)) (C_l_start : Cal P w K mg base 3 "_law_start" ["_law_well_here", "_law_n"] (spW R_start)) (C_l_draw : Cal P w K mg base 1 "_law_draw" ["_law_well_here", "_law_many"] (spW R_draw)) (C_l_together : Cal P w K mg base 1 "_law_together" ["_law_one", "_law_two", "_law_is_less"] (spF R_tog))
    (C_are_offsets : Cal P w K mg base 6 "are_offsets" ["pattern", "value"] (spF (R_off (.bool true)))) (C_are_best : Cal P w K mg base 8 "are_best" ["pattern", "offsets"] (spF R_arebest)) (C_span_of : Cal P w K mg base 6 "span_of" ["pattern", "offsets"] (spF R_spanof)) (C_l_is_from : Cal P w K mg base 1 "_law_is_from" ["_law_some", "_law_least"] (spF R_from))
    (C_l_any_offsets : Cal P w K mg base 3 "_law_any_offsets" ["_law_well_here", "_law_rows"] (spW R_anyoff)) : FnG P w K mg base 9 f fd ["_law_well_here"] spRight := by
  refine HR.Fun.okG F sc_l_right (fun vs H Q E ⟨_, _, _, _, h, _⟩ => by rw [h]; rfl) (fun cdv A outer s H vs Q E hgd hr h => ?_)
  have sc := sc_l_right
  obtain ⟨p, a, rfl, ok, rfl, hw, kk⟩ := h
  refine ⟨_, pss_cons (ps_set (i := 1) sc.nd rfl (Or.inr rfl) (pe_cal C_l_filled (hr.mono (by decide)) (by rfl) (pa_cons (pv 0) (pa_cons (pe_int) (pa_cons (pe_int) pa_nil)))))
      (pss_cons (ps_par3 (i := 2) (j := 3) (l := 4) rfl sc.nd rfl rfl rfl (by decide) (by decide) (by decide) rfl rfl rfl (pa_cons (pe_ix (ix_tupK K) (pe_cal C_l_heaviest (hr.mono (by decide)) (by rfl) (pa_cons (pv 1) pa_nil)) (pe_int) (fun _ _ => rfl)) (pa_cons (pe_cal C_heaviest_weight (hr.mono (by decide)) (by rfl) (pa_cons (pv 1) pa_nil)) (pa_cons (pe_cal C_least_offsets (hr.mono (by decide)) (by rfl) (pa_cons (pv 1) pa_nil)) pa_nil))) (by rfl))
      (pss_cons (ps_set (i := 5) sc.nd rfl (Or.inl rfl) (pe_cal C_l_best_from (hr.mono (by decide)) (by rfl) (pa_cons (pv 1) (pa_cons (pe_cal C_l_pick (hr.mono (by decide)) (by rfl) (pa_cons (pv 0) (pa_cons (pv 2) pa_nil))) (pa_cons (pe_cal C_l_start (hr.mono (by decide)) (by rfl) (pa_cons (pv 0) (pa_cons (pe_callB (call_lenK K) (by rfl) B.len_ bo_len (pa_cons (pv 1) pa_nil)) pa_nil))) pa_nil)))))
      (pss_cons (ps_asg (pe_tup (pa_cons (pe_cal C_l_best_from (hr.mono (by decide)) (by rfl) (pa_cons (pv 1) (pa_cons (pe_cal C_l_pick (hr.mono (by decide)) (by rfl) (pa_cons (pv 0) (pa_cons (pv 2) pa_nil))) (pa_cons (pe_cal C_l_start (hr.mono (by decide)) (by rfl) (pa_cons (pv 0) (pa_cons (pe_callB (call_lenK K) (by rfl) B.len_ bo_len (pa_cons (pv 1) pa_nil)) pa_nil))) pa_nil)))) (pa_cons (pe_cal C_l_draw (hr.mono (by decide)) (by rfl) (pa_cons (pv 0) (pa_cons (pe_int) pa_nil))) pa_nil))) (pg_tupK K (n := 2) rfl (pgs_cons (pg_name (i := 6) sc.nd rfl (Or.inl rfl)) (pgs_cons (pg_name (i := 7) sc.nd rfl (Or.inr rfl)) (pgs_nil)))))
      (pss_cons (ps_set (i := 6) sc.nd rfl (Or.inl rfl) (pe_tup (pa_cons (pe_callTy (call_tupleK K) (by rfl) B.tuple_ bo_tuple (pa_cons (pe_lc (own := [("_law_each", 13)]) rfl sc.nd (pi_tupK K (pe_ix (ix_tupK K) (pv 6) (pe_int) (fun _ _ => rfl))) (blkOk_by (own := [("_law_each", 13)]) (by show blkC n_l_right (defScope s_l_right) _ _ = true; decide +kernel)) (fun _ _ _ _ _ => pg_name (i := 13) sc.nd rfl (Or.inl rfl)) (fun _ _ _ _ _ => pts_nil) (fun _ _ _ _ _ => pe_op op_add (pv 13) (pv 7))) pa_nil)) (pa_cons (pe_callTy (call_tupleK K) (by rfl) B.tuple_ bo_tuple (pa_cons (pe_lc (own := [("_law_each", 13)]) rfl sc.nd (pi_tupK K (pe_ix (ix_tupK K) (pv 6) (pe_int) (fun _ _ => rfl))) (blkOk_by (own := [("_law_each", 13)]) (by show blkC n_l_right (defScope s_l_right) _ _ = true; decide +kernel)) (fun _ _ _ _ _ => pg_name (i := 13) sc.nd rfl (Or.inl rfl)) (fun _ _ _ _ _ => pts_nil) (fun _ _ _ _ _ => pe_op op_add (pv 13) (pv 7))) pa_nil)) pa_nil))))
      (pss_cons (ps_for PassesOwn.never rfl (pi_tupK K (pe_tup (pa_cons (pv 5) (pa_cons (pv 6) (pa_cons (pe_cal C_l_together (hr.mono (by decide)) (by rfl) (pa_cons (pv 5) (pa_cons (pv 6) (pa_cons (pe_bl) pa_nil)))) (pa_cons (pe_cal C_l_together (hr.mono (by decide)) (by rfl) (pa_cons (pv 5) (pa_cons (pv 6) (pa_cons (pe_bl) pa_nil)))) pa_nil)))))) (pg_name (i := 8) sc.nd rfl (Or.inl rfl)) (pss_cons (ps_set (i := 9) sc.nd rfl (Or.inl rfl) (pe_lst (pa_cons (pe_cal C_are_offsets (hr.mono (by decide)) (by rfl) (pa_cons (pv 1) (pa_cons (pv 8) pa_nil))) (pa_cons (pe_cal C_are_best (hr.mono (by decide)) (by rfl) (pa_cons (pv 1) (pa_cons (pv 8) pa_nil))) (pa_cons (pe_cal C_span_of (hr.mono (by decide)) (by rfl) (pa_cons (pv 1) (pa_cons (pv 8) pa_nil))) (pa_cons (pe_cal C_l_is_from (hr.mono (by decide)) (by rfl) (pa_cons (pv 8) (pa_cons (pv 4) pa_nil))) pa_nil))))))
      (pss_one (ps_if (pt_cmpR op_ne (pe_callB (call_reprK K hgd hr.units) (by rfl) B.repr_ bo_repr (pa_cons (pv 9) pa_nil)) (pe_callB (call_reprK K hgd hr.units) (by rfl) B.repr_ bo_repr (pa_cons (pe_lst (pa_cons (pe_bl) (pa_cons (pe_bl) (pa_cons (pv 3) (pa_cons (pe_bl) pa_nil))))) pa_nil)) (nomark _)) (pss_one (ps_ret (pe_bl))) (pss_nil)))))
      (pss_cons (ps_set (i := 10) sc.nd rfl (Or.inl rfl) (pe_cal C_l_any_offsets (hr.mono (by decide)) (by rfl) (pa_cons (pv 0) (pa_cons (pv 1) pa_nil))))
      (pss_cons (ps_set (i := 11) sc.nd rfl (Or.inl rfl) (pe_cal C_span_of (hr.mono (by decide)) (by rfl) (pa_cons (pv 1) (pa_cons (pv 10) pa_nil))))
      (pss_cons (ps_if (PW.pt (pw_or (pt_cmpR op_lt (pv 11) (pv 3) (nomark _)) (pw_or1 (pt_cmpR op_ne (pe_callB (call_reprB) (by rfl) B.repr_ bo_repr (pa_cons (pe_cal C_are_best (hr.mono (by decide)) (by rfl) (pa_cons (pv 1) (pa_cons (pv 10) pa_nil))) pa_nil)) (pe_callB (call_reprB) (by rfl) B.repr_ bo_repr (pa_cons (pe_cmpR op_eq (pv 11) (pv 3) (nomark _)) pa_nil)) (nomark _))))) (pss_one (ps_ret (pe_bl))) (pss_nil))
      (pss_cons (ps_set (i := 12) sc.nd rfl (Or.inl rfl) (pe_lst (pa_cons (pe_cal C_l_together (hr.mono (by decide)) (by rfl) (pa_cons (pv 10) (pa_cons (pv 5) (pa_cons (pe_bl) pa_nil)))) (pa_cons (pe_cal C_l_together (hr.mono (by decide)) (by rfl) (pa_cons (pv 10) (pa_cons (pv 5) (pa_cons (pe_bl) pa_nil)))) pa_nil))))
      (pss_one (ps_ret (pe_cmpR op_eq (pe_callB (call_reprK K hgd hr.units) (by rfl) B.repr_ bo_repr (pa_cons (pe_lc (own := [("_law_each", 13)]) rfl sc.nd (pi_listK K (pv 12)) (blkOk_by (own := [("_law_each", 13)]) (by show blkC n_l_right (defScope s_l_right) _ _ = true; decide +kernel)) (fun _ _ _ _ _ => pg_name (i := 13) sc.nd rfl (Or.inl rfl)) (fun _ _ _ _ _ => pts_nil) (fun _ _ _ _ _ => pe_cal C_are_offsets (hr.mono (by decide)) (by rfl) (pa_cons (pv 1) (pa_cons (pv 13) pa_nil)))) pa_nil)) (pe_callB (call_reprK K hgd hr.units) (by rfl) B.repr_ bo_repr (pa_cons (pe_lst (pa_cons (pe_bl) (pa_cons (pe_bl) pa_nil))) pa_nil)) (nomark _))))))))))))), ?_⟩
  refine q_asgM ok hw (em_call (i := 0) rfl (fun q m => ea_cons ev_int (ea_cons ev_int ea_nil)) ⟨4, 9, rfl, by omega, by omega, rfl⟩) fun v1 q1 d m1 h1 hd => ?_
  obtain ⟨T, n, rfl, hP, hch⟩ := hd
  obtain ⟨W, hW⟩ := exists_W hP hch
  have hWb := w_bound hP hW
  have hn := hP.le
  refine q_par3X (P2 := fun ds => ∃ c e, ds = [.list ((bestL T n W).map eS), .int W, eOff (fL n c) (fL n e)] ∧ IsLeast T n W c e) m1.ok (fun q l Q k => xa_cons (EvD.x (ev_ixT (n := 1) (ev_call (ea_cons (ev_var (i := 1) rfl h1) ea_nil) ⟨T, n, W, rfl, hP, hW, rfl⟩) ev_int rfl)) (xa_cons (EvD.x (ev_call (ea_cons (ev_var (i := 1) rfl h1) ea_nil) ⟨T, n, W, rfl, hP, hW, rfl⟩)) (xa_cons (ex_call (ea_cons (ev_var (i := 1) rfl h1) ea_nil) ⟨T, n, W, rfl, hP, hW, rfl⟩) xa_nil)) q l Q fun vs r ds l1 hv hd => k vs r ds l1 hv ?_) fun vs q2 ds l2 hv hd => ?_
  · obtain ⟨_, _, rfl, rfl, _, _, rfl, rfl, _, _, rfl, ⟨c, e, rfl, hl⟩, rfl⟩ := hd
    exact ⟨c, e, rfl, hl⟩
  obtain ⟨lc, le, rfl, hL⟩ := hd
  obtain ⟨v2, v3, v4, rfl, h2, h3, h4⟩ := hv.three'
  refine ⟨v2, v3, v4, rfl, ?_⟩
  have hB : ∃ c d, Best T n W c d := ⟨_, _, hL.best⟩
  have m2 := m1.le l2
  have h1 := h1.up l2.d
  refine q_asgM m2.ok m2.w (em_bf (K := K) rfl rfl rfl h1 h2 hP hW hB) fun v5 q3 d m3 h5 hd => ?_
  obtain ⟨c1, d1, rfl, hB1⟩ := hd
  have m13 := m2.trans m3
  refine q_asgM m3.ok m3.w (em_tup (ema_cons (em_bf (K := K) rfl rfl rfl (h1.up m3.d) (h2.up m3.d) hP hW hB) (ema_cons (em_call (Po := fun d => ∃ k : Nat, d = .int (k : Int) ∧ (k : Int) < 3) (i := 0) rfl (fun q m => ea_cons ev_int ea_nil) ⟨3, rfl, by omega, by omega, rfl⟩) ema_nil)) ?_) fun tv q4 d m4 ht hd => ?_
  · rintro ds ⟨_, _, rfl, _, _, _, rfl, _, rfl⟩; simp
  obtain ⟨_, rfl, _, _, rfl, ⟨c2, d2, rfl, hB2⟩, _, _, rfl, ⟨up, rfl, _⟩, rfl⟩ := hd
  refine g_tup2 m4.ok ht fun v6 v7 h6 h7 => ?_
  cases h7
  have m14 := m13.trans m4
  have x24 : Ex q2.1 q4.1 := m3.d.trans m4.d
  have hlc : ∀ (j : Nat) (f : Nat → Int) (hj : [eIs (fL n c2), eIs (fL n d2)][j]? = some (eIs (fL n f))), EvD (tCB (rTupOf K) (tCons (tLc (iTup K (tOp (rIxT K) (tVar 6) (tC (.int (j : Int))))) (gName 13) tYes (tOp (rI0 fun i j => .int (i + j)) (tVar 13) (tVar 7)) [13]) tNil)) [some (.ref a), some v1, some v2, some v3, some v4, some v5, some v6, some (V.int (up : Int)), none, none, none, none, none, none] q4 (eIs (fL n fun i => f i + (up : Int))) := fun j f hj => ev_tupL (EvN.toD (EvN.is (en_lc (fL n f) PyData.int (fun _ => true) (fun x => .int (x + (up : Int))) (ei_tup (ev_ixT (n := j) (ev_var (i := 6) rfl h6) ev_int hj)) (fun x hx z q5 l5 hz Q2 k2 => k2 _ (by rfl) et_yes fun _ => ev_add (ev_var (i := 13) rfl hz) (ev_var (i := 7) rfl (.int _))) (by rw [fL_len]; omega)) (by rw [filter_all]; unfold fL; rw [List.map_map, List.map_map]; rfl)))
  refine q_asg (d := eOff (fL n fun i => c2 i + (up : Int)) (fL n fun i => d2 i + (up : Int))) m4.ok (ev_tup (ea_cons (hlc 0 c2 rfl) (ea_cons (hlc 1 d2 rfl) ea_nil))) fun v6' q5 l5 h6' => ?_
  have hB2' := HT.best_up hB2 (up : Int) (by omega)
  generalize (fun i => c2 i + (up : Int)) = c3 at h6' hB2'
  generalize (fun i => d2 i + (up : Int)) = d3 at h6' hB2'
  have m15 := m14.le l5
  have x25 : Ex q2.1 q5.1 := x24.trans l5.d
  have h1 := h1.up x25
  have h3 := h3.up x25
  have h4 := h4.up x25
  have h5 := h5.up (m4.d.trans l5.d)
  let as : List ((Nat → Int) × (Nat → Int)) := [(c1, d1), (c3, d3), (fun i => mm true (c1 i) (c3 i), fun i => mm true (d1 i) (d3 i)), (fun i => mm false (c1 i) (c3 i), fun i => mm false (d1 i) (d3 i))]
  have has : ∀ t ∈ as, Best T n W t.1 t.2 := fun t ht => by
    rcases (by simpa [as] using ht : t = (c1, d1) ∨ t = (c3, d3) ∨ t = (fun i => mm true (c1 i) (c3 i), fun i => mm true (d1 i) (d3 i)) ∨ t = (fun i => mm false (c1 i) (c3 i), fun i => mm false (d1 i) (d3 i))) with e | e | e | e
    · rw [e]; exact hB1
    · rw [e]; exact hB2'
    · rw [e]; exact best_mm hW hB1 hB2' true
    · rw [e]; exact best_mm hW hB1 hB2' false
  have htog : ∀ b : Bool, EvD (tCall (spF R_tog) [] E0 (tCons (tVar 5) (tCons (tVar 6) (tCons (tC (.bl b)) tNil)))) [some (.ref a), some v1, some v2, some v3, some v4, some v5, some v6', some (V.int (up : Int)), none, none, none, none, none, none] q5 (eOff (fL n fun i => mm b (c1 i) (c3 i)) (fL n fun i => mm b (d1 i) (d3 i))) := fun b =>
    ev_call (ea_cons (ev_var (i := 5) rfl h5) (ea_cons (ev_var (i := 6) rfl h6') (ea_cons ev_bl ea_nil))) ⟨n, b, _, _, _, _, rfl, by omega, fL_len _ _, fL_len _ _, fL_len _ _, fL_len _ _, by rw [mmL_fL, mmL_fL]⟩
  refine q_for (p := q5) l5.ok as (fun t => eOff (fL n t.1) (fL n t.2)) (EvI.is (ei_tup (ev_tup (ea_cons (ev_var (i := 5) rfl h5) (ea_cons (ev_var (i := 6) rfl h6') (ea_cons (htog true) (ea_cons (htog false) ea_nil)))))) rfl) fun r lr => ?_
  refine ⟨fun i σ' q => ∃ o8 o9 : Option V, σ' = [some (.ref a), some v1, some v2, some v3, some v4, some v5, some v6', some (V.int (up : Int)), o8, o9, none, none, none, none] ∧ Le r q, ⟨none, none, rfl, .refl lr.s⟩, fun i σ' q ⟨_, _, _, h⟩ => .of h, ?_, ?_⟩
  · rintro i t σ' q6 x q7 ht ⟨o8, o9, rfl, l6⟩ l7 hx
    have hBt := has t (List.mem_of_getElem? ht)
    have hO := isOff_fL hP hBt
    have x57 : Ex q5.1 q7.1 := (lr.trans (l6.trans l7)).d
    have hsp : (fL n t.2).sum - (fL n t.1).sum = W := by rw [fL_sum, fL_sum]; exact hBt.span
    have hle := hL.le t.1 t.2 hBt
    refine q_asg (d := .list [.bool true, .bool true, .int W, .bool true]) l7.ok (EvN.toD (en_lst (ea_cons (ev_call (ea_cons (ev_var (i := 1) rfl (h1.up x57)) (ea_cons (ev_var (i := 8) rfl hx) ea_nil)) ⟨T, n, _, _, rfl, hO, rfl⟩) (ea_cons (ev_call (ea_cons (ev_var (i := 1) rfl (h1.up x57)) (ea_cons (ev_var (i := 8) rfl hx) ea_nil)) ⟨T, n, W, _, _, rfl, hO, hW, by rw [decide_eq_true hsp]⟩) (ea_cons (ev_call (ea_cons (ev_var (i := 1) rfl (h1.up x57)) (ea_cons (ev_var (i := 8) rfl hx) ea_nil)) ⟨T, n, _, _, rfl, hO, by rw [hsp]⟩) (ea_cons (ev_call (ea_cons (ev_var (i := 8) rfl hx) (ea_cons (ev_var (i := 4) rfl (h4.up x57)) ea_nil)) ⟨_, _, _, _, rfl, by rw [fL_len]; omega, by rw [fL_len]; omega, by rw [fL_len, fL_len], by rw [fL_len, fL_len], fun i hi => ?_, fun i hi => ?_, rfl⟩) ea_nil)))))) fun u q8 l8 hu => ?_
    · rw [fL_len] at hi
      rw [fI_fL hi, fI_fL hi]; exact hle.1 i hi
    · rw [fL_len] at hi
      rw [fI_fL hi, fI_fL hi]; exact hle.2 i hi
    refine s_if (b := false) l8.ok (et_neS (es_repr (ev_var (i := 9) rfl hu) (shnW hWb.1 hWb.2)) (es_repr (EvN.toD (en_lst (ea_cons ev_bl (ea_cons ev_bl (ea_cons (ev_var (i := 3) rfl ((h3.up x57).up l8.d)) (ea_cons ev_bl ea_nil)))))) (shnW hWb.1 hWb.2))) (fun z => nomatch z) fun _ q9 l9 => ?_
    exact ⟨q9, rfl, _, _, rfl, ((l6.trans l7).trans l8).trans l9⟩
  · rintro σ' q6 ⟨o8, o9, rfl, l6⟩
    have l56 := lr.trans l6
    have m16 := m15.le l56
    have h1 := h1.up l56.d
    have h3 := h3.up l56.d
    have h5 := h5.up l56.d
    refine q_asgM l6.ok m16.w (em_call (i := 0) rfl (fun q m => ea_cons (ev_var (i := 1) rfl (h1.up m.d)) ea_nil) ⟨T, n, rfl, hP, rfl⟩) fun v10 q7 d m7 h10 hd => ?_
    obtain ⟨ca, da, rfl, hO⟩ := hd
    have m17 := m16.trans m7
    have h1 := h1.up m7.d
    have h3 := h3.up m7.d
    have h5 := h5.up m7.d
    have hle : W ≤ da.sum - ca.sum := by
      have := hW.le_span hO.offs.feas
      rw [sm_fI ca, sm_fI da, hO.lc, hO.ld]; exact this
    refine q_asg m7.ok (ev_call (ea_cons (ev_var (i := 1) rfl h1) (ea_cons (ev_var (i := 10) rfl h10) ea_nil)) ⟨T, n, ca, da, rfl, hO, rfl⟩) fun v11 q8 l8 h11 => ?_
    refine q_when (b := false) l8.ok (EvB.is (et_or (et_D (ev_lt (ev_var (i := 11) rfl h11) (ev_var (i := 3) rfl (h3.up l8.d)))) fun _ => et_neS (es_reprB (ev_call (ea_cons (ev_var (i := 1) rfl (h1.up l8.d)) (ea_cons (ev_var (i := 10) rfl (h10.up l8.d)) ea_nil)) ⟨T, n, W, ca, da, rfl, hO, hW, rfl⟩)) (es_reprB (ev_eqI (ev_var (i := 11) rfl h11) (ev_var (i := 3) rfl (h3.up l8.d))))) ?_) (fun z => nomatch z) fun _ q9 l9 => ?_
    · rw [decide_eq_false (by omega : ¬ da.sum - ca.sum < W)]; rfl
    have x79 : Ex q7.1 q9.1 := (l8.trans l9).d
    have hO1 := isOff_fL hP hB1
    let bs : List Bool := [true, false]
    have htog : ∀ b : Bool, EvD (tCall (spF R_tog) [] E0 (tCons (tVar 10) (tCons (tVar 5) (tCons (tC (.bl b)) tNil)))) [some (.ref a), some v1, some v2, some v3, some v4, some v5, some v6', some (V.int (up : Int)), o8, o9, some v10, some v11, none, none] q9 (eOff (mmL b n ca (fL n c1)) (mmL b n da (fL n d1))) := fun b =>
      ev_call (ea_cons (ev_var (i := 10) rfl (h10.up x79)) (ea_cons (ev_var (i := 5) rfl (h5.up x79)) (ea_cons ev_bl ea_nil))) ⟨n, b, _, _, _, _, rfl, by omega, hO.lc, hO.ld, fL_len _ _, fL_len _ _, rfl⟩
    refine q_asg (d := .list (bs.map fun b => eOff (mmL b n ca (fL n c1)) (mmL b n da (fL n d1)))) l9.ok (EvN.toD (en_lst (ea_cons (htog true) (ea_cons (htog false) ea_nil)) (by show 2 ≤ 100000; decide))) fun v12 q10 l10 h12 => ?_
    have x710 : Ex q7.1 q10.1 := x79.trans l10.d
    refine s_ret l10.ok (ev_eqS (es_repr (ds := [.bool true, .bool true]) (EvN.toD (EvN.is (en_lc bs (fun b => eOff (mmL b n ca (fL n c1)) (mmL b n da (fL n d1))) (fun _ => true) (fun _ => .bool true) (ei_list (ev_var (i := 12) rfl h12)) (fun b hb z q11 l11 hz Q2 k2 => k2 _ (by rfl) et_yes fun _ => ev_call (ea_cons (ev_var (i := 1) rfl ((h1.up x710).up l11.d)) (ea_cons (ev_var (i := 13) rfl hz) ea_nil)) ⟨T, n, _, _, rfl, off_mm hO hO1 b, rfl⟩) (by show 2 ≤ 50000; decide)) rfl)) shn2) (es_repr (EvN.toD (en_lst (ea_cons ev_bl (ea_cons ev_bl ea_nil)))) shn2)) fun v q11 l11 hv => ?_
    cases hv
    exact kk q11 (m17.le (((l8.trans l9).trans l10).trans l11))
abbrev s_law : Stmt := topS 49
abbrev n_law : List Str := ["_law_script", "_law_spot"]
theorem sc_law : FnScope n_law ["_law_script"] (defScope s_law) := ⟨rfl, rfl, rfl, by decide +kernel, rfl, by decide +kernel, by decide +kernel⟩
def spLaw (K : PySem.W.Frag) : Sp := fun vs H Q _ => ∃ (p : Two) (a : Addr) (ns : List Int), p.2 = H ∧ Ok p ∧ SqL K H a (ns.map V.int) ∧ vs = [.ref a] ∧ ∀ H', Q (.bl true) H'
theorem ok_law {f : Addr} {fd : FuncData} (F : Fun K "law" "law" s_law f fd) (B : Blt mg) (C_l_well : Cal P w K mg base 1 "_law_well" ["_law_script", "_law_spot"] (spWell K)) (C_l_right : CalG P w K mg base 9 "_law_right" ["_law_well_here"] spRight) : FnG P w K mg base 10 f fd ["_law_script"] (spLaw K) := by
  refine HR.Fun.okG F sc_law (fun vs H Q E ⟨_, _, _, _, _, _, h, _⟩ => by rw [h]; rfl) (fun cdv A outer s H vs Q E hgd hr h => ?_)
  have sc := sc_law
  obtain ⟨p, a, ns, rfl, ok, hS, rfl, kk⟩ := h
  refine ⟨_, pss_cons (ps_for PassesOwn.never rfl (pi_range1 (by rfl) B.range_ (pa_cons (pe_callB (call_max2 rfl) (by rfl) B.max_ bo_max (pa_cons (pe_int) (pa_cons (pe_callB (call_min2 rfl) (by rfl) B.min_ bo_min (pa_cons (pe_callB (call_lenK K) (by rfl) B.len_ bo_len (pa_cons (pv 0) pa_nil)) (pa_cons (pe_int) pa_nil))) pa_nil))) pa_nil)) (pg_name (i := 1) sc.nd rfl (Or.inl rfl)) (pss_one (ps_if (pt_not (pt_val (pe_calG C_l_right hgd (hr.mono (by decide)) (by rfl) (pa_cons (pe_cal C_l_well (hr.mono (by decide)) (by rfl) (pa_cons (pv 0) (pa_cons (pv 1) pa_nil))) pa_nil)))) (pss_one (ps_ret (pe_bl))) (pss_nil))))
      (pss_one (ps_ret (pe_bl))), ?_⟩
  have hN : EvD (tCB rMx2 (tCons (tC (.int 3)) (tCons (tCB rMn2 (tCons (tCB (rLen K) (tCons (tVar 0) tNil)) (tCons (tC (.int 8)) tNil))) tNil))) (start n_law [.ref a]) p (.int ((max 3 (min ns.length 8) : Nat) : Int)) := EvD.is (ev_max2 ev_int (ev_min2 (ev_lenS (i := 0) rfl hS) ev_int)) (by congr 1; omega)
  refine q_for ok (List.range (max 3 (min ns.length 8))) (fun e : Nat => .int (e : Int)) (ei_rng1 hN (by omega)) fun r lr => ?_
  refine ⟨fun i σ' q => ∃ o : Option V, σ' = [some (.ref a), o] ∧ Le p q ∧ Kp r q, ⟨none, rfl, lr, .of (.refl lr.s)⟩, fun i σ' q ⟨_, _, _, h⟩ => h, ?_, ?_⟩
  · rintro i e σ' q x q' he ⟨o, rfl, lq, kq⟩ l' hx
    obtain ⟨hi, rfl⟩ := range_at he
    cases hx
    refine ⟨.ref a, rfl, .int (e : Int), rfl, q', a, ns, e, rfl, l'.ok, sql_mono (lq.trans l').h hS, rfl, fun L z lz hL hw => ?_⟩
    refine ⟨z, L, rfl, lz.ok, rfl, hw, fun z2 m => ⟨true, rfl, ?_⟩⟩
    have l2 : Le q' z2 := m.m.le lz fun b hb => by rw [hb]; exact hL
    exact ⟨z2, rfl, _, rfl, lq.trans (l'.trans l2), kq.trans (.of (l'.trans l2))⟩
  · rintro σ' q ⟨o, rfl, lq, kq⟩
    refine s_ret lq.ok ev_bl fun v q3 l3 hv => ?_
    cases hv
    exact kk _
end
end HR

namespace HR
open PySem PySem.Spec PyProof.Rows L2
theorem all_mk {l : PySem.W.OpenLaw} {w : World} {K : PySem.W.Frag} {h : Heap} {mg : Str → Option Value} {fa C f_is_whole f_is_entry f_is_square_of f_is_patterned f_check_pattern f_are_wholes f_are_counts f_mentions f_are_offsets_of f_span_by f_check_offsets f_are_offsets f_span_of f_tops_over f_c_gaps_of f_c_free_in f_c_reached f_c_raise_by f_c_hand_on f_c_take_in f_c_init f_c_choice f_some_heaviest f_heaviest_number f_check_choices f_heaviest_weight f_least_pair f_least_offsets f_are_best f_l_draw f_l_pick f_l_well f_l_order_list f_l_start f_l_choices f_l_weight f_l_heaviest f_l_best_from f_l_together f_l_is_from f_l_any_offsets f_l_grid f_l_filled f_l_right f_law : Addr} (X : K.In h) (G : h.Ns mainGlobals mg) (hfa : mg "law" = some (.ref fa))
    {od_is_whole an_is_whole od_is_entry an_is_entry od_is_square_of an_is_square_of od_is_patterned an_is_patterned od_check_pattern an_check_pattern od_are_wholes an_are_wholes od_are_counts an_are_counts od_mentions an_mentions od_are_offsets_of an_are_offsets_of od_span_by an_span_by od_check_offsets an_check_offsets od_are_offsets an_are_offsets od_span_of an_span_of od_tops_over an_tops_over od_c_gaps_of an_c_gaps_of od_c_free_in an_c_free_in od_c_reached an_c_reached od_c_raise_by an_c_raise_by od_c_hand_on an_c_hand_on od_c_take_in an_c_take_in od_c_init an_c_init od_c_choice an_c_choice od_some_heaviest an_some_heaviest od_heaviest_number an_heaviest_number od_check_choices an_check_choices od_heaviest_weight an_heaviest_weight od_least_pair an_least_pair od_least_offsets an_least_offsets od_are_best an_are_best od_l_draw an_l_draw od_l_pick an_l_pick od_l_well an_l_well od_l_order_list an_l_order_list od_l_start an_l_start od_l_choices an_l_choices od_l_weight an_l_weight od_l_heaviest an_l_heaviest od_l_best_from an_l_best_from od_l_together an_l_together od_l_is_from an_l_is_from od_l_any_offsets an_l_any_offsets od_l_grid an_l_grid od_l_filled an_l_filled od_l_right an_l_right od_law an_law : Option Addr} {sl_is_whole sl_is_entry sl_is_square_of sl_is_patterned sl_check_pattern sl_are_wholes sl_are_counts sl_mentions sl_are_offsets_of sl_span_by sl_check_offsets sl_are_offsets sl_span_of sl_tops_over sl_c_gaps_of sl_c_free_in sl_c_reached sl_c_raise_by sl_c_hand_on sl_c_take_in sl_c_init sl_c_choice sl_some_heaviest sl_heaviest_number sl_check_choices sl_heaviest_weight sl_least_pair sl_least_offsets sl_are_best sl_l_draw sl_l_pick sl_l_well sl_l_order_list sl_l_start sl_l_choices sl_l_weight sl_l_heaviest sl_l_best_from sl_l_together sl_l_is_from sl_l_any_offsets sl_l_grid sl_l_filled sl_l_right sl_law : Array (Option Value)}
    {oc_is_whole kV_is_whole dc_is_whole pm_is_whole cd_is_whole ct_is_whole oc_is_entry kV_is_entry dc_is_entry pm_is_entry cd_is_entry ct_is_entry oc_is_square_of kV_is_square_of dc_is_square_of pm_is_square_of cd_is_square_of ct_is_square_of oc_is_patterned kV_is_patterned dc_is_patterned pm_is_patterned cd_is_patterned ct_is_patterned oc_check_pattern kV_check_pattern dc_check_pattern pm_check_pattern cd_check_pattern ct_check_pattern oc_are_wholes kV_are_wholes dc_are_wholes pm_are_wholes cd_are_wholes ct_are_wholes oc_are_counts kV_are_counts dc_are_counts pm_are_counts cd_are_counts ct_are_counts oc_mentions kV_mentions dc_mentions pm_mentions cd_mentions ct_mentions oc_are_offsets_of kV_are_offsets_of dc_are_offsets_of pm_are_offsets_of cd_are_offsets_of ct_are_offsets_of oc_span_by kV_span_by dc_span_by pm_span_by cd_span_by ct_span_by oc_check_offsets kV_check_offsets dc_check_offsets pm_check_offsets cd_check_offsets ct_check_offsets oc_are_offsets kV_are_offsets dc_are_offsets pm_are_offsets cd_are_offsets ct_are_offsets oc_span_of kV_span_of dc_span_of pm_span_of cd_span_of ct_span_of oc_tops_over kV_tops_over dc_tops_over pm_tops_over cd_tops_over ct_tops_over oc_c_gaps_of kV_c_gaps_of dc_c_gaps_of pm_c_gaps_of cd_c_gaps_of ct_c_gaps_of oc_c_free_in kV_c_free_in dc_c_free_in pm_c_free_in cd_c_free_in ct_c_free_in oc_c_reached kV_c_reached dc_c_reached pm_c_reached cd_c_reached ct_c_reached oc_c_raise_by kV_c_raise_by dc_c_raise_by pm_c_raise_by cd_c_raise_by ct_c_raise_by oc_c_hand_on kV_c_hand_on dc_c_hand_on pm_c_hand_on cd_c_hand_on ct_c_hand_on oc_c_take_in kV_c_take_in dc_c_take_in pm_c_take_in cd_c_take_in ct_c_take_in oc_c_init kV_c_init dc_c_init pm_c_init cd_c_init ct_c_init oc_c_choice kV_c_choice dc_c_choice pm_c_choice cd_c_choice ct_c_choice oc_some_heaviest kV_some_heaviest dc_some_heaviest pm_some_heaviest cd_some_heaviest ct_some_heaviest oc_heaviest_number kV_heaviest_number dc_heaviest_number pm_heaviest_number cd_heaviest_number ct_heaviest_number oc_check_choices kV_check_choices dc_check_choices pm_check_choices cd_check_choices ct_check_choices oc_heaviest_weight kV_heaviest_weight dc_heaviest_weight pm_heaviest_weight cd_heaviest_weight ct_heaviest_weight oc_least_pair kV_least_pair dc_least_pair pm_least_pair cd_least_pair ct_least_pair oc_least_offsets kV_least_offsets dc_least_offsets pm_least_offsets cd_least_offsets ct_least_offsets oc_are_best kV_are_best dc_are_best pm_are_best cd_are_best ct_are_best oc_l_draw kV_l_draw dc_l_draw pm_l_draw cd_l_draw ct_l_draw oc_l_pick kV_l_pick dc_l_pick pm_l_pick cd_l_pick ct_l_pick oc_l_well kV_l_well dc_l_well pm_l_well cd_l_well ct_l_well oc_l_order_list kV_l_order_list dc_l_order_list pm_l_order_list cd_l_order_list ct_l_order_list oc_l_start kV_l_start dc_l_start pm_l_start cd_l_start ct_l_start oc_l_choices kV_l_choices dc_l_choices pm_l_choices cd_l_choices ct_l_choices oc_l_weight kV_l_weight dc_l_weight pm_l_weight cd_l_weight ct_l_weight oc_l_heaviest kV_l_heaviest dc_l_heaviest pm_l_heaviest cd_l_heaviest ct_l_heaviest oc_l_best_from kV_l_best_from dc_l_best_from pm_l_best_from cd_l_best_from ct_l_best_from oc_l_together kV_l_together dc_l_together pm_l_together cd_l_together ct_l_together oc_l_is_from kV_l_is_from dc_l_is_from pm_l_is_from cd_l_is_from ct_l_is_from oc_l_any_offsets kV_l_any_offsets dc_l_any_offsets pm_l_any_offsets cd_l_any_offsets ct_l_any_offsets oc_l_grid kV_l_grid dc_l_grid pm_l_grid cd_l_grid ct_l_grid oc_l_filled kV_l_filled dc_l_filled pm_l_filled cd_l_filled ct_l_filled oc_l_right kV_l_right dc_l_right pm_l_right cd_l_right ct_l_right oc_law kV_law dc_law pm_law cd_law ct_law : Value}
    (aC : PySem.W.nsIn K mainGlobals "Choosing" = some (some (.ref C)))
    (a_is_whole : PySem.W.nsIn K mainGlobals "is_whole" = some (some (.ref f_is_whole)))
    (l_is_whole : K.lookup f_is_whole = some ⟨oc_is_whole, od_is_whole, .func (PySem.W.fnOf "is_whole" "is_whole" (defArgs s_is_whole) (defBody s_is_whole) (defScope s_is_whole) .none kV_is_whole dc_is_whole pm_is_whole an_is_whole cd_is_whole ct_is_whole), sl_is_whole⟩)
    (c_is_whole : PySem.W.codeIn K cd_is_whole "is_whole" = true)
    (k_is_whole : PySem.W.keepIn K (.ref f_is_whole) = true)
    (a_is_entry : PySem.W.nsIn K mainGlobals "is_entry" = some (some (.ref f_is_entry)))
    (l_is_entry : K.lookup f_is_entry = some ⟨oc_is_entry, od_is_entry, .func (PySem.W.fnOf "is_entry" "is_entry" (defArgs s_is_entry) (defBody s_is_entry) (defScope s_is_entry) .none kV_is_entry dc_is_entry pm_is_entry an_is_entry cd_is_entry ct_is_entry), sl_is_entry⟩)
    (c_is_entry : PySem.W.codeIn K cd_is_entry "is_entry" = true)
    (k_is_entry : PySem.W.keepIn K (.ref f_is_entry) = true)
    (a_is_square_of : PySem.W.nsIn K mainGlobals "is_square_of" = some (some (.ref f_is_square_of)))
    (l_is_square_of : K.lookup f_is_square_of = some ⟨oc_is_square_of, od_is_square_of, .func (PySem.W.fnOf "is_square_of" "is_square_of" (defArgs s_is_square_of) (defBody s_is_square_of) (defScope s_is_square_of) .none kV_is_square_of dc_is_square_of pm_is_square_of an_is_square_of cd_is_square_of ct_is_square_of), sl_is_square_of⟩)
    (c_is_square_of : PySem.W.codeIn K cd_is_square_of "is_square_of" = true)
    (k_is_square_of : PySem.W.keepIn K (.ref f_is_square_of) = true)
    (a_is_patterned : PySem.W.nsIn K mainGlobals "is_patterned" = some (some (.ref f_is_patterned)))
    (l_is_patterned : K.lookup f_is_patterned = some ⟨oc_is_patterned, od_is_patterned, .func (PySem.W.fnOf "is_patterned" "is_patterned" (defArgs s_is_patterned) (defBody s_is_patterned) (defScope s_is_patterned) .none kV_is_patterned dc_is_patterned pm_is_patterned an_is_patterned cd_is_patterned ct_is_patterned), sl_is_patterned⟩)
    (c_is_patterned : PySem.W.codeIn K cd_is_patterned "is_patterned" = true)
    (k_is_patterned : PySem.W.keepIn K (.ref f_is_patterned) = true)
    (a_check_pattern : PySem.W.nsIn K mainGlobals "check_pattern" = some (some (.ref f_check_pattern)))
    (l_check_pattern : K.lookup f_check_pattern = some ⟨oc_check_pattern, od_check_pattern, .func (PySem.W.fnOf "check_pattern" "check_pattern" (defArgs s_check_pattern) (defBody s_check_pattern) (defScope s_check_pattern) .none kV_check_pattern dc_check_pattern pm_check_pattern an_check_pattern cd_check_pattern ct_check_pattern), sl_check_pattern⟩)
    (c_check_pattern : PySem.W.codeIn K cd_check_pattern "check_pattern" = true)
    (k_check_pattern : PySem.W.keepIn K (.ref f_check_pattern) = true)
    (a_are_wholes : PySem.W.nsIn K mainGlobals "are_wholes" = some (some (.ref f_are_wholes)))
    (l_are_wholes : K.lookup f_are_wholes = some ⟨oc_are_wholes, od_are_wholes, .func (PySem.W.fnOf "are_wholes" "are_wholes" (defArgs s_are_wholes) (defBody s_are_wholes) (defScope s_are_wholes) .none kV_are_wholes dc_are_wholes pm_are_wholes an_are_wholes cd_are_wholes ct_are_wholes), sl_are_wholes⟩)
    (c_are_wholes : PySem.W.codeIn K cd_are_wholes "are_wholes" = true)
    (k_are_wholes : PySem.W.keepIn K (.ref f_are_wholes) = true)
    (a_are_counts : PySem.W.nsIn K mainGlobals "are_counts" = some (some (.ref f_are_counts)))
    (l_are_counts : K.lookup f_are_counts = some ⟨oc_are_counts, od_are_counts, .func (PySem.W.fnOf "are_counts" "are_counts" (defArgs s_are_counts) (defBody s_are_counts) (defScope s_are_counts) .none kV_are_counts dc_are_counts pm_are_counts an_are_counts cd_are_counts ct_are_counts), sl_are_counts⟩)
    (c_are_counts : PySem.W.codeIn K cd_are_counts "are_counts" = true)
    (k_are_counts : PySem.W.keepIn K (.ref f_are_counts) = true)
    (a_mentions : PySem.W.nsIn K mainGlobals "mentions" = some (some (.ref f_mentions)))
    (l_mentions : K.lookup f_mentions = some ⟨oc_mentions, od_mentions, .func (PySem.W.fnOf "mentions" "mentions" (defArgs s_mentions) (defBody s_mentions) (defScope s_mentions) .none kV_mentions dc_mentions pm_mentions an_mentions cd_mentions ct_mentions), sl_mentions⟩)
    (c_mentions : PySem.W.codeIn K cd_mentions "mentions" = true)
    (k_mentions : PySem.W.keepIn K (.ref f_mentions) = true)
    (a_are_offsets_of : PySem.W.nsIn K mainGlobals "are_offsets_of" = some (some (.ref f_are_offsets_of)))
    (l_are_offsets_of : K.lookup f_are_offsets_of = some ⟨oc_are_offsets_of, od_are_offsets_of, .func (PySem.W.fnOf "are_offsets_of" "are_offsets_of" (defArgs s_are_offsets_of) (defBody s_are_offsets_of) (defScope s_are_offsets_of) .none kV_are_offsets_of dc_are_offsets_of pm_are_offsets_of an_are_offsets_of cd_are_offsets_of ct_are_offsets_of), sl_are_offsets_of⟩)
    (c_are_offsets_of : PySem.W.codeIn K cd_are_offsets_of "are_offsets_of" = true)
    (k_are_offsets_of : PySem.W.keepIn K (.ref f_are_offsets_of) = true)
    (a_span_by : PySem.W.nsIn K mainGlobals "span_by" = some (some (.ref f_span_by)))
    (l_span_by : K.lookup f_span_by = some ⟨oc_span_by, od_span_by, .func (PySem.W.fnOf "span_by" "span_by" (defArgs s_span_by) (defBody s_span_by) (defScope s_span_by) .none kV_span_by dc_span_by pm_span_by an_span_by cd_span_by ct_span_by), sl_span_by⟩)
    (c_span_by : PySem.W.codeIn K cd_span_by "span_by" = true)
    (k_span_by : PySem.W.keepIn K (.ref f_span_by) = true)
    (a_check_offsets : PySem.W.nsIn K mainGlobals "check_offsets" = some (some (.ref f_check_offsets)))
    (l_check_offsets : K.lookup f_check_offsets = some ⟨oc_check_offsets, od_check_offsets, .func (PySem.W.fnOf "check_offsets" "check_offsets" (defArgs s_check_offsets) (defBody s_check_offsets) (defScope s_check_offsets) .none kV_check_offsets dc_check_offsets pm_check_offsets an_check_offsets cd_check_offsets ct_check_offsets), sl_check_offsets⟩)
    (c_check_offsets : PySem.W.codeIn K cd_check_offsets "check_offsets" = true)
    (k_check_offsets : PySem.W.keepIn K (.ref f_check_offsets) = true)
    (a_are_offsets : PySem.W.nsIn K mainGlobals "are_offsets" = some (some (.ref f_are_offsets)))
    (l_are_offsets : K.lookup f_are_offsets = some ⟨oc_are_offsets, od_are_offsets, .func (PySem.W.fnOf "are_offsets" "are_offsets" (defArgs s_are_offsets) (defBody s_are_offsets) (defScope s_are_offsets) .none kV_are_offsets dc_are_offsets pm_are_offsets an_are_offsets cd_are_offsets ct_are_offsets), sl_are_offsets⟩)
    (c_are_offsets : PySem.W.codeIn K cd_are_offsets "are_offsets" = true)
    (k_are_offsets : PySem.W.keepIn K (.ref f_are_offsets) = true)
    (a_span_of : PySem.W.nsIn K mainGlobals "span_of" = some (some (.ref f_span_of)))
    (l_span_of : K.lookup f_span_of = some ⟨oc_span_of, od_span_of, .func (PySem.W.fnOf "span_of" "span_of" (defArgs s_span_of) (defBody s_span_of) (defScope s_span_of) .none kV_span_of dc_span_of pm_span_of an_span_of cd_span_of ct_span_of), sl_span_of⟩)
    (c_span_of : PySem.W.codeIn K cd_span_of "span_of" = true)
    (k_span_of : PySem.W.keepIn K (.ref f_span_of) = true)
    (a_tops_over : PySem.W.nsIn K mainGlobals "tops_over" = some (some (.ref f_tops_over)))
    (l_tops_over : K.lookup f_tops_over = some ⟨oc_tops_over, od_tops_over, .func (PySem.W.fnOf "tops_over" "tops_over" (defArgs s_tops_over) (defBody s_tops_over) (defScope s_tops_over) .none kV_tops_over dc_tops_over pm_tops_over an_tops_over cd_tops_over ct_tops_over), sl_tops_over⟩)
    (c_tops_over : PySem.W.codeIn K cd_tops_over "tops_over" = true)
    (k_tops_over : PySem.W.keepIn K (.ref f_tops_over) = true)
    (a_c_gaps_of : PySem.W.findIn K (.ref C) "gaps_of" = some (some (.ref f_c_gaps_of)))
    (i_c_gaps_of : PySem.W.isFn K (.ref f_c_gaps_of) = true)
    (l_c_gaps_of : K.lookup f_c_gaps_of = some ⟨oc_c_gaps_of, od_c_gaps_of, .func (PySem.W.fnOf "gaps_of" "Choosing.gaps_of" (defArgs s_c_gaps_of) (defBody s_c_gaps_of) (defScope s_c_gaps_of) .none kV_c_gaps_of dc_c_gaps_of pm_c_gaps_of an_c_gaps_of cd_c_gaps_of ct_c_gaps_of), sl_c_gaps_of⟩)
    (c_c_gaps_of : PySem.W.codeIn K cd_c_gaps_of "Choosing.gaps_of" = true)
    (k_c_gaps_of : PySem.W.keepIn K (.ref f_c_gaps_of) = true)
    (a_c_free_in : PySem.W.findIn K (.ref C) "free_in" = some (some (.ref f_c_free_in)))
    (i_c_free_in : PySem.W.isFn K (.ref f_c_free_in) = true)
    (l_c_free_in : K.lookup f_c_free_in = some ⟨oc_c_free_in, od_c_free_in, .func (PySem.W.fnOf "free_in" "Choosing.free_in" (defArgs s_c_free_in) (defBody s_c_free_in) (defScope s_c_free_in) .none kV_c_free_in dc_c_free_in pm_c_free_in an_c_free_in cd_c_free_in ct_c_free_in), sl_c_free_in⟩)
    (c_c_free_in : PySem.W.codeIn K cd_c_free_in "Choosing.free_in" = true)
    (k_c_free_in : PySem.W.keepIn K (.ref f_c_free_in) = true)
    (a_c_reached : PySem.W.findIn K (.ref C) "reached" = some (some (.ref f_c_reached)))
    (i_c_reached : PySem.W.isFn K (.ref f_c_reached) = true)
    (l_c_reached : K.lookup f_c_reached = some ⟨oc_c_reached, od_c_reached, .func (PySem.W.fnOf "reached" "Choosing.reached" (defArgs s_c_reached) (defBody s_c_reached) (defScope s_c_reached) .none kV_c_reached dc_c_reached pm_c_reached an_c_reached cd_c_reached ct_c_reached), sl_c_reached⟩)
    (c_c_reached : PySem.W.codeIn K cd_c_reached "Choosing.reached" = true)
    (k_c_reached : PySem.W.keepIn K (.ref f_c_reached) = true)
    (a_c_raise_by : PySem.W.findIn K (.ref C) "raise_by" = some (some (.ref f_c_raise_by)))
    (i_c_raise_by : PySem.W.isFn K (.ref f_c_raise_by) = true)
    (l_c_raise_by : K.lookup f_c_raise_by = some ⟨oc_c_raise_by, od_c_raise_by, .func (PySem.W.fnOf "raise_by" "Choosing.raise_by" (defArgs s_c_raise_by) (defBody s_c_raise_by) (defScope s_c_raise_by) .none kV_c_raise_by dc_c_raise_by pm_c_raise_by an_c_raise_by cd_c_raise_by ct_c_raise_by), sl_c_raise_by⟩)
    (c_c_raise_by : PySem.W.codeIn K cd_c_raise_by "Choosing.raise_by" = true)
    (k_c_raise_by : PySem.W.keepIn K (.ref f_c_raise_by) = true)
    (a_c_hand_on : PySem.W.findIn K (.ref C) "hand_on" = some (some (.ref f_c_hand_on)))
    (i_c_hand_on : PySem.W.isFn K (.ref f_c_hand_on) = true)
    (l_c_hand_on : K.lookup f_c_hand_on = some ⟨oc_c_hand_on, od_c_hand_on, .func (PySem.W.fnOf "hand_on" "Choosing.hand_on" (defArgs s_c_hand_on) (defBody s_c_hand_on) (defScope s_c_hand_on) .none kV_c_hand_on dc_c_hand_on pm_c_hand_on an_c_hand_on cd_c_hand_on ct_c_hand_on), sl_c_hand_on⟩)
    (c_c_hand_on : PySem.W.codeIn K cd_c_hand_on "Choosing.hand_on" = true)
    (k_c_hand_on : PySem.W.keepIn K (.ref f_c_hand_on) = true)
    (a_c_take_in : PySem.W.findIn K (.ref C) "take_in" = some (some (.ref f_c_take_in)))
    (i_c_take_in : PySem.W.isFn K (.ref f_c_take_in) = true)
    (l_c_take_in : K.lookup f_c_take_in = some ⟨oc_c_take_in, od_c_take_in, .func (PySem.W.fnOf "take_in" "Choosing.take_in" (defArgs s_c_take_in) (defBody s_c_take_in) (defScope s_c_take_in) .none kV_c_take_in dc_c_take_in pm_c_take_in an_c_take_in cd_c_take_in ct_c_take_in), sl_c_take_in⟩)
    (c_c_take_in : PySem.W.codeIn K cd_c_take_in "Choosing.take_in" = true)
    (k_c_take_in : PySem.W.keepIn K (.ref f_c_take_in) = true)
    (a_c_init : PySem.W.findIn K (.ref C) "__init__" = some (some (.ref f_c_init)))
    (i_c_init : PySem.W.isFn K (.ref f_c_init) = true)
    (l_c_init : K.lookup f_c_init = some ⟨oc_c_init, od_c_init, .func (PySem.W.fnOf "__init__" "Choosing.__init__" (defArgs s_c_init) (defBody s_c_init) (defScope s_c_init) .none kV_c_init dc_c_init pm_c_init an_c_init cd_c_init ct_c_init), sl_c_init⟩)
    (c_c_init : PySem.W.codeIn K cd_c_init "Choosing.__init__" = true)
    (k_c_init : PySem.W.keepIn K (.ref f_c_init) = true)
    (a_c_choice : PySem.W.findIn K (.ref C) "choice" = some (some (.ref f_c_choice)))
    (i_c_choice : PySem.W.isFn K (.ref f_c_choice) = true)
    (l_c_choice : K.lookup f_c_choice = some ⟨oc_c_choice, od_c_choice, .func (PySem.W.fnOf "choice" "Choosing.choice" (defArgs s_c_choice) (defBody s_c_choice) (defScope s_c_choice) .none kV_c_choice dc_c_choice pm_c_choice an_c_choice cd_c_choice ct_c_choice), sl_c_choice⟩)
    (c_c_choice : PySem.W.codeIn K cd_c_choice "Choosing.choice" = true)
    (k_c_choice : PySem.W.keepIn K (.ref f_c_choice) = true)
    (a_some_heaviest : PySem.W.nsIn K mainGlobals "some_heaviest" = some (some (.ref f_some_heaviest)))
    (l_some_heaviest : K.lookup f_some_heaviest = some ⟨oc_some_heaviest, od_some_heaviest, .func (PySem.W.fnOf "some_heaviest" "some_heaviest" (defArgs s_some_heaviest) (defBody s_some_heaviest) (defScope s_some_heaviest) .none kV_some_heaviest dc_some_heaviest pm_some_heaviest an_some_heaviest cd_some_heaviest ct_some_heaviest), sl_some_heaviest⟩)
    (c_some_heaviest : PySem.W.codeIn K cd_some_heaviest "some_heaviest" = true)
    (k_some_heaviest : PySem.W.keepIn K (.ref f_some_heaviest) = true)
    (a_heaviest_number : PySem.W.nsIn K mainGlobals "heaviest_number" = some (some (.ref f_heaviest_number)))
    (l_heaviest_number : K.lookup f_heaviest_number = some ⟨oc_heaviest_number, od_heaviest_number, .func (PySem.W.fnOf "heaviest_number" "heaviest_number" (defArgs s_heaviest_number) (defBody s_heaviest_number) (defScope s_heaviest_number) .none kV_heaviest_number dc_heaviest_number pm_heaviest_number an_heaviest_number cd_heaviest_number ct_heaviest_number), sl_heaviest_number⟩)
    (c_heaviest_number : PySem.W.codeIn K cd_heaviest_number "heaviest_number" = true)
    (k_heaviest_number : PySem.W.keepIn K (.ref f_heaviest_number) = true)
    (a_check_choices : PySem.W.nsIn K mainGlobals "check_choices" = some (some (.ref f_check_choices)))
    (l_check_choices : K.lookup f_check_choices = some ⟨oc_check_choices, od_check_choices, .func (PySem.W.fnOf "check_choices" "check_choices" (defArgs s_check_choices) (defBody s_check_choices) (defScope s_check_choices) .none kV_check_choices dc_check_choices pm_check_choices an_check_choices cd_check_choices ct_check_choices), sl_check_choices⟩)
    (c_check_choices : PySem.W.codeIn K cd_check_choices "check_choices" = true)
    (k_check_choices : PySem.W.keepIn K (.ref f_check_choices) = true)
    (a_heaviest_weight : PySem.W.nsIn K mainGlobals "heaviest_weight" = some (some (.ref f_heaviest_weight)))
    (l_heaviest_weight : K.lookup f_heaviest_weight = some ⟨oc_heaviest_weight, od_heaviest_weight, .func (PySem.W.fnOf "heaviest_weight" "heaviest_weight" (defArgs s_heaviest_weight) (defBody s_heaviest_weight) (defScope s_heaviest_weight) .none kV_heaviest_weight dc_heaviest_weight pm_heaviest_weight an_heaviest_weight cd_heaviest_weight ct_heaviest_weight), sl_heaviest_weight⟩)
    (c_heaviest_weight : PySem.W.codeIn K cd_heaviest_weight "heaviest_weight" = true)
    (k_heaviest_weight : PySem.W.keepIn K (.ref f_heaviest_weight) = true)
    (a_least_pair : PySem.W.nsIn K mainGlobals "least_pair" = some (some (.ref f_least_pair)))
    (l_least_pair : K.lookup f_least_pair = some ⟨oc_least_pair, od_least_pair, .func (PySem.W.fnOf "least_pair" "least_pair" (defArgs s_least_pair) (defBody s_least_pair) (defScope s_least_pair) .none kV_least_pair dc_least_pair pm_least_pair an_least_pair cd_least_pair ct_least_pair), sl_least_pair⟩)
    (c_least_pair : PySem.W.codeIn K cd_least_pair "least_pair" = true)
    (k_least_pair : PySem.W.keepIn K (.ref f_least_pair) = true)
    (a_least_offsets : PySem.W.nsIn K mainGlobals "least_offsets" = some (some (.ref f_least_offsets)))
    (l_least_offsets : K.lookup f_least_offsets = some ⟨oc_least_offsets, od_least_offsets, .func (PySem.W.fnOf "least_offsets" "least_offsets" (defArgs s_least_offsets) (defBody s_least_offsets) (defScope s_least_offsets) .none kV_least_offsets dc_least_offsets pm_least_offsets an_least_offsets cd_least_offsets ct_least_offsets), sl_least_offsets⟩)
    (c_least_offsets : PySem.W.codeIn K cd_least_offsets "least_offsets" = true)
    (k_least_offsets : PySem.W.keepIn K (.ref f_least_offsets) = true)
    (a_are_best : PySem.W.nsIn K mainGlobals "are_best" = some (some (.ref f_are_best)))
    (l_are_best : K.lookup f_are_best = some ⟨oc_are_best, od_are_best, .func (PySem.W.fnOf "are_best" "are_best" (defArgs s_are_best) (defBody s_are_best) (defScope s_are_best) .none kV_are_best dc_are_best pm_are_best an_are_best cd_are_best ct_are_best), sl_are_best⟩)
    (c_are_best : PySem.W.codeIn K cd_are_best "are_best" = true)
    (k_are_best : PySem.W.keepIn K (.ref f_are_best) = true)
    (a_l_draw : PySem.W.nsIn K mainGlobals "_law_draw" = some (some (.ref f_l_draw)))
    (l_l_draw : K.lookup f_l_draw = some ⟨oc_l_draw, od_l_draw, .func (PySem.W.fnOf "_law_draw" "_law_draw" (defArgs s_l_draw) (defBody s_l_draw) (defScope s_l_draw) .none kV_l_draw dc_l_draw pm_l_draw an_l_draw cd_l_draw ct_l_draw), sl_l_draw⟩)
    (c_l_draw : PySem.W.codeIn K cd_l_draw "_law_draw" = true)
    (k_l_draw : PySem.W.keepIn K (.ref f_l_draw) = true)
    (a_l_pick : PySem.W.nsIn K mainGlobals "_law_pick" = some (some (.ref f_l_pick)))
    (l_l_pick : K.lookup f_l_pick = some ⟨oc_l_pick, od_l_pick, .func (PySem.W.fnOf "_law_pick" "_law_pick" (defArgs s_l_pick) (defBody s_l_pick) (defScope s_l_pick) .none kV_l_pick dc_l_pick pm_l_pick an_l_pick cd_l_pick ct_l_pick), sl_l_pick⟩)
    (c_l_pick : PySem.W.codeIn K cd_l_pick "_law_pick" = true)
    (k_l_pick : PySem.W.keepIn K (.ref f_l_pick) = true)
    (a_l_well : PySem.W.nsIn K mainGlobals "_law_well" = some (some (.ref f_l_well)))
    (l_l_well : K.lookup f_l_well = some ⟨oc_l_well, od_l_well, .func (PySem.W.fnOf "_law_well" "_law_well" (defArgs s_l_well) (defBody s_l_well) (defScope s_l_well) .none kV_l_well dc_l_well pm_l_well an_l_well cd_l_well ct_l_well), sl_l_well⟩)
    (c_l_well : PySem.W.codeIn K cd_l_well "_law_well" = true)
    (k_l_well : PySem.W.keepIn K (.ref f_l_well) = true)
    (a_l_order_list : PySem.W.nsIn K mainGlobals "_law_order_list" = some (some (.ref f_l_order_list)))
    (l_l_order_list : K.lookup f_l_order_list = some ⟨oc_l_order_list, od_l_order_list, .func (PySem.W.fnOf "_law_order_list" "_law_order_list" (defArgs s_l_order_list) (defBody s_l_order_list) (defScope s_l_order_list) .none kV_l_order_list dc_l_order_list pm_l_order_list an_l_order_list cd_l_order_list ct_l_order_list), sl_l_order_list⟩)
    (c_l_order_list : PySem.W.codeIn K cd_l_order_list "_law_order_list" = true)
    (k_l_order_list : PySem.W.keepIn K (.ref f_l_order_list) = true)
    (a_l_start : PySem.W.nsIn K mainGlobals "_law_start" = some (some (.ref f_l_start)))
    (l_l_start : K.lookup f_l_start = some ⟨oc_l_start, od_l_start, .func (PySem.W.fnOf "_law_start" "_law_start" (defArgs s_l_start) (defBody s_l_start) (defScope s_l_start) .none kV_l_start dc_l_start pm_l_start an_l_start cd_l_start ct_l_start), sl_l_start⟩)
    (c_l_start : PySem.W.codeIn K cd_l_start "_law_start" = true)
    (k_l_start : PySem.W.keepIn K (.ref f_l_start) = true)
    (a_l_choices : PySem.W.nsIn K mainGlobals "_law_choices" = some (some (.ref f_l_choices)))
    (l_l_choices : K.lookup f_l_choices = some ⟨oc_l_choices, od_l_choices, .func (PySem.W.fnOf "_law_choices" "_law_choices" (defArgs s_l_choices) (defBody s_l_choices) (defScope s_l_choices) .none kV_l_choices dc_l_choices pm_l_choices an_l_choices cd_l_choices ct_l_choices), sl_l_choices⟩)
    (c_l_choices : PySem.W.codeIn K cd_l_choices "_law_choices" = true)
    (k_l_choices : PySem.W.keepIn K (.ref f_l_choices) = true)
    (a_l_weight : PySem.W.nsIn K mainGlobals "_law_weight" = some (some (.ref f_l_weight)))
    (l_l_weight : K.lookup f_l_weight = some ⟨oc_l_weight, od_l_weight, .func (PySem.W.fnOf "_law_weight" "_law_weight" (defArgs s_l_weight) (defBody s_l_weight) (defScope s_l_weight) .none kV_l_weight dc_l_weight pm_l_weight an_l_weight cd_l_weight ct_l_weight), sl_l_weight⟩)
    (c_l_weight : PySem.W.codeIn K cd_l_weight "_law_weight" = true)
    (k_l_weight : PySem.W.keepIn K (.ref f_l_weight) = true)
    (a_l_heaviest : PySem.W.nsIn K mainGlobals "_law_heaviest" = some (some (.ref f_l_heaviest)))
    (l_l_heaviest : K.lookup f_l_heaviest = some ⟨oc_l_heaviest, od_l_heaviest, .func (PySem.W.fnOf "_law_heaviest" "_law_heaviest" (defArgs s_l_heaviest) (defBody s_l_heaviest) (defScope s_l_heaviest) .none kV_l_heaviest dc_l_heaviest pm_l_heaviest an_l_heaviest cd_l_heaviest ct_l_heaviest), sl_l_heaviest⟩)
    (c_l_heaviest : PySem.W.codeIn K cd_l_heaviest "_law_heaviest" = true)
    (k_l_heaviest : PySem.W.keepIn K (.ref f_l_heaviest) = true)
    (a_l_best_from : PySem.W.nsIn K mainGlobals "_law_best_from" = some (some (.ref f_l_best_from)))
    (l_l_best_from : K.lookup f_l_best_from = some ⟨oc_l_best_from, od_l_best_from, .func (PySem.W.fnOf "_law_best_from" "_law_best_from" (defArgs s_l_best_from) (defBody s_l_best_from) (defScope s_l_best_from) .none kV_l_best_from dc_l_best_from pm_l_best_from an_l_best_from cd_l_best_from ct_l_best_from), sl_l_best_from⟩)
    (c_l_best_from : PySem.W.codeIn K cd_l_best_from "_law_best_from" = true)
    (k_l_best_from : PySem.W.keepIn K (.ref f_l_best_from) = true)
    (a_l_together : PySem.W.nsIn K mainGlobals "_law_together" = some (some (.ref f_l_together)))
    (l_l_together : K.lookup f_l_together = some ⟨oc_l_together, od_l_together, .func (PySem.W.fnOf "_law_together" "_law_together" (defArgs s_l_together) (defBody s_l_together) (defScope s_l_together) .none kV_l_together dc_l_together pm_l_together an_l_together cd_l_together ct_l_together), sl_l_together⟩)
    (c_l_together : PySem.W.codeIn K cd_l_together "_law_together" = true)
    (k_l_together : PySem.W.keepIn K (.ref f_l_together) = true)
    (a_l_is_from : PySem.W.nsIn K mainGlobals "_law_is_from" = some (some (.ref f_l_is_from)))
    (l_l_is_from : K.lookup f_l_is_from = some ⟨oc_l_is_from, od_l_is_from, .func (PySem.W.fnOf "_law_is_from" "_law_is_from" (defArgs s_l_is_from) (defBody s_l_is_from) (defScope s_l_is_from) .none kV_l_is_from dc_l_is_from pm_l_is_from an_l_is_from cd_l_is_from ct_l_is_from), sl_l_is_from⟩)
    (c_l_is_from : PySem.W.codeIn K cd_l_is_from "_law_is_from" = true)
    (k_l_is_from : PySem.W.keepIn K (.ref f_l_is_from) = true)
    (a_l_any_offsets : PySem.W.nsIn K mainGlobals "_law_any_offsets" = some (some (.ref f_l_any_offsets)))
    (l_l_any_offsets : K.lookup f_l_any_offsets = some ⟨oc_l_any_offsets, od_l_any_offsets, .func (PySem.W.fnOf "_law_any_offsets" "_law_any_offsets" (defArgs s_l_any_offsets) (defBody s_l_any_offsets) (defScope s_l_any_offsets) .none kV_l_any_offsets dc_l_any_offsets pm_l_any_offsets an_l_any_offsets cd_l_any_offsets ct_l_any_offsets), sl_l_any_offsets⟩)
    (c_l_any_offsets : PySem.W.codeIn K cd_l_any_offsets "_law_any_offsets" = true)
    (k_l_any_offsets : PySem.W.keepIn K (.ref f_l_any_offsets) = true)
    (a_l_grid : PySem.W.nsIn K mainGlobals "_law_grid" = some (some (.ref f_l_grid)))
    (l_l_grid : K.lookup f_l_grid = some ⟨oc_l_grid, od_l_grid, .func (PySem.W.fnOf "_law_grid" "_law_grid" (defArgs s_l_grid) (defBody s_l_grid) (defScope s_l_grid) .none kV_l_grid dc_l_grid pm_l_grid an_l_grid cd_l_grid ct_l_grid), sl_l_grid⟩)
    (c_l_grid : PySem.W.codeIn K cd_l_grid "_law_grid" = true)
    (k_l_grid : PySem.W.keepIn K (.ref f_l_grid) = true)
    (a_l_filled : PySem.W.nsIn K mainGlobals "_law_filled" = some (some (.ref f_l_filled)))
    (l_l_filled : K.lookup f_l_filled = some ⟨oc_l_filled, od_l_filled, .func (PySem.W.fnOf "_law_filled" "_law_filled" (defArgs s_l_filled) (defBody s_l_filled) (defScope s_l_filled) .none kV_l_filled dc_l_filled pm_l_filled an_l_filled cd_l_filled ct_l_filled), sl_l_filled⟩)
    (c_l_filled : PySem.W.codeIn K cd_l_filled "_law_filled" = true)
    (k_l_filled : PySem.W.keepIn K (.ref f_l_filled) = true)
    (a_l_right : PySem.W.nsIn K mainGlobals "_law_right" = some (some (.ref f_l_right)))
    (l_l_right : K.lookup f_l_right = some ⟨oc_l_right, od_l_right, .func (PySem.W.fnOf "_law_right" "_law_right" (defArgs s_l_right) (defBody s_l_right) (defScope s_l_right) .none kV_l_right dc_l_right pm_l_right an_l_right cd_l_right ct_l_right), sl_l_right⟩)
    (c_l_right : PySem.W.codeIn K cd_l_right "_law_right" = true)
    (k_l_right : PySem.W.keepIn K (.ref f_l_right) = true)
    (a_law : PySem.W.nsIn K mainGlobals "law" = some (some (.ref f_law)))
    (l_law : K.lookup f_law = some ⟨oc_law, od_law, .func (PySem.W.fnOf "law" "law" (defArgs s_law) (defBody s_law) (defScope s_law) .none kV_law dc_law pm_law an_law cd_law ct_law), sl_law⟩)
    (c_law : PySem.W.codeIn K cd_law "law" = true)
    (k_law : PySem.W.keepIn K (.ref f_law) = true)
    (pg : PySem.W.plainGet K C Str.empty = true)
    (hd : PySem.W.hasDictIn K C = true)
    (po : PySem.W.plainOver K C = true)
    (sa : PySem.W.findIn K (.ref C) "__setattr__" = some (some (.builtin "object.__setattr__")))
    (mk : PySem.W.makesIn K C = true)
    (kc : PySem.W.keepIn K (.ref C) = true)
    (n_pattern : PySem.W.findIn K (.ref C) "pattern" = some none)
    (n_owners : PySem.W.findIn K (.ref C) "owners" = some none)
    (n_grown : PySem.W.findIn K (.ref C) "grown" = some none)
    (n_tops : PySem.W.findIn K (.ref C) "tops" = some none)
    (n_short : PySem.W.findIn K (.ref C) "short" = some none)
    (z_isinstance : PySem.W.nsIn K mainGlobals "isinstance" = some none)
    (z_tuple : PySem.W.nsIn K mainGlobals "tuple" = some none)
    (z_list : PySem.W.nsIn K mainGlobals "list" = some none)
    (z_int : PySem.W.nsIn K mainGlobals "int" = some none)
    (z_bool : PySem.W.nsIn K mainGlobals "bool" = some none)
    (z_len : PySem.W.nsIn K mainGlobals "len" = some none)
    (z_sum : PySem.W.nsIn K mainGlobals "sum" = some none)
    (z_max : PySem.W.nsIn K mainGlobals "max" = some none)
    (z_min : PySem.W.nsIn K mainGlobals "min" = some none)
    (z_all : PySem.W.nsIn K mainGlobals "all" = some none)
    (z_range : PySem.W.nsIn K mainGlobals "range" = some none)
    (z_enumerate : PySem.W.nsIn K mainGlobals "enumerate" = some none)
    (z_repr : PySem.W.nsIn K mainGlobals "repr" = some none)
    (z_divmod : PySem.W.nsIn K mainGlobals "divmod" = some none)
    (z_abs : PySem.W.nsIn K mainGlobals "abs" = some none)
    : ∃ fd : FuncData, (∀ (s : Shared) (v : Value), BindsTo s fd ⟨[v], []⟩ [("_law_script", v)]) ∧ ∀ base : Heap, K.In base → base.Ns mainGlobals mg → FnG l.prog w K mg base 10 fa fd ["_law_script"] (spLaw K) := by
  have e := hfa.symm.trans (PySem.W.mg_of X G a_law)
  cases e
  have B : Blt mg := ⟨PySem.W.mg_none_of X G z_isinstance, PySem.W.mg_none_of X G z_tuple, PySem.W.mg_none_of X G z_list, PySem.W.mg_none_of X G z_int, PySem.W.mg_none_of X G z_bool, PySem.W.mg_none_of X G z_len, PySem.W.mg_none_of X G z_sum, PySem.W.mg_none_of X G z_max, PySem.W.mg_none_of X G z_min, PySem.W.mg_none_of X G z_all, PySem.W.mg_none_of X G z_range, PySem.W.mg_none_of X G z_enumerate, PySem.W.mg_none_of X G z_repr, PySem.W.mg_none_of X G z_divmod, PySem.W.mg_none_of X G z_abs⟩
  have Tx : ChT K C := ⟨⟨pg, hd, po, sa⟩, n_pattern, n_owners, n_grown, n_tops, n_short⟩
  have F_is_whole := fun_mk (st := s_is_whole) l_is_whole c_is_whole k_is_whole
  have b_is_whole := F_is_whole.binds (ps := ["value"]) fun _ _ _ _ _ _ us hl => match us, hl with | [_], _ => rfl
  have F_is_entry := fun_mk (st := s_is_entry) l_is_entry c_is_entry k_is_entry
  have b_is_entry := F_is_entry.binds (ps := ["value"]) fun _ _ _ _ _ _ us hl => match us, hl with | [_], _ => rfl
  have F_is_square_of := fun_mk (st := s_is_square_of) l_is_square_of c_is_square_of k_is_square_of
  have b_is_square_of := F_is_square_of.binds (ps := ["value", "test"]) fun _ _ _ _ _ _ us hl => match us, hl with | [_, _], _ => rfl
  have F_is_patterned := fun_mk (st := s_is_patterned) l_is_patterned c_is_patterned k_is_patterned
  have b_is_patterned := F_is_patterned.binds (ps := ["value"]) fun _ _ _ _ _ _ us hl => match us, hl with | [_], _ => rfl
  have F_check_pattern := fun_mk (st := s_check_pattern) l_check_pattern c_check_pattern k_check_pattern
  have b_check_pattern := F_check_pattern.binds (ps := ["value"]) fun _ _ _ _ _ _ us hl => match us, hl with | [_], _ => rfl
  have F_are_wholes := fun_mk (st := s_are_wholes) l_are_wholes c_are_wholes k_are_wholes
  have b_are_wholes := F_are_wholes.binds (ps := ["value", "many"]) fun _ _ _ _ _ _ us hl => match us, hl with | [_, _], _ => rfl
  have F_are_counts := fun_mk (st := s_are_counts) l_are_counts c_are_counts k_are_counts
  have b_are_counts := F_are_counts.binds (ps := ["value", "many"]) fun _ _ _ _ _ _ us hl => match us, hl with | [_, _], _ => rfl
  have F_mentions := fun_mk (st := s_mentions) l_mentions c_mentions k_mentions
  have b_mentions := F_mentions.binds (ps := ["pattern"]) fun _ _ _ _ _ _ us hl => match us, hl with | [_], _ => rfl
  have F_are_offsets_of := fun_mk (st := s_are_offsets_of) l_are_offsets_of c_are_offsets_of k_are_offsets_of
  have b_are_offsets_of := F_are_offsets_of.binds (ps := ["pattern", "value"]) fun _ _ _ _ _ _ us hl => match us, hl with | [_, _], _ => rfl
  have F_span_by := fun_mk (st := s_span_by) l_span_by c_span_by k_span_by
  have b_span_by := F_span_by.binds (ps := ["offsets"]) fun _ _ _ _ _ _ us hl => match us, hl with | [_], _ => rfl
  have F_check_offsets := fun_mk (st := s_check_offsets) l_check_offsets c_check_offsets k_check_offsets
  have b_check_offsets := F_check_offsets.binds (ps := ["pattern", "value"]) fun _ _ _ _ _ _ us hl => match us, hl with | [_, _], _ => rfl
  have F_are_offsets := fun_mk (st := s_are_offsets) l_are_offsets c_are_offsets k_are_offsets
  have b_are_offsets := F_are_offsets.binds (ps := ["pattern", "value"]) fun _ _ _ _ _ _ us hl => match us, hl with | [_, _], _ => rfl
  have F_span_of := fun_mk (st := s_span_of) l_span_of c_span_of k_span_of
  have b_span_of := F_span_of.binds (ps := ["pattern", "offsets"]) fun _ _ _ _ _ _ us hl => match us, hl with | [_, _], _ => rfl
  have F_tops_over := fun_mk (st := s_tops_over) l_tops_over c_tops_over k_tops_over
  have b_tops_over := F_tops_over.binds (ps := ["pattern", "grown"]) fun _ _ _ _ _ _ us hl => match us, hl with | [_, _], _ => rfl
  have F_c_gaps_of := fun_mk (st := s_c_gaps_of) l_c_gaps_of c_c_gaps_of k_c_gaps_of
  have b_c_gaps_of := F_c_gaps_of.binds (ps := ["self", "equation"]) fun _ _ _ _ _ _ us hl => match us, hl with | [_, _], _ => rfl
  have F_c_free_in := fun_mk (st := s_c_free_in) l_c_free_in c_c_free_in k_c_free_in
  have b_c_free_in := F_c_free_in.binds (ps := ["self", "came"]) fun _ _ _ _ _ _ us hl => match us, hl with | [_, _], _ => rfl
  have F_c_reached := fun_mk (st := s_c_reached) l_c_reached c_c_reached k_c_reached
  have b_c_reached := F_c_reached.binds (ps := ["self", "start"]) fun _ _ _ _ _ _ us hl => match us, hl with | [_, _], _ => rfl
  have F_c_raise_by := fun_mk (st := s_c_raise_by) l_c_raise_by c_c_raise_by k_c_raise_by
  have b_c_raise_by := F_c_raise_by.binds (ps := ["self", "lot", "came"]) fun _ _ _ _ _ _ us hl => match us, hl with | [_, _, _], _ => rfl
  have F_c_hand_on := fun_mk (st := s_c_hand_on) l_c_hand_on c_c_hand_on k_c_hand_on
  have b_c_hand_on := F_c_hand_on.binds (ps := ["self", "unknown", "came"]) fun _ _ _ _ _ _ us hl => match us, hl with | [_, _, _], _ => rfl
  have F_c_take_in := fun_mk (st := s_c_take_in) l_c_take_in c_c_take_in k_c_take_in
  have b_c_take_in := F_c_take_in.binds (ps := ["self", "equation"]) fun _ _ _ _ _ _ us hl => match us, hl with | [_, _], _ => rfl
  have F_c_init := fun_mk (st := s_c_init) l_c_init c_c_init k_c_init
  have b_c_init := F_c_init.binds (ps := ["self", "pattern"]) fun _ _ _ _ _ _ us hl => match us, hl with | [_, _], _ => rfl
  have F_c_choice := fun_mk (st := s_c_choice) l_c_choice c_c_choice k_c_choice
  have b_c_choice := F_c_choice.binds (ps := ["self"]) fun _ _ _ _ _ _ us hl => match us, hl with | [_], _ => rfl
  have F_some_heaviest := fun_mk (st := s_some_heaviest) l_some_heaviest c_some_heaviest k_some_heaviest
  have b_some_heaviest := F_some_heaviest.binds (ps := ["pattern"]) fun _ _ _ _ _ _ us hl => match us, hl with | [_], _ => rfl
  have F_heaviest_number := fun_mk (st := s_heaviest_number) l_heaviest_number c_heaviest_number k_heaviest_number
  have b_heaviest_number := F_heaviest_number.binds (ps := ["pattern"]) fun _ _ _ _ _ _ us hl => match us, hl with | [_], _ => rfl
  have F_check_choices := fun_mk (st := s_check_choices) l_check_choices c_check_choices k_check_choices
  have b_check_choices := F_check_choices.binds (ps := ["pattern"]) fun _ _ _ _ _ _ us hl => match us, hl with | [_], _ => rfl
  have F_heaviest_weight := fun_mk (st := s_heaviest_weight) l_heaviest_weight c_heaviest_weight k_heaviest_weight
  have b_heaviest_weight := F_heaviest_weight.binds (ps := ["pattern"]) fun _ _ _ _ _ _ us hl => match us, hl with | [_], _ => rfl
  have F_least_pair := fun_mk (st := s_least_pair) l_least_pair c_least_pair k_least_pair
  have b_least_pair := F_least_pair.binds (ps := ["pattern"]) fun _ _ _ _ _ _ us hl => match us, hl with | [_], _ => rfl
  have F_least_offsets := fun_mk (st := s_least_offsets) l_least_offsets c_least_offsets k_least_offsets
  have b_least_offsets := F_least_offsets.binds (ps := ["pattern"]) fun _ _ _ _ _ _ us hl => match us, hl with | [_], _ => rfl
  have F_are_best := fun_mk (st := s_are_best) l_are_best c_are_best k_are_best
  have b_are_best := F_are_best.binds (ps := ["pattern", "offsets"]) fun _ _ _ _ _ _ us hl => match us, hl with | [_, _], _ => rfl
  have F_l_draw := fun_mk (st := s_l_draw) l_l_draw c_l_draw k_l_draw
  have b_l_draw := F_l_draw.binds (ps := ["_law_well_here", "_law_many"]) fun _ _ _ _ _ _ us hl => match us, hl with | [_, _], _ => rfl
  have F_l_pick := fun_mk (st := s_l_pick) l_l_pick c_l_pick k_l_pick
  have b_l_pick := F_l_pick.binds (ps := ["_law_well_here", "_law_some"]) fun _ _ _ _ _ _ us hl => match us, hl with | [_, _], _ => rfl
  have F_l_well := fun_mk (st := s_l_well) l_l_well c_l_well k_l_well
  have b_l_well := F_l_well.binds (ps := ["_law_script", "_law_spot"]) fun _ _ _ _ _ _ us hl => match us, hl with | [_, _], _ => rfl
  have F_l_order_list := fun_mk (st := s_l_order_list) l_l_order_list c_l_order_list k_l_order_list
  have b_l_order_list := F_l_order_list.binds (ps := ["_law_well_here", "_law_n"]) fun _ _ _ _ _ _ us hl => match us, hl with | [_, _], _ => rfl
  have F_l_start := fun_mk (st := s_l_start) l_l_start c_l_start k_l_start
  have b_l_start := F_l_start.binds (ps := ["_law_well_here", "_law_n"]) fun _ _ _ _ _ _ us hl => match us, hl with | [_, _], _ => rfl
  have F_l_choices := fun_mk (st := s_l_choices) l_l_choices c_l_choices k_l_choices
  have b_l_choices := F_l_choices.binds (ps := ["_law_rows"]) fun _ _ _ _ _ _ us hl => match us, hl with | [_], _ => rfl
  have F_l_weight := fun_mk (st := s_l_weight) l_l_weight c_l_weight k_l_weight
  have b_l_weight := F_l_weight.binds (ps := ["_law_rows", "_law_some"]) fun _ _ _ _ _ _ us hl => match us, hl with | [_, _], _ => rfl
  have F_l_heaviest := fun_mk (st := s_l_heaviest) l_l_heaviest c_l_heaviest k_l_heaviest
  have b_l_heaviest := F_l_heaviest.binds (ps := ["_law_rows"]) fun _ _ _ _ _ _ us hl => match us, hl with | [_], _ => rfl
  have F_l_best_from := fun_mk (st := s_l_best_from) l_l_best_from c_l_best_from k_l_best_from
  have b_l_best_from := F_l_best_from.binds (ps := ["_law_rows", "_law_some", "_law_start_here"]) fun _ _ _ _ _ _ us hl => match us, hl with | [_, _, _], _ => rfl
  have F_l_together := fun_mk (st := s_l_together) l_l_together c_l_together k_l_together
  have b_l_together := F_l_together.binds (ps := ["_law_one", "_law_two", "_law_is_less"]) fun _ _ _ _ _ _ us hl => match us, hl with | [_, _, _], _ => rfl
  have F_l_is_from := fun_mk (st := s_l_is_from) l_l_is_from c_l_is_from k_l_is_from
  have b_l_is_from := F_l_is_from.binds (ps := ["_law_some", "_law_least"]) fun _ _ _ _ _ _ us hl => match us, hl with | [_, _], _ => rfl
  have F_l_any_offsets := fun_mk (st := s_l_any_offsets) l_l_any_offsets c_l_any_offsets k_l_any_offsets
  have b_l_any_offsets := F_l_any_offsets.binds (ps := ["_law_well_here", "_law_rows"]) fun _ _ _ _ _ _ us hl => match us, hl with | [_, _], _ => rfl
  have F_l_grid := fun_mk (st := s_l_grid) l_l_grid c_l_grid k_l_grid
  have b_l_grid := F_l_grid.binds (ps := ["_law_well_here", "_law_most"]) fun _ _ _ _ _ _ us hl => match us, hl with | [_, _], _ => rfl
  have F_l_filled := fun_mk (st := s_l_filled) l_l_filled c_l_filled k_l_filled
  have b_l_filled := F_l_filled.binds (ps := ["_law_well_here", "_law_most", "_law_high"]) fun _ _ _ _ _ _ us hl => match us, hl with | [_, _, _], _ => rfl
  have F_l_right := fun_mk (st := s_l_right) l_l_right c_l_right k_l_right
  have b_l_right := F_l_right.binds (ps := ["_law_well_here"]) fun _ _ _ _ _ _ us hl => match us, hl with | [_], _ => rfl
  have F_law := fun_mk (st := s_law) l_law c_law k_law
  have b_law := F_law.binds (ps := ["_law_script"]) fun _ _ _ _ _ _ us hl => match us, hl with | [_], _ => rfl
  refine ⟨PySem.W.fnOf "law" "law" (defArgs s_law) (defBody s_law) (defScope s_law) .none kV_law dc_law pm_law an_law cd_law ct_law, fun s v => .of_eq rfl, fun base _ _ => ?_⟩
  have C_is_whole : Cal l.prog w K mg base 1 "is_whole" ["value"] (spF R_is_whole) := ⟨⟨_, _, ok_is_whole F_is_whole B, PySem.W.mg_of X G a_is_whole, k_is_whole, b_is_whole⟩⟩
  have C_is_entry : Cal l.prog w K mg base 2 "is_entry" ["value"] (spF R_is_entry) := ⟨⟨_, _, ok_is_entry F_is_entry C_is_whole, PySem.W.mg_of X G a_is_entry, k_is_entry, b_is_entry⟩⟩
  have C_is_square_of : Cal l.prog w K mg base 3 "is_square_of" ["value", "test"] (spSq f_is_entry) := ⟨⟨_, _, ok_is_square_of F_is_square_of B (ok_is_entry F_is_entry C_is_whole) k_is_entry b_is_entry, PySem.W.mg_of X G a_is_square_of, k_is_square_of, b_is_square_of⟩⟩
  have C_is_patterned : Cal l.prog w K mg base 4 "is_patterned" ["value"] (spF (R_pat (.bool true))) := ⟨⟨_, _, ok_is_patterned F_is_patterned (PySem.W.mg_of X G a_is_entry) C_is_square_of, PySem.W.mg_of X G a_is_patterned, k_is_patterned, b_is_patterned⟩⟩
  have C_check_pattern : Cal l.prog w K mg base 5 "check_pattern" ["value"] (spF (R_pat .none)) := ⟨⟨_, _, ok_check_pattern F_check_pattern C_is_patterned, PySem.W.mg_of X G a_check_pattern, k_check_pattern, b_check_pattern⟩⟩
  have C_are_wholes : Cal l.prog w K mg base 2 "are_wholes" ["value", "many"] (spF R_wholes) := ⟨⟨_, _, ok_are_wholes F_are_wholes B C_is_whole, PySem.W.mg_of X G a_are_wholes, k_are_wholes, b_are_wholes⟩⟩
  have C_are_counts : Cal l.prog w K mg base 3 "are_counts" ["value", "many"] (spF R_counts) := ⟨⟨_, _, ok_are_counts F_are_counts B C_are_wholes, PySem.W.mg_of X G a_are_counts, k_are_counts, b_are_counts⟩⟩
  have C_mentions : Cal l.prog w K mg base 1 "mentions" ["pattern"] (spF R_mentions) := ⟨⟨_, _, ok_mentions F_mentions B, PySem.W.mg_of X G a_mentions, k_mentions, b_mentions⟩⟩
  have C_are_offsets_of : Cal l.prog w K mg base 4 "are_offsets_of" ["pattern", "value"] (spF (R_off (.bool true))) := ⟨⟨_, _, ok_are_offsets_of F_are_offsets_of B C_are_counts C_mentions, PySem.W.mg_of X G a_are_offsets_of, k_are_offsets_of, b_are_offsets_of⟩⟩
  have C_span_by : Cal l.prog w K mg base 1 "span_by" ["offsets"] (spF R_span) := ⟨⟨_, _, ok_span_by F_span_by B, PySem.W.mg_of X G a_span_by, k_span_by, b_span_by⟩⟩
  have C_check_offsets : Cal l.prog w K mg base 5 "check_offsets" ["pattern", "value"] (spF (R_off .none)) := ⟨⟨_, _, ok_check_offsets F_check_offsets C_are_offsets_of, PySem.W.mg_of X G a_check_offsets, k_check_offsets, b_check_offsets⟩⟩
  have C_are_offsets : Cal l.prog w K mg base 6 "are_offsets" ["pattern", "value"] (spF (R_off (.bool true))) := ⟨⟨_, _, ok_are_offsets F_are_offsets C_check_pattern C_are_offsets_of, PySem.W.mg_of X G a_are_offsets, k_are_offsets, b_are_offsets⟩⟩
  have C_span_of : Cal l.prog w K mg base 6 "span_of" ["pattern", "offsets"] (spF R_spanof) := ⟨⟨_, _, ok_span_of F_span_of C_check_pattern C_check_offsets C_span_by, PySem.W.mg_of X G a_span_of, k_span_of, b_span_of⟩⟩
  have C_tops_over : Cal l.prog w K mg base 2 "tops_over" ["pattern", "grown"] (spF R_tops) := ⟨⟨_, _, ok_tops_over F_tops_over B C_mentions, PySem.W.mg_of X G a_tops_over, k_tops_over, b_tops_over⟩⟩
  have M_gaps_of : MCal l.prog w K mg base C 1 "gaps_of" ["self", "equation"] (spGaps C) := ⟨⟨_, _, ok_gaps_of F_c_gaps_of B Tx, ⟨a_c_gaps_of, i_c_gaps_of, k_c_gaps_of⟩, b_c_gaps_of⟩⟩
  have M_free_in : MCal l.prog w K mg base C 1 "free_in" ["self", "came"] (spFree C) := ⟨⟨_, _, ok_free_in F_c_free_in Tx, ⟨a_c_free_in, i_c_free_in, k_c_free_in⟩, b_c_free_in⟩⟩
  have M_reached : MCal l.prog w K mg base C 2 "reached" ["self", "start"] (spReach C) := ⟨⟨_, _, ok_reached F_c_reached B Tx M_gaps_of, ⟨a_c_reached, i_c_reached, k_c_reached⟩, b_c_reached⟩⟩
  have M_raise_by : MCal l.prog w K mg base C 2 "raise_by" ["self", "lot", "came"] (spRaise C) := ⟨⟨_, _, ok_raise_by F_c_raise_by B Tx M_gaps_of, ⟨a_c_raise_by, i_c_raise_by, k_c_raise_by⟩, b_c_raise_by⟩⟩
  have M_hand_on : MCal l.prog w K mg base C 1 "hand_on" ["self", "unknown", "came"] (spHand C) := ⟨⟨_, _, ok_hand_on F_c_hand_on B Tx, ⟨a_c_hand_on, i_c_hand_on, k_c_hand_on⟩, b_c_hand_on⟩⟩
  have M_take_in : MCal l.prog w K mg base C 3 "take_in" ["self", "equation"] (spTake C) := ⟨⟨_, _, ok_take_in F_c_take_in B Tx M_gaps_of M_reached M_free_in M_raise_by M_hand_on, ⟨a_c_take_in, i_c_take_in, k_c_take_in⟩, b_c_take_in⟩⟩
  have MK : MkCal l.prog w K mg base C 4 "Choosing" ["self", "pattern"] (spInit C) := ⟨⟨_, _, ok_init F_c_init B Tx M_take_in, ⟨mk, a_c_init, i_c_init, kc⟩, PySem.W.mg_of X G aC, b_c_init⟩⟩
  have M_choice : MCal l.prog w K mg base C 1 "choice" ["self"] (spChoice C) := ⟨⟨_, _, ok_choice F_c_choice B Tx, ⟨a_c_choice, i_c_choice, k_c_choice⟩, b_c_choice⟩⟩
  have C_some_heaviest : Cal l.prog w K mg base 6 "some_heaviest" ["pattern"] (spQ Q_some) := ⟨⟨_, _, ok_some_heaviest F_some_heaviest B Tx MK M_choice, PySem.W.mg_of X G a_some_heaviest, k_some_heaviest, b_some_heaviest⟩⟩
  have C_heaviest_number : Cal l.prog w K mg base 6 "heaviest_number" ["pattern"] (spF R_heavy) := ⟨⟨_, _, ok_heaviest_number F_heaviest_number B Tx MK, PySem.W.mg_of X G a_heaviest_number, k_heaviest_number, b_heaviest_number⟩⟩
  have C_check_choices : Cal l.prog w K mg base 7 "check_choices" ["pattern"] (spF R_hasch) := ⟨⟨_, _, ok_check_choices F_check_choices C_heaviest_number, PySem.W.mg_of X G a_check_choices, k_check_choices, b_check_choices⟩⟩
  have C_heaviest_weight : Cal l.prog w K mg base 7 "heaviest_weight" ["pattern"] (spF R_heavy) := ⟨⟨_, _, ok_heaviest_weight F_heaviest_weight C_check_pattern C_heaviest_number, PySem.W.mg_of X G a_heaviest_weight, k_heaviest_weight, b_heaviest_weight⟩⟩
  have C_least_pair : Cal l.prog w K mg base 7 "least_pair" ["pattern"] (spQ Q_least) := ⟨⟨_, _, ok_least_pair F_least_pair B C_some_heaviest C_tops_over, PySem.W.mg_of X G a_least_pair, k_least_pair, b_least_pair⟩⟩
  have C_least_offsets : Cal l.prog w K mg base 8 "least_offsets" ["pattern"] (spQ Q_least) := ⟨⟨_, _, ok_least_offsets F_least_offsets C_check_pattern C_check_choices C_least_pair, PySem.W.mg_of X G a_least_offsets, k_least_offsets, b_least_offsets⟩⟩
  have C_are_best : Cal l.prog w K mg base 8 "are_best" ["pattern", "offsets"] (spF R_arebest) := ⟨⟨_, _, ok_are_best F_are_best C_check_pattern C_check_offsets C_check_choices C_span_by C_heaviest_number, PySem.W.mg_of X G a_are_best, k_are_best, b_are_best⟩⟩
  have C_l_draw : Cal l.prog w K mg base 1 "_law_draw" ["_law_well_here", "_law_many"] (spW R_draw) := ⟨⟨_, _, ok_draw F_l_draw B, PySem.W.mg_of X G a_l_draw, k_l_draw, b_l_draw⟩⟩
  have C_l_pick : Cal l.prog w K mg base 2 "_law_pick" ["_law_well_here", "_law_some"] (spW R_pick) := ⟨⟨_, _, ok_pick F_l_pick B C_l_draw, PySem.W.mg_of X G a_l_pick, k_l_pick, b_l_pick⟩⟩
  have C_l_well : Cal l.prog w K mg base 1 "_law_well" ["_law_script", "_law_spot"] (spWell K) := ⟨⟨_, _, ok_well F_l_well B, PySem.W.mg_of X G a_l_well, k_l_well, b_l_well⟩⟩
  have C_l_order_list : Cal l.prog w K mg base 2 "_law_order_list" ["_law_well_here", "_law_n"] (spW R_order) := ⟨⟨_, _, ok_order_list F_l_order_list B C_l_draw, PySem.W.mg_of X G a_l_order_list, k_l_order_list, b_l_order_list⟩⟩
  have C_l_start : Cal l.prog w K mg base 3 "_law_start" ["_law_well_here", "_law_n"] (spW R_start) := ⟨⟨_, _, ok_start F_l_start B C_l_pick, PySem.W.mg_of X G a_l_start, k_l_start, b_l_start⟩⟩
  have C_l_choices : Cal l.prog w K mg base 1 "_law_choices" ["_law_rows"] (spF R_choices) := ⟨⟨_, _, ok_choices F_l_choices B, PySem.W.mg_of X G a_l_choices, k_l_choices, b_l_choices⟩⟩
  have C_l_weight : Cal l.prog w K mg base 1 "_law_weight" ["_law_rows", "_law_some"] (spF R_weight) := ⟨⟨_, _, ok_weight F_l_weight B, PySem.W.mg_of X G a_l_weight, k_l_weight, b_l_weight⟩⟩
  have C_l_heaviest : Cal l.prog w K mg base 2 "_law_heaviest" ["_law_rows"] (spF R_heaviest) := ⟨⟨_, _, ok_heaviest F_l_heaviest B C_l_choices C_l_weight, PySem.W.mg_of X G a_l_heaviest, k_l_heaviest, b_l_heaviest⟩⟩
  have C_l_best_from : Cal l.prog w K mg base 1 "_law_best_from" ["_law_rows", "_law_some", "_law_start_here"] (spQ Q_bestfrom) := ⟨⟨_, _, ok_best_from F_l_best_from B, PySem.W.mg_of X G a_l_best_from, k_l_best_from, b_l_best_from⟩⟩
  have C_l_together : Cal l.prog w K mg base 1 "_law_together" ["_law_one", "_law_two", "_law_is_less"] (spF R_tog) := ⟨⟨_, _, ok_together F_l_together B, PySem.W.mg_of X G a_l_together, k_l_together, b_l_together⟩⟩
  have C_l_is_from : Cal l.prog w K mg base 1 "_law_is_from" ["_law_some", "_law_least"] (spF R_from) := ⟨⟨_, _, ok_is_from F_l_is_from B, PySem.W.mg_of X G a_l_is_from, k_l_is_from, b_l_is_from⟩⟩
  have C_l_any_offsets : Cal l.prog w K mg base 3 "_law_any_offsets" ["_law_well_here", "_law_rows"] (spW R_anyoff) := ⟨⟨_, _, ok_any_offsets F_l_any_offsets B C_l_draw C_l_pick, PySem.W.mg_of X G a_l_any_offsets, k_l_any_offsets, b_l_any_offsets⟩⟩
  have C_l_grid : Cal l.prog w K mg base 3 "_law_grid" ["_law_well_here", "_law_most"] (spW R_grid) := ⟨⟨_, _, ok_grid F_l_grid B C_l_draw C_l_pick C_l_order_list, PySem.W.mg_of X G a_l_grid, k_l_grid, b_l_grid⟩⟩
  have C_l_filled : Cal l.prog w K mg base 4 "_law_filled" ["_law_well_here", "_law_most", "_law_high"] (spW R_filled) := ⟨⟨_, _, ok_filled F_l_filled B C_l_draw C_l_grid C_l_order_list, PySem.W.mg_of X G a_l_filled, k_l_filled, b_l_filled⟩⟩
  have C_l_right : CalG l.prog w K mg base 9 "_law_right" ["_law_well_here"] spRight := ⟨⟨_, _, ok_right F_l_right B C_l_filled C_l_heaviest C_heaviest_weight C_least_offsets C_l_best_from C_l_pick C_l_start C_l_draw C_l_together C_are_offsets C_are_best C_span_of C_l_is_from C_l_any_offsets, PySem.W.mg_of X G a_l_right, k_l_right, b_l_right⟩⟩
  exact ok_law F_law B C_l_well C_l_right
theorem walk {l : PySem.W.OpenLaw} {q : Program} {loose : List Str} {XP : (Str → Option Value) → Heap → Prop} {YP : World → Heap → Prop} {d : DefRec} {K : Params → PySem.W.Frag} (hn : l.most = some 63) (hdf : d.params.defaults = [])
    (hY : ∀ (w : World) (h : Heap), YP w h → (K w.params).In h)
    (F : ∀ (w : World) (mg : Str → Option Value) (fa : Addr) (h : Heap), (K w.params).In h → h.Ns mainGlobals mg → mg d.name = some (.ref fa) →
      ∃ fd : FuncData, (∀ (s : Shared) (u : Value), BindsTo s fd ⟨[u], []⟩ [("_law_script", u)]) ∧ ∀ base : Heap, (K w.params).In base → base.Ns mainGlobals mg → FnG l.prog w (K w.params) mg base 10 fa fd ["_law_script"] (spLaw (K w.params))) :
    PySem.W.WalkO q loose XP YP l.row.toRowW d [] (fun f vs => PySem.call f vs) :=
  walk_ofG (n := 63) (k := 10) (x := "_law_script") (sp := spLaw) hn (by decide) hdf ⟨rfl, by decide, by decide⟩ hY F (fun K H a ns hl hS => ⟨((fun _ => none), H), a, ns, rfl, (fun _ _ e => nomatch e), hS, rfl, fun _ => rfl⟩)
end HR

open PySem PySem.W PyProof.Rows in
set_option maxRecDepth 100000 in
set_option maxHeartbeats 0 in
theorem PySem.Challenge.cw_hiddenties_k18_whole_best_offsets_put_to_holds : PySem.Challenge.rw_hiddenties_k18_whole_best_offsets_put_to.Holds := by
  w_on; o_law; k_head; (case hw => w_witness2)
  k_fill
  refine HR.walk (l := PySem.Challenge.rw_hiddenties_k18_whole_best_offsets_put_to) rfl rfl (fun w h Y => PySem.W.kIn_of Y) ?F
  case F =>
    intro w mg fa h KX G hmg
    refine' HR.all_mk KX G hmg ?aC ?a_is_whole ?l_is_whole ?c_is_whole ?k_is_whole ?a_is_entry ?l_is_entry ?c_is_entry ?k_is_entry ?a_is_square_of ?l_is_square_of ?c_is_square_of ?k_is_square_of ?a_is_patterned ?l_is_patterned ?c_is_patterned ?k_is_patterned ?a_check_pattern ?l_check_pattern ?c_check_pattern ?k_check_pattern ?a_are_wholes ?l_are_wholes ?c_are_wholes ?k_are_wholes ?a_are_counts ?l_are_counts ?c_are_counts ?k_are_counts ?a_mentions ?l_mentions ?c_mentions ?k_mentions ?a_are_offsets_of ?l_are_offsets_of ?c_are_offsets_of ?k_are_offsets_of ?a_span_by ?l_span_by ?c_span_by ?k_span_by ?a_check_offsets ?l_check_offsets ?c_check_offsets ?k_check_offsets ?a_are_offsets ?l_are_offsets ?c_are_offsets ?k_are_offsets ?a_span_of ?l_span_of ?c_span_of ?k_span_of ?a_tops_over ?l_tops_over ?c_tops_over ?k_tops_over ?a_c_gaps_of ?i_c_gaps_of ?l_c_gaps_of ?c_c_gaps_of ?k_c_gaps_of ?a_c_free_in ?i_c_free_in ?l_c_free_in ?c_c_free_in ?k_c_free_in ?a_c_reached ?i_c_reached ?l_c_reached ?c_c_reached ?k_c_reached ?a_c_raise_by ?i_c_raise_by ?l_c_raise_by ?c_c_raise_by ?k_c_raise_by ?a_c_hand_on ?i_c_hand_on ?l_c_hand_on ?c_c_hand_on ?k_c_hand_on ?a_c_take_in ?i_c_take_in ?l_c_take_in ?c_c_take_in ?k_c_take_in ?a_c_init ?i_c_init ?l_c_init ?c_c_init ?k_c_init ?a_c_choice ?i_c_choice ?l_c_choice ?c_c_choice ?k_c_choice ?a_some_heaviest ?l_some_heaviest ?c_some_heaviest ?k_some_heaviest ?a_heaviest_number ?l_heaviest_number ?c_heaviest_number ?k_heaviest_number ?a_check_choices ?l_check_choices ?c_check_choices ?k_check_choices ?a_heaviest_weight ?l_heaviest_weight ?c_heaviest_weight ?k_heaviest_weight ?a_least_pair ?l_least_pair ?c_least_pair ?k_least_pair ?a_least_offsets ?l_least_offsets ?c_least_offsets ?k_least_offsets ?a_are_best ?l_are_best ?c_are_best ?k_are_best ?a_l_draw ?l_l_draw ?c_l_draw ?k_l_draw ?a_l_pick ?l_l_pick ?c_l_pick ?k_l_pick ?a_l_well ?l_l_well ?c_l_well ?k_l_well ?a_l_order_list ?l_l_order_list ?c_l_order_list ?k_l_order_list ?a_l_start ?l_l_start ?c_l_start ?k_l_start ?a_l_choices ?l_l_choices ?c_l_choices ?k_l_choices ?a_l_weight ?l_l_weight ?c_l_weight ?k_l_weight ?a_l_heaviest ?l_l_heaviest ?c_l_heaviest ?k_l_heaviest ?a_l_best_from ?l_l_best_from ?c_l_best_from ?k_l_best_from ?a_l_together ?l_l_together ?c_l_together ?k_l_together ?a_l_is_from ?l_l_is_from ?c_l_is_from ?k_l_is_from ?a_l_any_offsets ?l_l_any_offsets ?c_l_any_offsets ?k_l_any_offsets ?a_l_grid ?l_l_grid ?c_l_grid ?k_l_grid ?a_l_filled ?l_l_filled ?c_l_filled ?k_l_filled ?a_l_right ?l_l_right ?c_l_right ?k_l_right ?a_law ?l_law ?c_law ?k_law ?pg ?hd ?po ?sa ?mk ?kc ?n_pattern ?n_owners ?n_grown ?n_tops ?n_short ?z_isinstance ?z_tuple ?z_list ?z_int ?z_bool ?z_len ?z_sum ?z_max ?z_min ?z_all ?z_range ?z_enumerate ?z_repr ?z_divmod ?z_abs
    (case aC => k_is)
    (case a_is_whole => k_is)
    (case l_is_whole => k_is)
    (case c_is_whole => k_is)
    (case k_is_whole => k_is)
    (case a_is_entry => k_is)
    (case l_is_entry => k_is)
    (case c_is_entry => k_is)
    (case k_is_entry => k_is)
    (case a_is_square_of => k_is)
    (case l_is_square_of => k_is)
    (case c_is_square_of => k_is)
    (case k_is_square_of => k_is)
    (case a_is_patterned => k_is)
    (case l_is_patterned => k_is)
    (case c_is_patterned => k_is)
    (case k_is_patterned => k_is)
    (case a_check_pattern => k_is)
    (case l_check_pattern => k_is)
    (case c_check_pattern => k_is)
    (case k_check_pattern => k_is)
    (case a_are_wholes => k_is)
    (case l_are_wholes => k_is)
    (case c_are_wholes => k_is)
    (case k_are_wholes => k_is)
    (case a_are_counts => k_is)
    (case l_are_counts => k_is)
    (case c_are_counts => k_is)
    (case k_are_counts => k_is)
    (case a_mentions => k_is)
    (case l_mentions => k_is)
    (case c_mentions => k_is)
    (case k_mentions => k_is)
    (case a_are_offsets_of => k_is)
    (case l_are_offsets_of => k_is)
    (case c_are_offsets_of => k_is)
    (case k_are_offsets_of => k_is)
    (case a_span_by => k_is)
    (case l_span_by => k_is)
    (case c_span_by => k_is)
    (case k_span_by => k_is)
    (case a_check_offsets => k_is)
    (case l_check_offsets => k_is)
    (case c_check_offsets => k_is)
    (case k_check_offsets => k_is)
    (case a_are_offsets => k_is)
    (case l_are_offsets => k_is)
    (case c_are_offsets => k_is)
    (case k_are_offsets => k_is)
    (case a_span_of => k_is)
    (case l_span_of => k_is)
    (case c_span_of => k_is)
    (case k_span_of => k_is)
    (case a_tops_over => k_is)
    (case l_tops_over => k_is)
    (case c_tops_over => k_is)
    (case k_tops_over => k_is)
    (case a_c_gaps_of => k_is)
    (case i_c_gaps_of => k_is)
    (case l_c_gaps_of => k_is)
    (case c_c_gaps_of => k_is)
    (case k_c_gaps_of => k_is)
    (case a_c_free_in => k_is)
    (case i_c_free_in => k_is)
    (case l_c_free_in => k_is)
    (case c_c_free_in => k_is)
    (case k_c_free_in => k_is)
    (case a_c_reached => k_is)
    (case i_c_reached => k_is)
    (case l_c_reached => k_is)
    (case c_c_reached => k_is)
    (case k_c_reached => k_is)
    (case a_c_raise_by => k_is)
    (case i_c_raise_by => k_is)
    (case l_c_raise_by => k_is)
    (case c_c_raise_by => k_is)
    (case k_c_raise_by => k_is)
    (case a_c_hand_on => k_is)
    (case i_c_hand_on => k_is)
    (case l_c_hand_on => k_is)
    (case c_c_hand_on => k_is)
    (case k_c_hand_on => k_is)
    (case a_c_take_in => k_is)
    (case i_c_take_in => k_is)
    (case l_c_take_in => k_is)
    (case c_c_take_in => k_is)
    (case k_c_take_in => k_is)
    (case a_c_init => k_is)
    (case i_c_init => k_is)
    (case l_c_init => k_is)
    (case c_c_init => k_is)
    (case k_c_init => k_is)
    (case a_c_choice => k_is)
    (case i_c_choice => k_is)
    (case l_c_choice => k_is)
    (case c_c_choice => k_is)
    (case k_c_choice => k_is)
    (case a_some_heaviest => k_is)
    (case l_some_heaviest => k_is)
    (case c_some_heaviest => k_is)
    (case k_some_heaviest => k_is)
    (case a_heaviest_number => k_is)
    (case l_heaviest_number => k_is)
    (case c_heaviest_number => k_is)
    (case k_heaviest_number => k_is)
    (case a_check_choices => k_is)
    (case l_check_choices => k_is)
    (case c_check_choices => k_is)
    (case k_check_choices => k_is)
    (case a_heaviest_weight => k_is)
    (case l_heaviest_weight => k_is)
    (case c_heaviest_weight => k_is)
    (case k_heaviest_weight => k_is)
    (case a_least_pair => k_is)
    (case l_least_pair => k_is)
    (case c_least_pair => k_is)
    (case k_least_pair => k_is)
    (case a_least_offsets => k_is)
    (case l_least_offsets => k_is)
    (case c_least_offsets => k_is)
    (case k_least_offsets => k_is)
    (case a_are_best => k_is)
    (case l_are_best => k_is)
    (case c_are_best => k_is)
    (case k_are_best => k_is)
    (case a_l_draw => k_is)
    (case l_l_draw => k_is)
    (case c_l_draw => k_is)
    (case k_l_draw => k_is)
    (case a_l_pick => k_is)
    (case l_l_pick => k_is)
    (case c_l_pick => k_is)
    (case k_l_pick => k_is)
    (case a_l_well => k_is)
    (case l_l_well => k_is)
    (case c_l_well => k_is)
    (case k_l_well => k_is)
    (case a_l_order_list => k_is)
    (case l_l_order_list => k_is)
    (case c_l_order_list => k_is)
    (case k_l_order_list => k_is)
    (case a_l_start => k_is)
    (case l_l_start => k_is)
    (case c_l_start => k_is)
    (case k_l_start => k_is)
    (case a_l_choices => k_is)
    (case l_l_choices => k_is)
    (case c_l_choices => k_is)
    (case k_l_choices => k_is)
    (case a_l_weight => k_is)
    (case l_l_weight => k_is)
    (case c_l_weight => k_is)
    (case k_l_weight => k_is)
    (case a_l_heaviest => k_is)
    (case l_l_heaviest => k_is)
    (case c_l_heaviest => k_is)
    (case k_l_heaviest => k_is)
    (case a_l_best_from => k_is)
    (case l_l_best_from => k_is)
    (case c_l_best_from => k_is)
    (case k_l_best_from => k_is)
    (case a_l_together => k_is)
    (case l_l_together => k_is)
    (case c_l_together => k_is)
    (case k_l_together => k_is)
    (case a_l_is_from => k_is)
    (case l_l_is_from => k_is)
    (case c_l_is_from => k_is)
    (case k_l_is_from => k_is)
    (case a_l_any_offsets => k_is)
    (case l_l_any_offsets => k_is)
    (case c_l_any_offsets => k_is)
    (case k_l_any_offsets => k_is)
    (case a_l_grid => k_is)
    (case l_l_grid => k_is)
    (case c_l_grid => k_is)
    (case k_l_grid => k_is)
    (case a_l_filled => k_is)
    (case l_l_filled => k_is)
    (case c_l_filled => k_is)
    (case k_l_filled => k_is)
    (case a_l_right => k_is)
    (case l_l_right => k_is)
    (case c_l_right => k_is)
    (case k_l_right => k_is)
    (case a_law => k_is)
    (case l_law => k_is)
    (case c_law => k_is)
    (case k_law => k_is)
    (case pg => k_is)
    (case hd => k_is)
    (case po => k_is)
    (case sa => k_is)
    (case mk => k_is)
    (case kc => k_is)
    (case n_pattern => k_is)
    (case n_owners => k_is)
    (case n_grown => k_is)
    (case n_tops => k_is)
    (case n_short => k_is)
    (case z_isinstance => k_is)
    (case z_tuple => k_is)
    (case z_list => k_is)
    (case z_int => k_is)
    (case z_bool => k_is)
    (case z_len => k_is)
    (case z_sum => k_is)
    (case z_max => k_is)
    (case z_min => k_is)
    (case z_all => k_is)
    (case z_range => k_is)
    (case z_enumerate => k_is)
    (case z_repr => k_is)
    (case z_divmod => k_is)
    (case z_abs => k_is)

