import PyProof.Rows.All
import PyQr04
import Wide.All
import OpenK.AllK
import Wide.FinOn
import PyProof.EqAt
import PyProof.EqKinds
import PyProof.TupleCall
import Open.SpecLaws
import KE.OsGo
import KE.KNest
import KE.KLam
import HandS.ForSpec
import HandS.ForMost
import HandS.More
import HandS.Walk
import HandS.SortKw
import HandS.Lambda
import HandS.CallLocal
import HandS.NoneIn
import HandS.Style
import KE.SortData
import KE.DataMinMax
import KE.SortKeyHeap
import HandS.SortInts
import PySem.Challenge.RW_statementclash_s01_answers
import HandS.EndTab
import HandS.Spec
/-! ## MA1 -/
set_option linter.all false
namespace SC
/-! orders of numbers, told by ranks -/
def cmp (a b : Nat) : Nat := if a < b then 0 else if a = b then 1 else 2
def raised (l : List Nat) (k : Nat) : List Nat := l.map fun r => if k ≤ r then r + 1 else r
def withRank (l : List Nat) (p : Nat) : List Nat := if p % 2 = 1 then l ++ [p / 2] else raised l (p / 2) ++ [p / 2]
def manyRanks (l : List Nat) : Nat := l.foldr (fun r m => max (r + 1) m) 0
def longer (l : List Nat) : List (List Nat) := (List.range (2 * manyRanks l + 1)).map (withRank l)
def orders : Nat → List (List Nat)
  | 0 => [[]]
  | n + 1 => (orders n).flatMap longer
def isUp (s : List Nat) : Bool := decide (s.getD (s.length - 2) 0 < s.getD (s.length - 1) 0)
def withInterval (l : List Nat) : List (List Nat) := (longer l).flatMap fun f => (longer f).filter isUp
def intervalOrders : Nat → List (List Nat)
  | 0 => [[]]
  | n + 1 => (intervalOrders n).flatMap withInterval

theorem cmp_lt {a b : Nat} : cmp a b = 0 ↔ a < b := by unfold cmp; split <;> (try split) <;> omega
theorem cmp_eq {a b : Nat} : cmp a b = 1 ↔ a = b := by unfold cmp; split <;> (try split) <;> omega
theorem cmp_gt {a b : Nat} : cmp a b = 2 ↔ b < a := by unfold cmp; split <;> (try split) <;> omega
theorem cmp_le2 (a b : Nat) : cmp a b ≤ 2 := by unfold cmp; split <;> (try split) <;> omega
theorem cmp_iff {a b c d : Nat} (h : cmp a b = cmp c d) : (a < b ↔ c < d) ∧ (a = b ↔ c = d) ∧ (b < a ↔ d < c) := by
  refine ⟨?_, ?_, ?_⟩
  · rw [← cmp_lt, h, cmp_lt]
  · rw [← cmp_eq, h, cmp_eq]
  · rw [← cmp_gt, h, cmp_gt]
theorem cmp_of {a b c d : Nat} (h1 : a < b ↔ c < d) (h2 : a = b ↔ c = d) : cmp a b = cmp c d := by
  unfold cmp; simp only [h1, h2]

theorem lt_many : ∀ {l : List Nat} {r : Nat}, r ∈ l → r < manyRanks l
  | x :: l, r, h => by
    show r < max (x + 1) (manyRanks l)
    rcases List.mem_cons.mp h with rfl | h
    · omega
    · have := lt_many h; omega
theorem many_le : ∀ {l : List Nat} {k : Nat}, (∀ r ∈ l, r < k) → manyRanks l ≤ k
  | [], k, _ => Nat.zero_le _
  | x :: l, k, h => by
    show max (x + 1) (manyRanks l) ≤ k
    have h1 := h x (List.mem_cons_self ..)
    have h2 := many_le (l := l) fun r hr => h r (List.mem_cons_of_mem _ hr)
    omega
theorem getD_mem {l : List Nat} {i : Nat} (h : i < l.length) : l.getD i 0 ∈ l := by
  rw [List.getD_eq_getElem?_getD, List.getElem?_eq_getElem h]
  exact List.getElem_mem h
theorem getD_app_lt {l : List Nat} {x i : Nat} (h : i < l.length) : (l ++ [x]).getD i 0 = l.getD i 0 := by
  simp [List.getD_eq_getElem?_getD, List.getElem?_append_left h]
theorem getD_app_eq {l : List Nat} {x : Nat} : (l ++ [x]).getD l.length 0 = x := by
  simp [List.getD_eq_getElem?_getD]
theorem getD_raised {l : List Nat} {k i : Nat} (h : i < l.length) : (raised l k).getD i 0 = if k ≤ l.getD i 0 then l.getD i 0 + 1 else l.getD i 0 := by
  unfold raised
  simp [List.getD_eq_getElem?_getD, List.getElem?_map, List.getElem?_eq_getElem h]
theorem raised_length (l : List Nat) (k : Nat) : (raised l k).length = l.length := by simp [raised]
theorem withRank_length (l : List Nat) (p : Nat) : (withRank l p).length = l.length + 1 := by
  unfold withRank; split <;> simp [raised_length]
theorem cmp_withRank {l : List Nat} {p i j : Nat} (hi : i < l.length) (hj : j < l.length) : cmp ((withRank l p).getD i 0) ((withRank l p).getD j 0) = cmp (l.getD i 0) (l.getD j 0) := by
  unfold withRank
  split
  · rw [getD_app_lt hi, getD_app_lt hj]
  · rw [getD_app_lt (by rw [raised_length]; exact hi), getD_app_lt (by rw [raised_length]; exact hj), getD_raised hi, getD_raised hj]
    apply cmp_of <;> split <;> split <;> omega
theorem mem_longer {l w : List Nat} : w ∈ longer l ↔ ∃ p, p ≤ 2 * manyRanks l ∧ w = withRank l p := by
  unfold longer
  simp only [List.mem_map, List.mem_range]
  constructor
  · rintro ⟨p, h, rfl⟩; exact ⟨p, by omega, rfl⟩
  · rintro ⟨p, h, rfl⟩; exact ⟨p, by omega, rfl⟩
theorem least_nat {P : Nat → Prop} : ∀ n, P n → ∃ m, P m ∧ ∀ k, k < m → ¬ P k := by
  intro n
  induction n using Nat.strongRecOn with
  | ind n ih =>
    intro h
    by_cases c : ∃ k, k < n ∧ P k
    · obtain ⟨k, h1, h2⟩ := c
      exact ih k h1 h2
    · exact ⟨n, h, fun k hk hp => c ⟨k, hk, hp⟩⟩
/-- one more number -/
theorem place_one {l : List Nat} {n : Nat} {h : Nat → Nat} (hl : l.length = n) (ag : ∀ i j, i < n → j < n → cmp (l.getD i 0) (l.getD j 0) = cmp (h i) (h j)) :
    ∃ w, w ∈ longer l ∧ w.length = n + 1 ∧ ∀ i j, i < n + 1 → j < n + 1 → cmp (w.getD i 0) (w.getD j 0) = cmp (h i) (h j) := by
  have key : ∃ p, p ≤ 2 * manyRanks l ∧ ∀ i, i < n → cmp ((withRank l p).getD i 0) ((withRank l p).getD n 0) = cmp (h i) (h n) := by
    by_cases c : ∃ i, i < n ∧ h i = h n
    · obtain ⟨i, hi, he⟩ := c
      refine ⟨2 * l.getD i 0 + 1, ?_, fun j hj => ?_⟩
      · have := lt_many (getD_mem (l := l) (i := i) (by omega)); omega
      · unfold withRank
        rw [if_pos (by omega), getD_app_lt (by omega), ← hl, getD_app_eq]
        have e : (2 * l.getD i 0 + 1) / 2 = l.getD i 0 := by omega
        rw [e, ag j i hj hi, he, hl]
    · obtain ⟨k, h1, h2⟩ := least_nat (P := fun k => ∀ i, i < n → h i < h n → l.getD i 0 < k) (manyRanks l) fun i hi _ => lt_many (getD_mem (by omega))
      have hk : k ≤ manyRanks l := by
        rcases Nat.lt_or_ge (manyRanks l) k with z | z
        · exact absurd (fun i hi _ => lt_many (getD_mem (by omega))) (h2 _ z)
        · exact z
      have up : ∀ j, j < n → h n < h j → k ≤ l.getD j 0 := by
        intro j hj hlt
        rcases Nat.eq_zero_or_pos k with z | z
        · omega
        · have q := h2 (k - 1) (by omega)
          rcases Nat.lt_or_ge (l.getD j 0) k with y | y
          · exfalso
            apply q
            intro i hi hlt2
            have := (cmp_iff (ag i j hi hj)).1.mpr (by omega)
            omega
          · exact y
      refine ⟨2 * k, by omega, fun j hj => ?_⟩
      unfold withRank
      have e : 2 * k / 2 = k := by omega
      rw [if_neg (by omega), e, getD_app_lt (by rw [raised_length]; omega), getD_raised (by omega)]
      have e2 : (raised l k ++ [k]).getD n 0 = k := by
        have := getD_app_eq (l := raised l k) (x := k)
        rwa [raised_length, hl] at this
      rw [e2]
      have ne : h j ≠ h n := fun z => c ⟨j, hj, z⟩
      rcases Nat.lt_or_gt_of_ne ne with z | z
      · have y := h1 j hj z
        rw [if_neg (by omega)]
        apply cmp_of <;> omega
      · have y := up j hj z
        rw [if_pos y]
        apply cmp_of <;> omega
  obtain ⟨p, hp, hc⟩ := key
  refine ⟨withRank l p, mem_longer.mpr ⟨p, hp, rfl⟩, by rw [withRank_length, hl], fun i j hi hj => ?_⟩
  have sym : ∀ {a b c d : Nat}, cmp a b = cmp c d → cmp b a = cmp d c := fun {a b c d} z => by
    have := cmp_iff z
    apply cmp_of <;> omega
  rcases Nat.lt_or_ge i n with z | z
  · rcases Nat.lt_or_ge j n with y | y
    · rw [cmp_withRank (by omega) (by omega), ag i j z y]
    · have : j = n := by omega
      subst this
      exact hc i z
  · have : i = n := by omega
    subst this
    rcases Nat.lt_or_ge j i with y | y
    · exact sym (hc j y)
    · have : j = i := by omega
      subst this
      rw [cmp_eq.mpr rfl, cmp_eq.mpr rfl]
theorem orders_all (h : Nat → Nat) : ∀ n, ∃ w, w ∈ orders n ∧ w.length = n ∧ ∀ i j, i < n → j < n → cmp (w.getD i 0) (w.getD j 0) = cmp (h i) (h j)
  | 0 => ⟨[], by simp [orders], rfl, fun i j hi => absurd hi (Nat.not_lt_zero _)⟩
  | n + 1 => by
    obtain ⟨l, h1, h2, h3⟩ := orders_all h n
    obtain ⟨w, k1, k2, k3⟩ := place_one (h := h) h2 h3
    exact ⟨w, List.mem_flatMap.mpr ⟨l, h1, k1⟩, k2, k3⟩
theorem orders_length : ∀ {n : Nat} {w : List Nat}, w ∈ orders n → w.length = n
  | 0, w, h => by
    simp [orders] at h
    rw [h]; rfl
  | n + 1, w, h => by
    obtain ⟨l, h1, h2⟩ := List.mem_flatMap.mp h
    obtain ⟨p, _, rfl⟩ := mem_longer.mp h2
    rw [withRank_length, orders_length h1]
theorem isUp_app {f : List Nat} {n : Nat} (h : f.length = n + 2) : isUp f = decide (f.getD n 0 < f.getD (n + 1) 0) := by
  unfold isUp
  rw [h]
  rfl
theorem intervals_all (h : Nat → Nat) : ∀ n, (∀ i, i < n → h (2 * i) < h (2 * i + 1)) → ∃ w, w ∈ intervalOrders n ∧ w.length = 2 * n ∧ ∀ i j, i < 2 * n → j < 2 * n → cmp (w.getD i 0) (w.getD j 0) = cmp (h i) (h j)
  | 0, _ => ⟨[], by simp [intervalOrders], rfl, fun i j hi => absurd hi (Nat.not_lt_zero _)⟩
  | n + 1, hh => by
    obtain ⟨l, h1, h2, h3⟩ := intervals_all h n fun i hi => hh i (by omega)
    obtain ⟨f, k1, k2, k3⟩ := place_one (h := h) h2 h3
    obtain ⟨w, m1, m2, m3⟩ := place_one (h := h) k2 k3
    refine ⟨w, List.mem_flatMap.mpr ⟨l, h1, List.mem_flatMap.mpr ⟨f, k1, List.mem_filter.mpr ⟨m1, ?_⟩⟩⟩, m2, m3⟩
    rw [isUp_app m2]
    exact decide_eq_true ((cmp_iff (m3 (2 * n) (2 * n + 1) (by omega) (by omega))).1.mpr (hh n (by omega)))
theorem intervals_is : ∀ {n : Nat} {w : List Nat}, w ∈ intervalOrders n → w.length = 2 * n ∧ ∀ i, i < n → w.getD (2 * i) 0 < w.getD (2 * i + 1) 0
  | 0, w, h => by
    simp [intervalOrders] at h
    rw [h]; exact ⟨rfl, fun i hi => absurd hi (Nat.not_lt_zero _)⟩
  | n + 1, w, h => by
    obtain ⟨l, h1, h2⟩ := List.mem_flatMap.mp h
    obtain ⟨f, h3, h4⟩ := List.mem_flatMap.mp h2
    obtain ⟨h5, h6⟩ := List.mem_filter.mp h4
    obtain ⟨e1, e2⟩ := intervals_is h1
    obtain ⟨p, _, rfl⟩ := mem_longer.mp h3
    obtain ⟨q, _, rfl⟩ := mem_longer.mp h5
    have l1 : (withRank l p).length = 2 * n + 1 := by rw [withRank_length, e1]
    have l2 : (withRank (withRank l p) q).length = 2 * n + 2 := by rw [withRank_length, l1]
    refine ⟨l2, fun i hi => ?_⟩
    rcases Nat.lt_or_ge i n with z | z
    · have c1 := cmp_withRank (l := withRank l p) (p := q) (i := 2 * i) (j := 2 * i + 1) (by omega) (by omega)
      have c2 := cmp_withRank (l := l) (p := p) (i := 2 * i) (j := 2 * i + 1) (by omega) (by omega)
      exact (cmp_iff (c1.trans c2)).1.mpr (e2 i z)
    · have : i = n := by omega
      subst this
      rw [isUp_app l2] at h6
      exact of_decide_eq_true h6
end SC

/-! ## MA2 -/
set_option linter.all false
namespace SC
open Qr (Edge raise rounds fine)
/-! the least coordinates are found in as many rounds as there are coordinates -/
def stp (e : Edge) : Nat := if e.strict = true then 1 else 0
def one (h : List Nat) (e : Edge) : List Nat := if h.getD e.j 0 < h.getD e.i 0 + stp e then h.set e.j (h.getD e.i 0 + stp e) else h
theorem raise_eq (es : List Edge) (h : List Nat) : raise es h = es.foldl one h := rfl
def Sat (es : List Edge) (v : Nat → Nat) : Prop := ∀ e ∈ es, v e.i + stp e ≤ v e.j
theorem one_length (h : List Nat) (e : Edge) : (one h e).length = h.length := by unfold one; split <;> simp
theorem getD_set {h : List Nat} {j x c : Nat} (hj : j < h.length) : (h.set j x).getD c 0 = if j = c then x else h.getD c 0 := by
  simp only [List.getD_eq_getElem?_getD, List.getElem?_set]
  split <;> rename_i q
  · subst q; simp [hj]
  · rfl
theorem one_getD {h : List Nat} {e : Edge} (hj : e.j < h.length) (c : Nat) : (one h e).getD c 0 = if e.j = c then max (h.getD c 0) (h.getD e.i 0 + stp e) else h.getD c 0 := by
  unfold one
  split
  · rw [getD_set hj]
    split
    · rename_i a b; subst b; omega
    · rfl
  · split
    · rename_i a b; subst b; omega
    · rfl
section
variable {v : Nat → Nat} {m : Nat}
theorem fold_one : ∀ (es : List Edge) (h : List Nat), h.length = m → (∀ e ∈ es, e.i < m ∧ e.j < m) → Sat es v → (∀ c, c < m → h.getD c 0 ≤ v c) →
    (es.foldl one h).length = m ∧ (∀ c, c < m → (es.foldl one h).getD c 0 ≤ v c) ∧ (∀ c, h.getD c 0 ≤ (es.foldl one h).getD c 0) ∧ ∀ e ∈ es, h.getD e.i 0 + stp e ≤ (es.foldl one h).getD e.j 0
  | [], h, hl, _, _, hv => ⟨hl, hv, fun c => Nat.le_refl _, fun e he => absurd he (by simp)⟩
  | e :: es, h, hl, hb, hs, hv => by
    have be := hb e (List.mem_cons_self ..)
    have se := hs e (List.mem_cons_self ..)
    have up : ∀ c, h.getD c 0 ≤ (one h e).getD c 0 := fun c => by
      rw [one_getD (by omega)]; split <;> omega
    obtain ⟨k1, k2, k3, k4⟩ := fold_one es (one h e) (by rw [one_length, hl]) (fun f hf => hb f (List.mem_cons_of_mem _ hf)) (fun f hf => hs f (List.mem_cons_of_mem _ hf)) (fun c hc => by
      rw [one_getD (by omega)]
      split
      · rename_i q; subst q
        have := hv e.i be.1
        have := hv e.j be.2
        omega
      · exact hv c hc)
    refine ⟨k1, k2, fun c => Nat.le_trans (up c) (k3 c), fun f hf => ?_⟩
    rcases List.mem_cons.mp hf with rfl | hf
    · have := k3 f.j
      rw [one_getD (by omega), if_pos rfl] at this
      show _ ≤ (es.foldl one (one h f)).getD f.j 0
      omega
    · have := k4 f hf
      have := up f.i
      show _ ≤ (es.foldl one (one h e)).getD f.j 0
      omega
end
/-- how many of the first m numbers -/
def cnt (p : Nat → Bool) (m : Nat) : Nat := (List.range m).countP p
theorem cnt_succ (p : Nat → Bool) (m : Nat) : cnt p (m + 1) = cnt p m + if p m = true then 1 else 0 := by
  unfold cnt
  rw [List.range_succ, List.countP_append]
  simp [List.countP_cons]
theorem cnt_le (p : Nat → Bool) (m : Nat) : cnt p m ≤ m := by
  induction m with
  | zero => simp [cnt]
  | succ m ih => rw [cnt_succ]; split <;> omega
theorem cnt_mono {p q : Nat → Bool} : ∀ m, (∀ c, c < m → p c = true → q c = true) → cnt p m ≤ cnt q m
  | 0, _ => by simp [cnt]
  | m + 1, h => by
    have ih := cnt_mono (p := p) (q := q) m fun c hc => h c (by omega)
    have := h m (by omega)
    rw [cnt_succ, cnt_succ]
    split
    · rw [if_pos (this (by assumption))]; omega
    · split <;> omega
theorem cnt_lt {p q : Nat → Bool} : ∀ m, (∀ c, c < m → p c = true → q c = true) → (∃ c, c < m ∧ p c = false ∧ q c = true) → cnt p m + 1 ≤ cnt q m
  | 0, _, ⟨c, hc, _⟩ => absurd hc (Nat.not_lt_zero _)
  | m + 1, h, ⟨c, hc, h1, h2⟩ => by
    rw [cnt_succ, cnt_succ]
    rcases Nat.lt_or_ge c m with z | z
    · have ih := cnt_lt (p := p) (q := q) m (fun c hc => h c (by omega)) ⟨c, z, h1, h2⟩
      have := h m (by omega)
      split
      · rw [if_pos (this (by assumption))]; omega
      · split <;> omega
    · have : c = m := by omega
      subst this
      have ih := cnt_mono (p := p) (q := q) c fun d hd => h d (by omega)
      rw [h1, h2, if_pos rfl, if_neg (by decide)]
      omega
theorem cnt_full {p : Nat → Bool} : ∀ m, cnt p m = m → ∀ c, c < m → p c = true
  | 0, _, c, hc => absurd hc (Nat.not_lt_zero _)
  | m + 1, h, c, hc => by
    rw [cnt_succ] at h
    have := cnt_le p m
    split at h
    · rcases Nat.lt_or_ge c m with z | z
      · exact cnt_full m (by omega) c z
      · have : c = m := by omega
        subst this; assumption
    · omega
def tot (v : Nat → Nat) : Nat → Nat
  | 0 => 0
  | m + 1 => tot v m + v m
theorem tot_mono {v u : Nat → Nat} : ∀ m, (∀ c, c < m → u c ≤ v c) → tot u m ≤ tot v m
  | 0, _ => Nat.le_refl _
  | m + 1, h => by
    have := tot_mono m fun c hc => h c (by omega)
    have := h m (by omega)
    show tot u m + u m ≤ tot v m + v m
    omega
theorem tot_lt {v u : Nat → Nat} : ∀ m, (∀ c, c < m → u c ≤ v c) → (∃ c, c < m ∧ u c < v c) → tot u m < tot v m
  | 0, _, ⟨c, hc, _⟩ => absurd hc (Nat.not_lt_zero _)
  | m + 1, h, ⟨c, hc, hlt⟩ => by
    show tot u m + u m < tot v m + v m
    have hm := h m (by omega)
    rcases Nat.lt_or_ge c m with z | z
    · have := tot_lt m (fun c hc => h c (by omega)) ⟨c, z, hlt⟩
      omega
    · have : c = m := by omega
      subst this
      have := tot_mono c fun d hd => h d (by omega)
      omega
section
variable {es : List Edge} {m : Nat}
/-- the rounds approach a least solution -/
theorem rounds_to {v : Nat → Nat} (hb : ∀ e ∈ es, e.i < m ∧ e.j < m) (hs : Sat es v) (least : ∀ u, Sat es u → tot v m ≤ tot u m) :
    ∀ (t : Nat) (h : List Nat), h.length = m → (∀ c, c < m → h.getD c 0 ≤ v c) → m ≤ cnt (fun c => h.getD c 0 == v c) m + t →
      (rounds es t h).length = m ∧ ∀ c, c < m → (rounds es t h).getD c 0 = v c
  | 0, h, hl, hv, hc => by
    refine ⟨hl, fun c hcm => ?_⟩
    have := cnt_le (fun c => h.getD c 0 == v c) m
    exact beq_iff_eq.mp (cnt_full (p := fun c => h.getD c 0 == v c) m (by omega) c hcm)
  | t + 1, h, hl, hv, hc => by
    obtain ⟨k1, k2, k3, k4⟩ := fold_one (v := v) es h hl hb hs hv
    rw [← raise_eq] at k1 k2 k3 k4
    refine rounds_to hb hs least t (raise es h) k1 k2 ?_
    have mono : ∀ c, c < m → (h.getD c 0 == v c) = true → ((raise es h).getD c 0 == v c) = true := fun c hcm q => by
      have q : h.getD c 0 = v c := beq_iff_eq.mp q
      have := k2 c hcm
      have := k3 c
      exact beq_iff_eq.mpr (by omega)
    by_cases full : ∀ c, c < m → h.getD c 0 = v c
    · have e : cnt (fun c => (raise es h).getD c 0 == v c) m = m := by
        have h1 := cnt_mono (p := fun _ => true) (q := fun c => (raise es h).getD c 0 == v c) m fun c hcm _ => mono c hcm (beq_iff_eq.mpr (full c hcm))
        have h2 : cnt (fun _ => true) m = m := by simp [cnt]
        have h3 := cnt_le (fun c => (raise es h).getD c 0 == v c) m
        omega
      omega
    · -- some coordinate is not yet there; one of these has a tight edge from one that is
      have : ∃ c, c < m ∧ h.getD c 0 ≠ v c := by
        apply Classical.byContradiction
        intro no
        exact full fun c hcm => Classical.byContradiction fun z => no ⟨c, hcm, z⟩
      obtain ⟨c0, hc0, hn0⟩ := this
      have tight : ∃ e ∈ es, h.getD e.i 0 = v e.i ∧ h.getD e.j 0 ≠ v e.j ∧ v e.i + stp e = v e.j := by
        apply Classical.byContradiction
        intro no
        have s' : Sat es fun c => if c < m ∧ h.getD c 0 ≠ v c then v c - 1 else v c := by
          intro e he
          have := hs e he
          obtain ⟨b1, b2⟩ := hb e he
          have v1 := hv e.i b1
          have v2 := hv e.j b2
          show (if e.i < m ∧ h.getD e.i 0 ≠ v e.i then v e.i - 1 else v e.i) + stp e ≤ if e.j < m ∧ h.getD e.j 0 ≠ v e.j then v e.j - 1 else v e.j
          by_cases a1 : h.getD e.i 0 = v e.i
          · rw [if_neg (fun z => z.2 a1)]
            by_cases a2 : h.getD e.j 0 = v e.j
            · rw [if_neg (fun z => z.2 a2)]; exact this
            · rw [if_pos ⟨b2, a2⟩]
              have : v e.i + stp e ≠ v e.j := fun z => no ⟨e, he, a1, a2, z⟩
              omega
          · rw [if_pos ⟨b1, a1⟩]
            by_cases a2 : h.getD e.j 0 = v e.j
            · rw [if_neg (fun z => z.2 a2)]; omega
            · rw [if_pos ⟨b2, a2⟩]; omega
        have h1 := least _ s'
        have h2 : tot (fun c => if c < m ∧ h.getD c 0 ≠ v c then v c - 1 else v c) m < tot v m := by
          refine tot_lt m (fun c hcm => ?_) ⟨c0, hc0, ?_⟩
          · show (if c < m ∧ h.getD c 0 ≠ v c then v c - 1 else v c) ≤ v c
            split <;> omega
          · show (if c0 < m ∧ h.getD c0 0 ≠ v c0 then v c0 - 1 else v c0) < v c0
            rw [if_pos ⟨hc0, hn0⟩]
            have := hv c0 hc0
            omega
        omega
      obtain ⟨e, he, a1, a2, a3⟩ := tight
      have := cnt_lt (p := fun c => h.getD c 0 == v c) (q := fun c => (raise es h).getD c 0 == v c) m mono ⟨e.j, (hb e he).2, beq_eq_false_iff_ne.mpr a2, by
        have q1 := k4 e he
        have q2 := k2 e.j (hb e he).2
        exact beq_iff_eq.mpr (by omega)⟩
      omega
theorem fine_iff {h : List Nat} : fine es h = true ↔ Sat es fun c => h.getD c 0 := by
  unfold fine Sat stp
  simp [List.all_eq_true]
theorem least_sat {v : Nat → Nat} (hs : Sat es v) : ∃ u, Sat es u ∧ ∀ u', Sat es u' → tot u m ≤ tot u' m := by
  obtain ⟨k, ⟨u, h1, h2⟩, h3⟩ := least_nat (P := fun k => ∃ u, Sat es u ∧ tot u m = k) (tot v m) ⟨v, hs, rfl⟩
  refine ⟨u, h1, fun u' hu' => ?_⟩
  rcases Nat.lt_or_ge (tot u' m) (tot u m) with z | z
  · exact absurd ⟨u', hu', rfl⟩ (h3 _ (by omega))
  · exact z
theorem rounds_fine (hb : ∀ e ∈ es, e.i < m ∧ e.j < m) : fine es (rounds es (m + 1) (List.replicate m 0)) = true ↔ ∃ v, Sat es v := by
  constructor
  · intro h; exact ⟨_, fine_iff.mp h⟩
  · rintro ⟨v0, hs0⟩
    obtain ⟨v, hs, least⟩ := least_sat (m := m) hs0
    obtain ⟨k1, k2⟩ := rounds_to (v := v) hb hs least (m + 1) (List.replicate m 0) (by simp) (fun c hc => by simp [List.getD_eq_getElem?_getD, List.getElem?_replicate, hc]) (by omega)
    rw [fine_iff]
    intro e he
    obtain ⟨b1, b2⟩ := hb e he
    show (rounds es (m + 1) (List.replicate m 0)).getD e.i 0 + stp e ≤ (rounds es (m + 1) (List.replicate m 0)).getD e.j 0
    rw [k2 _ b1, k2 _ b2]
    exact hs e he
end
theorem heights_iff {k n : Nat} {l : List Qr.Fact} (hb : ∀ e ∈ Qr.told k n l, e.i < n * Qr.marks k ∧ e.j < n * Qr.marks k) : (Qr.heights k n l).isSome = true ↔ ∃ v, Sat (Qr.told k n l) v := by
  rw [← rounds_fine hb]
  unfold Qr.heights
  simp only
  split <;> simp_all
end SC

/-! ## MA3 -/
set_option linter.all false
namespace SC
/-! what each def computes, in plain Lean -/
def holders (n i : Nat) : Nat := (List.range' 1 (2 ^ n - 1)).foldl (fun a r => if r / 2 ^ i % 2 = 1 then a + 2 ^ r else a) 0
def inAll (n h : Nat) : Bool := ((List.range n).map (holders n)).all fun r => decide (((2 * h) &&& r) ≠ 0)
def venn (n : Nat) : List Nat := ((List.range (2 ^ (2 ^ n - 1))).filter (inAll n)).map fun h => 2 * h
/-- a world: ranks of points or of starts and ends; regions with an element; two coordinates' ranks -/
inductive Wd where
  | ranks (l : List Nat)
  | regions (m : Nat)
  | two (a b : List Nat)
def worlds (k n : Nat) : List Wd := if k = 0 then (orders n).map .ranks else if k = 1 then (intervalOrders n).map .ranks else if k = 2 then (venn n).map .regions else (orders n).flatMap fun a => (orders n).map (Wd.two a)
def inner (s e o l : Nat) : Nat := if cmp s o = 1 then [3, 6, 9].getD (cmp e l) 0 else if cmp s o = 0 then [2, 7, 8].getD (cmp e l) 0 else [4, 5, 10].getD (cmp e l) 0
def intervalRel (s e o l : Nat) : Nat := if e ≤ o then (if e < o then 0 else 1) else if l ≤ s then (if l < s then 12 else 11) else inner s e o l
def setRel (r m t : Nat) : Nat := if ((r &&& m) &&& t) = 0 then 0 else if (r &&& m) - ((r &&& m) &&& t) ≠ 0 then (if (r &&& t) - ((r &&& t) &&& m) ≠ 0 then 1 else 4) else (if (r &&& t) - ((r &&& t) &&& m) ≠ 0 then 2 else 3)
def relIn (k n : Nat) (w : Wd) (i j : Nat) : Nat := match w with
  | .ranks l => if k = 0 then cmp (l.getD i 0) (l.getD j 0) else intervalRel (l.getD (2 * i) 0) (l.getD (2 * i + 1) 0) (l.getD (2 * j) 0) (l.getD (2 * j + 1) 0)
  | .regions m => setRel m (holders n i) (holders n j)
  | .two a b => 3 * cmp (a.getD i 0) (a.getD j 0) + cmp (b.getD i 0) (b.getD j 0)
/-- a world of n objects of kind k -/
def Fits (k n : Nat) : Wd → Prop
  | .ranks l => (k = 0 ∧ l.length = n) ∨ (k = 1 ∧ l.length = 2 * n)
  | .regions _ => k = 2
  | .two a b => k ≠ 0 ∧ k ≠ 1 ∧ k ≠ 2 ∧ a.length = n ∧ b.length = n
/-- a statement: two objects and a set of relations -/
structure Said where
  one : Nat
  other : Nat
  rel : Nat
  deriving DecidableEq
def holdsIn (k n : Nat) (w : Wd) (s : Said) : Bool := decide (s.rel / 2 ^ relIn k n w s.one s.other % 2 = 1)
def maskStep {α : Type} (p : α → Bool) (m : Nat) (e : Nat × α) : Nat := if p e.2 = true then m + 2 ^ e.1 else m
def maskOf {α : Type} (p : α → Bool) (l : List α) : Nat := ((List.range l.length).zip l).foldl (maskStep p) 0
def isWithin (p w : Nat) : Bool := decide (p - (p &&& w) = 0)
def isConsistent (known : List Nat) (part : Nat) : Bool := known.any fun m => isWithin part m
def numbersOf (part many : Nat) : List Nat := (List.range many).filter fun i => decide (part / 2 ^ i % 2 = 1)
def minimal (parts : List Nat) : List Nat := parts.filter fun part => !(parts.any fun o => decide (o ≠ part) && isWithin o part)
def castRow (b : List Nat) : List Int := b.map fun n : Nat => (n : Int)
/-- a row's key, and the order of rows by their keys -/
def keyOf (b : List Nat) : List Int := (b.length : Int) :: castRow b
def keyLe (p q : List Nat) : Bool := decide (keyOf p ≤ keyOf q)
def ordered (parts : List Nat) (many : Nat) : List (List Nat) := (parts.map fun p => numbersOf p many).mergeSort keyLe
def conflicts (known : List Nat) (many : Nat) : List (List Nat) := ordered (minimal ((List.range (2 ^ many)).filter fun p => !isConsistent known p)) many
def cures (known : List Nat) (many : Nat) : List (List Nat) := ordered (minimal ((List.range (2 ^ many)).filter fun p => isConsistent known (2 ^ many - 1 - p))) many
def doesImply (known : List Nat) (part many : Nat) : Bool := !(known.any fun m => isWithin part m && decide (m / 2 ^ many % 2 = 0))
def reasons (known : List Nat) (many : Nat) : List (List Nat) := ordered (minimal ((List.range (2 ^ many)).filter fun p => doesImply known p many)) many
end SC

/-! ## MA4 -/
set_option linter.all false
namespace SC
/-! how large the worlds' lists may be -/
theorem many_withRank {l : List Nat} {p : Nat} (h : p ≤ 2 * manyRanks l) : manyRanks (withRank l p) ≤ manyRanks l + 1 := by
  unfold withRank
  split
  · refine many_le fun r hr => ?_
    rcases List.mem_append.mp hr with h1 | h1
    · have := lt_many h1; omega
    · rw [List.mem_singleton.mp h1]; omega
  · refine many_le fun r hr => ?_
    rcases List.mem_append.mp hr with h1 | h1
    · unfold raised at h1
      obtain ⟨x, hx, rfl⟩ := List.mem_map.mp h1
      have := lt_many hx
      split <;> omega
    · rw [List.mem_singleton.mp h1]; omega
theorem orders_many : ∀ {n : Nat} {w : List Nat}, w ∈ orders n → manyRanks w ≤ n
  | 0, w, h => by
    simp [orders] at h
    rw [h]; exact Nat.le_refl _
  | n + 1, w, h => by
    obtain ⟨l, h1, h2⟩ := List.mem_flatMap.mp h
    obtain ⟨p, hp, rfl⟩ := mem_longer.mp h2
    have := many_withRank hp
    have := orders_many h1
    omega
theorem intervals_many : ∀ {n : Nat} {w : List Nat}, w ∈ intervalOrders n → manyRanks w ≤ 2 * n
  | 0, w, h => by
    simp [intervalOrders] at h
    rw [h]; exact Nat.le_refl _
  | n + 1, w, h => by
    obtain ⟨l, h1, h2⟩ := List.mem_flatMap.mp h
    obtain ⟨f, h3, h4⟩ := List.mem_flatMap.mp h2
    obtain ⟨h5, _⟩ := List.mem_filter.mp h4
    obtain ⟨p, hp, rfl⟩ := mem_longer.mp h3
    obtain ⟨q, hq, rfl⟩ := mem_longer.mp h5
    have := many_withRank hp
    have := many_withRank hq
    have := intervals_many h1
    omega
theorem longer_len (l : List Nat) : (longer l).length = 2 * manyRanks l + 1 := by simp [longer]
theorem flat_len {α β : Type} {f : α → List β} {b : Nat} : ∀ (l : List α), (∀ x ∈ l, (f x).length ≤ b) → (l.flatMap f).length ≤ l.length * b
  | [], _ => by simp
  | x :: l, h => by
    have h1 := h x (List.mem_cons_self ..)
    have h2 := flat_len l fun y hy => h y (List.mem_cons_of_mem _ hy)
    rw [List.flatMap_cons, List.length_append, List.length_cons, Nat.succ_mul]
    omega
theorem flat_take {α β : Type} (f : α → List β) (l : List α) (i : Nat) : ((l.take i).flatMap f).length ≤ (l.flatMap f).length := by
  conv => rhs; rw [← List.take_append_drop i l, List.flatMap_append, List.length_append]
  omega
theorem orders_len : ∀ n, n ≤ 4 → (orders n).length ≤ 9 ^ n
  | 0, _ => by simp [orders]
  | n + 1, h => by
    have h1 := orders_len n (by omega)
    have h2 : ((orders n).flatMap longer).length ≤ (orders n).length * 9 := flat_len _ fun l hl => by
      rw [longer_len]
      have := orders_many hl
      omega
    show ((orders n).flatMap longer).length ≤ 9 ^ (n + 1)
    rw [Nat.pow_succ]
    exact Nat.le_trans h2 (Nat.mul_le_mul_right 9 h1)
theorem orders_small {n : Nat} (h : n ≤ 4) : (orders n).length ≤ 6561 := Nat.le_trans (orders_len n h) (by
  have : 9 ^ n ≤ 9 ^ 4 := Nat.pow_le_pow_right (by decide) h
  omega)
theorem withInterval_len {l : List Nat} {k : Nat} (h : manyRanks l ≤ k) : (withInterval l).length ≤ (2 * k + 1) * (2 * k + 3) := by
  refine Nat.le_trans (flat_len (b := 2 * k + 3) _ fun f hf => ?_) (Nat.mul_le_mul_right _ (by rw [longer_len]; omega))
  refine Nat.le_trans (List.length_filter_le _ _) ?_
  obtain ⟨p, hp, rfl⟩ := mem_longer.mp hf
  rw [longer_len]
  have := many_withRank hp
  omega
theorem intervals_step {n b : Nat} (h : (intervalOrders n).length ≤ b) : (intervalOrders (n + 1)).length ≤ b * ((4 * n + 1) * (4 * n + 3)) := by
  refine Nat.le_trans (flat_len (b := (4 * n + 1) * (4 * n + 3)) _ fun l hl => ?_) (Nat.mul_le_mul_right _ h)
  have := withInterval_len (intervals_many hl)
  have e : 2 * (2 * n) = 4 * n := by omega
  rwa [e] at this
theorem intervals_small : ∀ {n : Nat}, n ≤ 4 → (intervalOrders n).length ≤ 3000000 := by
  intro n hn
  have h0 : (intervalOrders 0).length ≤ 1 := by simp [intervalOrders]
  have h1 : (intervalOrders 1).length ≤ 3 := intervals_step h0
  have h2 : (intervalOrders 2).length ≤ 3 * 35 := intervals_step h1
  have h3 : (intervalOrders 3).length ≤ 3 * 35 * 99 := intervals_step h2
  have h4 : (intervalOrders 4).length ≤ 3 * 35 * 99 * 195 := intervals_step h3
  match n, hn with
  | 0, _ => omega
  | 1, _ => omega
  | 2, _ => omega
  | 3, _ => omega
  | 4, _ => omega
end SC

/-! ## SD1 -/
set_option Elab.async false
set_option linter.all false
set_option maxRecDepth 100000
set_option maxHeartbeats 2000000
/-! data that the program hands about, and what expressions evaluate to -/
namespace SD
open PySem PySem.Spec PyProof.Rows L2
inductive D where
  | int (i : Int)
  | bl (b : Bool)
  | lst (ds : List D)
  | tup (ds : List D)
mutual
inductive IsD (H : Hp) : V → D → Prop
  | int (i : Int) : IsD H (.int i) (.int i)
  | bl (b : Bool) : IsD H (.bl b) (.bl b)
  | lst {a : Addr} {vs : List V} {ds : List D} : H a = some (.lst vs) → IsDs H vs ds → IsD H (.ref a) (.lst ds)
  | tup {a : Addr} {vs : List V} {ds : List D} : H a = some (.tup vs) → IsDs H vs ds → IsD H (.ref a) (.tup ds)
inductive IsDs (H : Hp) : List V → List D → Prop
  | nil : IsDs H [] []
  | cons {v : V} {vs : List V} {d : D} {ds : List D} : IsD H v d → IsDs H vs ds → IsDs H (v :: vs) (d :: ds)
end
section
variable {H H' : Hp}
mutual
theorem IsD.sub (e : ∀ a o, H a = some o → (∀ ps, o ≠ .tbl ps) → H' a = some o) : ∀ {d : D} {v : V}, IsD H v d → IsD H' v d
  | .int _, _, h => by cases h; exact .int _
  | .bl _, _, h => by cases h; exact .bl _
  | .lst ds, _, h => by
    cases h with
    | lst h1 h2 => exact .lst (e _ _ h1 fun _ z => by cases z) (IsDs.sub e h2)
  | .tup ds, _, h => by
    cases h with
    | tup h1 h2 => exact .tup (e _ _ h1 fun _ z => by cases z) (IsDs.sub e h2)
theorem IsDs.sub (e : ∀ a o, H a = some o → (∀ ps, o ≠ .tbl ps) → H' a = some o) : ∀ {ds : List D} {vs : List V}, IsDs H vs ds → IsDs H' vs ds
  | [], _, h => by cases h; exact .nil
  | d :: ds, _, h => by
    cases h with
    | cons h1 h2 => exact .cons (IsD.sub e h1) (IsDs.sub e h2)
end
theorem IsDs.len : ∀ {ds : List D} {vs : List V}, IsDs H vs ds → vs.length = ds.length
  | [], _, h => by cases h; rfl
  | d :: ds, _, h => by
    cases h with
    | cons h1 h2 => show _ + 1 = _ + 1; rw [IsDs.len h2]
theorem IsDs.get : ∀ {ds : List D} {vs : List V} {i : Nat} {d : D}, IsDs H vs ds → ds[i]? = some d → ∃ v, vs[i]? = some v ∧ IsD H v d
  | [], _, _, _, h, q => by simp at q
  | d :: ds, _, i, x, h, q => by
    cases h with
    | cons h1 h2 =>
      cases i with
      | zero => simp at q; subst q; exact ⟨_, rfl, h1⟩
      | succ i => simpa using IsDs.get h2 (by simpa using q)
theorem IsDs.get' : ∀ {ds : List D} {vs : List V} {i : Nat} {v : V}, IsDs H vs ds → vs[i]? = some v → ∃ d, ds[i]? = some d ∧ IsD H v d
  | [], _, _, _, h, q => by cases h; simp at q
  | d :: ds, _, i, x, h, q => by
    cases h with
    | cons h1 h2 =>
      cases i with
      | zero => simp at q; subst q; exact ⟨_, rfl, h1⟩
      | succ i => simpa using IsDs.get' h2 (by simpa using q)
theorem IsDs.app : ∀ {ds es : List D} {vs ws : List V}, IsDs H vs ds → IsDs H ws es → IsDs H (vs ++ ws) (ds ++ es)
  | [], _, _, _, h, q => by cases h; exact q
  | d :: ds, _, _, _, h, q => by
    cases h with
    | cons h1 h2 => exact .cons h1 (IsDs.app h2 q)
end
/-- what stands stays (tables of code may grow); the tables in T stay good -/
structure Ex (T : List (Addr × Str)) (H H' : Hp) : Prop where
  keep : ∀ a o, H a = some o → (∀ ps, o ≠ .tbl ps) → H' a = some o
  tabs : LamX.Tabs T H → LamX.Tabs T H'
section
variable {T : List (Addr × Str)} {H H' H1 H2 : Hp}
theorem Ex.refl (H : Hp) : Ex T H H := ⟨fun _ _ h _ => h, fun h => h⟩
theorem Ex.trans (a : Ex T H H1) (b : Ex T H1 H2) : Ex T H H2 := ⟨fun x o h n => b.keep x o (a.keep x o h n) n, fun h => b.tabs (a.tabs h)⟩
theorem Ex.of (h : ∀ a o, H a = some o → H' a = some o) : Ex T H H' := ⟨fun a o e _ => h a o e, fun t => t.ext h⟩
theorem Ex.new {p : Addr} {o : HO} (h : H p = none) : Ex T H (upd H p o) := .of fun a u e => by
  rw [upd_ne (ne_of_none e h)]
  exact e
theorem Ex.lst (e : Ex T H H') {a : Addr} {xs : List V} (h : H a = some (.lst xs)) : H' a = some (.lst xs) := e.keep a _ h fun _ z => by cases z
theorem Ex.tup (e : Ex T H H') {a : Addr} {xs : List V} (h : H a = some (.tup xs)) : H' a = some (.tup xs) := e.keep a _ h fun _ z => by cases z
theorem Ex.dK (e : Ex T H H') {a : Addr} {xs : List (Key × V)} (h : H a = some (.dK xs)) : H' a = some (.dK xs) := e.keep a _ h fun _ z => by cases z
/-- an object that H does not know may change -/
theorem Ex.mut {p : Addr} {o o' : HO} (e : Ex T H H') (h : H p = none) (h' : H' p = some o') (n : ∀ ps, o' ≠ .tbl ps) (n2 : ∀ φ, o' ≠ .ext φ) : Ex T H (upd H' p o) := by
  refine ⟨fun a u ha hn => ?_, fun t => ?_⟩
  · rw [upd_ne (ne_of_none ha h)]
    exact e.keep a u ha hn
  · intro q hq
    obtain ⟨ps, a1, a2, a3⟩ := e.tabs t q hq
    refine ⟨ps, ?_, a2, fun pos cv hc => ?_⟩
    · rw [upd_ne]
      · exact a1
      · intro z
        rw [z, h'] at a1
        exact n ps (Option.some.inj a1)
    · obtain ⟨c, e1, e2⟩ := a3 pos cv hc
      refine ⟨c, e1, ?_⟩
      rw [upd_ne]
      · exact e2
      · intro z
        rw [z, h'] at e2
        exact n2 _ (Option.some.inj e2)
theorem Ex.mutL {p : Addr} {xs ys : List V} (e : Ex T H H') (h : H p = none) (h' : H' p = some (.lst xs)) : Ex T H (upd H' p (.lst ys)) := e.mut h h' (fun _ z => by cases z) (fun _ z => by cases z)
theorem Ex.mutK {p : Addr} {xs ys : List (Key × V)} (e : Ex T H H') (h : H p = none) (h' : H' p = some (.dK xs)) : Ex T H (upd H' p (.dK ys)) := e.mut h h' (fun _ z => by cases z) (fun _ z => by cases z)
end
/-! ### the heap, and the objects that data do not lean on -/
structure Wo where
  S : List Addr
  H : Hp
def hid (S : List Addr) (H : Hp) : Hp := fun b => if b ∈ S then none else H b
theorem hid_some {S : List Addr} {H : Hp} {a : Addr} {o : HO} : hid S H a = some o ↔ a ∉ S ∧ H a = some o := by
  unfold hid
  by_cases h : a ∈ S
  · simp [h]
  · simp [h]
/-- what is avoided stands -/
def Wo.Dom (W : Wo) : Prop := ∀ s ∈ W.S, ∃ o, W.H s = some o ∧ ∀ ps, o ≠ .tbl ps
/-- no datum stands there -/
def NoD (H : Hp) (s : Addr) : Prop := ∀ o, H s = some o → ∃ ps, o = .tbl ps
theorem NoD.of {H : Hp} {s : Addr} (h : H s = none) : NoD H s := fun o e => by rw [h] at e; cases e
theorem NoD.back {T : List (Addr × Str)} {H H' : Hp} {s : Addr} (e : Ex T H H') (n : NoD H' s) : NoD H s := fun o h => Classical.byContradiction fun z => by
  obtain ⟨ps, q⟩ := n o (e.keep s o h fun ps y => z ⟨ps, y⟩)
  exact z ⟨ps, q⟩
/-- a later heap: what is not avoided stays; more may be avoided, if it is new -/
structure Le (T : List (Addr × Str)) (W W' : Wo) : Prop where
  keep : ∀ a o, a ∉ W.S → W.H a = some o → (∀ ps, o ≠ .tbl ps) → W'.H a = some o
  tabs : LamX.Tabs T W.H → LamX.Tabs T W'.H
  av : ∀ s ∈ W'.S, s ∈ W.S ∨ NoD W.H s
/-- the same avoided -/
structure Step (T : List (Addr × Str)) (W W' : Wo) : Prop where
  s : W'.S = W.S
  ex : Ex T W.H W'.H
section
variable {T : List (Addr × Str)} {W W' W1 W2 : Wo}
theorem Le.of (e : Ex T W.H W'.H) (av : ∀ s ∈ W'.S, s ∈ W.S ∨ NoD W.H s) : Le T W W' := ⟨fun a o _ h n => e.keep a o h n, e.tabs, av⟩
theorem Le.refl (W : Wo) : Le T W W := .of (.refl _) fun _ h => .inl h
theorem Le.out (e : Le T W W') {a : Addr} {o : HO} (ha : a ∉ W.S) (h : W.H a = some o) (n : ∀ ps, o ≠ .tbl ps) : a ∉ W'.S := fun z => (e.av a z).elim ha fun y => by
  obtain ⟨ps, q⟩ := y o h
  exact n ps q
theorem Le.trans (a : Le T W W1) (b : Le T W1 W2) : Le T W W2 := by
  refine ⟨fun x o hx h n => b.keep x o (a.out hx h n) (a.keep x o hx h n) n, fun h => b.tabs (a.tabs h), fun s h => ?_⟩
  rcases b.av s h with z | z
  · exact a.av s z
  · by_cases hs : s ∈ W.S
    · exact .inl hs
    · refine .inr fun o ho => Classical.byContradiction fun no => ?_
      obtain ⟨ps, q⟩ := z o (a.keep s o hs ho fun ps y => no ⟨ps, y⟩)
      exact no ⟨ps, q⟩
/-- what is avoided may change -/
theorem Le.chg {S : List Addr} {H : Hp} {p : Addr} {o o' : HO} (hp : p ∈ S) (h : H p = some o') (n : ∀ ps, o' ≠ .tbl ps) (n2 : ∀ φ, o' ≠ .ext φ) : Le T ⟨S, H⟩ ⟨S, upd H p o⟩ := by
  refine ⟨fun a u ha e _ => ?_, fun t q hq => ?_, fun s hs => .inl hs⟩
  · show upd H p o a = some u
    rw [upd_ne (fun z => ha (by rw [z]; exact hp))]
    exact e
  · obtain ⟨ps, a1, a2, a3⟩ := t q hq
    refine ⟨ps, ?_, a2, fun pos cv hc => ?_⟩
    · show upd H p o q.1 = some (.tbl ps)
      rw [upd_ne (fun z => n ps (Option.some.inj (h.symm.trans (by rw [← z]; exact a1))))]
      exact a1
    · obtain ⟨c, e1, e2⟩ := a3 pos cv hc
      refine ⟨c, e1, ?_⟩
      show upd H p o c = _
      rw [upd_ne (fun z => n2 _ (Option.some.inj (h.symm.trans (by rw [← z]; exact e2))))]
      exact e2
theorem Le.chgL {S : List Addr} {H : Hp} {p : Addr} {xs : List V} {o : HO} (hp : p ∈ S) (h : H p = some (.lst xs)) : Le T ⟨S, H⟩ ⟨S, upd H p o⟩ := .chg hp h (fun _ z => by cases z) (fun _ z => by cases z)
theorem Le.chgK {S : List Addr} {H : Hp} {p : Addr} {xs : List (Key × V)} {o : HO} (hp : p ∈ S) (h : H p = some (.dK xs)) : Le T ⟨S, H⟩ ⟨S, upd H p o⟩ := .chg hp h (fun _ z => by cases z) (fun _ z => by cases z)
theorem Step.refl (W : Wo) : Step T W W := ⟨rfl, .refl _⟩
theorem Step.trans (a : Step T W W1) (b : Step T W1 W2) : Step T W W2 := ⟨b.s.trans a.s, a.ex.trans b.ex⟩
theorem Step.le (a : Step T W W') : Le T W W' := .of a.ex fun s h => .inl (a.s ▸ h)
theorem Wo.Dom.step (d : W.Dom) (a : Step T W W') : W'.Dom := fun s hs => by
  obtain ⟨o, h1, h2⟩ := d s (a.s ▸ hs)
  exact ⟨o, a.ex.keep s o h1 h2, h2⟩
theorem Wo.Dom.no (d : W.Dom) {p : Addr} (h : W.H p = none) : p ∉ W.S := fun z => by
  obtain ⟨o, h1, _⟩ := d p z
  rw [h] at h1; cases h1
theorem step_of {H : Hp} (e : Ex T W.H H) : Step T W ⟨W.S, H⟩ := ⟨rfl, e⟩
theorem Le.hid (e : Le T W W') : ∀ a o, hid W.S W.H a = some o → (∀ ps, o ≠ .tbl ps) → hid W'.S W'.H a = some o := fun a o h n => by
  obtain ⟨h1, h2⟩ := hid_some.mp h
  exact hid_some.mpr ⟨e.out h1 h2 n, e.keep a o h1 h2 n⟩
end
/-! ### typed data -/
class Enc (α : Type) where
  enc : α → D
instance : Enc Nat := ⟨fun n => .int n⟩
instance : Enc Int := ⟨fun n => .int n⟩
instance : Enc Bool := ⟨fun n => .bl n⟩
instance : Enc D := ⟨fun d => d⟩
instance {α : Type} [Enc α] : Enc (List α) := ⟨fun l => .lst (l.map Enc.enc)⟩
instance {α β : Type} [Enc α] [Enc β] : Enc (α × β) := ⟨fun p => .tup [Enc.enc p.1, Enc.enc p.2]⟩
def Is {α : Type} [Enc α] (W : Wo) (v : V) (x : α) : Prop := IsD (hid W.S W.H) v (Enc.enc x)
def Iss (W : Wo) (vs : List V) (ds : List D) : Prop := IsDs (hid W.S W.H) vs ds
section
variable {α β : Type} [Enc α] [Enc β] {T : List (Addr × Str)} {W W' : Wo}
theorem Is.mono {v : V} {x : α} (e : Le T W W') (h : Is W v x) : Is W' v x := IsD.sub e.hid h
theorem Iss.mono {vs : List V} {ds : List D} (e : Le T W W') (h : Iss W vs ds) : Iss W' vs ds := IsDs.sub e.hid h
theorem Is.step {v : V} {x : α} (h : Is W v x) (e : Step T W W') : Is W' v x := h.mono e.le
theorem Iss.step {vs : List V} {ds : List D} (h : Iss W vs ds) (e : Step T W W') : Iss W' vs ds := h.mono e.le
theorem is_nat {v : V} {n : Nat} (h : Is W v n) : v = .int (n : Int) := by cases h; rfl
theorem is_int {v : V} {n : Int} (h : Is W v n) : v = .int n := by cases h; rfl
theorem is_bl {v : V} {n : Bool} (h : Is W v n) : v = .bl n := by cases h; rfl
theorem nat_is {i : Int} {n : Nat} (h : i = (n : Int)) : Is W (.int i) n := by rw [h]; exact .int _
theorem bl_is {b c : Bool} (h : b = c) : Is W (.bl b) c := by rw [h]; exact .bl _
theorem is_lst {v : V} {l : List α} (h : Is W v l) : ∃ a vs, v = .ref a ∧ a ∉ W.S ∧ W.H a = some (.lst vs) ∧ Iss W vs (l.map Enc.enc) := by
  have h : IsD (hid W.S W.H) v (.lst (l.map Enc.enc)) := h
  cases h with
  | lst h1 h2 =>
    obtain ⟨h3, h4⟩ := hid_some.mp h1
    exact ⟨_, _, rfl, h3, h4, h2⟩
theorem is_tup {v : V} {ds : List D} (h : Is W v (D.tup ds)) : ∃ a vs, v = .ref a ∧ a ∉ W.S ∧ W.H a = some (.tup vs) ∧ Iss W vs ds := by
  have h : IsD (hid W.S W.H) v (.tup ds) := h
  cases h with
  | tup h1 h2 =>
    obtain ⟨h3, h4⟩ := hid_some.mp h1
    exact ⟨_, _, rfl, h3, h4, h2⟩
theorem iss1 {vs : List V} {d : D} (h : Iss W vs [d]) : ∃ v, vs = [v] ∧ Is W v d := by
  cases h with
  | cons h1 h2 => cases h2; exact ⟨_, rfl, h1⟩
theorem iss2 {vs : List V} {d e : D} (h : Iss W vs [d, e]) : ∃ v u, vs = [v, u] ∧ Is W v d ∧ Is W u e := by
  cases h with
  | cons h1 h2 =>
    obtain ⟨u, rfl, h3⟩ := iss1 h2
    exact ⟨_, _, rfl, h1, h3⟩
theorem iss3 {vs : List V} {d e f : D} (h : Iss W vs [d, e, f]) : ∃ v u w, vs = [v, u, w] ∧ Is W v d ∧ Is W u e ∧ Is W w f := by
  cases h with
  | cons h1 h2 =>
    obtain ⟨u, w, rfl, h3, h4⟩ := iss2 h2
    exact ⟨_, _, _, rfl, h1, h3, h4⟩
theorem iss4 {vs : List V} {d e f g : D} (h : Iss W vs [d, e, f, g]) : ∃ v u w x, vs = [v, u, w, x] ∧ Is W v d ∧ Is W u e ∧ Is W w f ∧ Is W x g := by
  cases h with
  | cons h1 h2 =>
    obtain ⟨u, w, x, rfl, h3, h4, h5⟩ := iss3 h2
    exact ⟨_, _, _, _, rfl, h1, h3, h4, h5⟩
theorem iss5 {vs : List V} {d e f g i : D} (h : Iss W vs [d, e, f, g, i]) : ∃ v u w x y, vs = [v, u, w, x, y] ∧ Is W v d ∧ Is W u e ∧ Is W w f ∧ Is W x g ∧ Is W y i := by
  cases h with
  | cons h1 h2 =>
    obtain ⟨u, w, x, y, rfl, h3, h4, h5, h6⟩ := iss4 h2
    exact ⟨_, _, _, _, _, rfl, h1, h3, h4, h5, h6⟩
theorem is_pair {v : V} {p : α × β} (h : Is W v p) : ∃ a x y, v = .ref a ∧ W.H a = some (.tup [x, y]) ∧ Is W x p.1 ∧ Is W y p.2 := by
  obtain ⟨a, vs, e, _, h1, h2⟩ := is_tup (ds := [Enc.enc p.1, Enc.enc p.2]) h
  obtain ⟨x, y, rfl, h3, h4⟩ := iss2 h2
  exact ⟨a, x, y, e, h1, h3, h4⟩
theorem isds_nats {H : Hp} {vs : List V} {l : List Nat} (h : IsDs H vs (l.map Enc.enc)) : vs = (l.map fun n : Nat => (n : Int)).map V.int := by
  induction l generalizing vs with
  | nil => cases h; rfl
  | cons n l ih =>
    cases h with
    | cons h1 h2 =>
      rw [ih h2]
      cases h1
      rfl
theorem iss_nats {vs : List V} {l : List Nat} (h : Iss W vs (l.map Enc.enc)) : vs = (l.map fun n : Nat => (n : Int)).map V.int := isds_nats h
theorem nats_isds {H : Hp} : ∀ (l : List Nat), IsDs H ((l.map fun n : Nat => (n : Int)).map V.int) (l.map Enc.enc)
  | [] => .nil
  | n :: l => .cons (.int _) (nats_isds l)
theorem iss_bls {vs : List V} {l : List Bool} (h : Iss W vs (l.map Enc.enc)) : vs = l.map V.bl := by
  have h : IsDs (hid W.S W.H) vs (l.map Enc.enc) := h
  induction l generalizing vs with
  | nil => cases h; rfl
  | cons n l ih =>
    cases h with
    | cons h1 h2 =>
      rw [ih h2 h2]
      cases h1
      rfl
/-- a new object of data -/
theorem is_new_lst {p : Addr} {vs : List V} {l : List α} (d : W.Dom) (hp : W.H p = none) (h : Iss W vs (l.map Enc.enc)) : Is ⟨W.S, upd W.H p (.lst vs)⟩ (.ref p) l := by
  refine IsD.lst (vs := vs) (hid_some.mpr ⟨d.no hp, upd_same⟩) ?_
  exact Iss.step (T := []) (W' := ⟨W.S, upd W.H p (.lst vs)⟩) h (step_of (.new hp))
theorem is_new_tup {p : Addr} {vs : List V} {ds : List D} (d : W.Dom) (hp : W.H p = none) (h : Iss W vs ds) : Is ⟨W.S, upd W.H p (.tup vs)⟩ (.ref p) (D.tup ds) := by
  refine IsD.tup (vs := vs) (hid_some.mpr ⟨d.no hp, upd_same⟩) ?_
  exact Iss.step (T := []) (W' := ⟨W.S, upd W.H p (.tup vs)⟩) h (step_of (.new hp))
/-- less is avoided -/
theorem Is.less {S S' : List Addr} {H : Hp} {v : V} {x : α} (h : Is ⟨S, H⟩ v x) (k : ∀ s ∈ S', s ∈ S) : Is ⟨S', H⟩ v x := IsD.sub (fun a o e _ => by
  obtain ⟨h1, h2⟩ := hid_some.mp e
  exact hid_some.mpr ⟨fun z => h1 (k a z), h2⟩) h
theorem Iss.less {S S' : List Addr} {H : Hp} {vs : List V} {ds : List D} (h : Iss ⟨S, H⟩ vs ds) (k : ∀ s ∈ S', s ∈ S) : Iss ⟨S', H⟩ vs ds := IsDs.sub (fun a o e _ => by
  obtain ⟨h1, h2⟩ := hid_some.mp e
  exact hid_some.mpr ⟨fun z => h1 (k a z), h2⟩) h
/-- what is avoided may change -/
theorem Iss.chg {S : List Addr} {H : Hp} {p : Addr} {o : HO} {vs : List V} {ds : List D} (h : Iss ⟨S, H⟩ vs ds) (hp : p ∈ S) : Iss ⟨S, upd H p o⟩ vs ds := IsDs.sub (fun a u e _ => by
  obtain ⟨h1, h2⟩ := hid_some.mp e
  refine hid_some.mpr ⟨h1, ?_⟩
  show upd H p o a = some u
  rw [upd_ne (show a ≠ p from fun z => h1 (by rw [z]; exact hp))]
  exact h2) h
theorem Is.chg {S : List Addr} {H : Hp} {p : Addr} {o : HO} {v : V} {x : α} (h : Is ⟨S, H⟩ v x) (hp : p ∈ S) : Is ⟨S, upd H p o⟩ v x := IsD.sub (fun a u e _ => by
  obtain ⟨h1, h2⟩ := hid_some.mp e
  refine hid_some.mpr ⟨h1, ?_⟩
  show upd H p o a = some u
  rw [upd_ne (show a ≠ p from fun z => h1 (by rw [z]; exact hp))]
  exact h2) h
end
end SD

/-! ## SD2 -/
set_option Elab.async false
set_option linter.all false
set_option maxRecDepth 100000
set_option maxHeartbeats 2000000
namespace SD
open PySem PySem.Spec PyProof.Rows L2
section
variable {α β γ δ ε : Type} [Enc α] [Enc β] [Enc γ] [Enc δ] [Enc ε] {T : List (Addr × Str)} {W W' W1 W2 : Wo}
def Ev (T : List (Addr × Str)) (te : TE) (σ : L2.St) (W : Wo) (x : α) : Prop := ∀ W1, Le T W W1 → W1.Dom → ∀ Q : VK, (∀ v W2, Step T W1 W2 → Is W2 v x → Q v W2.H) → te σ W1.H Q
def EvT (T : List (Addr × Str)) (tt : TT) (σ : L2.St) (W : Wo) (b : Bool) : Prop := ∀ W1, Le T W W1 → W1.Dom → ∀ Q : Bool → Hp → Prop, (∀ W2, Step T W1 W2 → Q b W2.H) → tt σ W1.H Q
def EvA (T : List (Addr × Str)) (ta : TA) (σ : L2.St) (W : Wo) (ds : List D) : Prop := ∀ W1, Le T W W1 → W1.Dom → ∀ Q : List V → Hp → Prop, (∀ vs W2, Step T W1 W2 → Iss W2 vs ds → Q vs W2.H) → ta σ W1.H Q
variable {σ : L2.St} {te ta tb : TE} {t u : TT} {tA : TA}
theorem Ev.mono {x : α} (h : Ev T te σ W x) (e : Le T W W') : Ev T te σ W' x := fun W1 a d Q q => h W1 (e.trans a) d Q q
theorem EvT.mono {b : Bool} (h : EvT T t σ W b) (e : Le T W W') : EvT T t σ W' b := fun W1 a d Q q => h W1 (e.trans a) d Q q
theorem EvA.mono {ds : List D} (h : EvA T tA σ W ds) (e : Le T W W') : EvA T tA σ W' ds := fun W1 a d Q q => h W1 (e.trans a) d Q q
theorem Ev.is {x y : α} (h : Ev T te σ W x) (e : x = y) : Ev T te σ W y := e ▸ h
theorem Ev.to {x : α} {y : β} (h : Ev T te σ W x) (e : Enc.enc x = Enc.enc y) : Ev T te σ W y := fun W1 a d Q q => h W1 a d Q fun v W2 e2 i => q v W2 e2 (show IsD _ v (Enc.enc y) from e ▸ i)
theorem EvT.is {b c : Bool} (h : EvT T t σ W b) (e : b = c) : EvT T t σ W c := e ▸ h
theorem ev_var {i : Nat} {v : V} {x : α} (h : σ[i]? = some (some v)) (d : Is W v x) : Ev T (tVar i) σ W x := fun W1 e _ _ q => ⟨v, h, q v W1 (.refl _) (d.mono e)⟩
theorem ev_cn {i : Int} (n : Nat) (e : i = (n : Int)) : Ev T (tC (.int i)) σ W n := fun W1 _ _ _ q => q _ W1 (.refl _) (by rw [e]; exact .int _)
theorem ev_ci (i : Int) : Ev T (tC (.int i)) σ W i := fun W1 _ _ _ q => q _ W1 (.refl _) (.int _)
theorem ev_bl (b : Bool) : Ev T (tC (.bl b)) σ W b := fun W1 _ _ _ q => q _ W1 (.refl _) (.bl _)
/-- two-place operations on values -/
def RV (T : List (Addr × Str)) (r : R2) (x : α) (y : β) (z : γ) : Prop := ∀ W1 : Wo, W1.Dom → ∀ (v u : V), Is W1 v x → Is W1 u y → ∀ Q : VK, (∀ w W2, Step T W1 W2 → Is W2 w z → Q w W2.H) → r v u W1.H Q
theorem ev_op {r : R2} {x : α} {y : β} {z : γ} (ha : Ev T ta σ W x) (hb : Ev T tb σ W y) (hr : RV T r x y z) : Ev T (tOp r ta tb) σ W z := fun W1 e d Q q =>
  ha W1 e d _ fun v W2 e2 i2 => hb W2 (e.trans e2.le) (d.step e2) _ fun u W3 e3 i3 => hr W3 ((d.step e2).step e3) v u (i2.step e3) i3 Q fun w W4 e4 i4 => q w W4 ((e2.trans e3).trans e4) i4
theorem rv_nn {g : Int → Int → V} {a b : Nat} {z : γ} (h : ∀ W, Is W (g a b) z) : RV T (rI0 g) a b z := fun W1 _ v u i j Q q => by
  rw [is_nat i, is_nat j]
  exact ⟨_, _, rfl, rfl, q _ W1 (.refl _) (h W1)⟩
theorem rv_cc {C : Int → Int → Prop} {g : Int → Int → V} {a b : Nat} {z : γ} (hc : C a b) (h : ∀ W, Is W (g a b) z) : RV T (rI C g) a b z := fun W1 _ v u i j Q q => by
  rw [is_nat i, is_nat j]
  exact ⟨_, _, rfl, rfl, hc, q _ W1 (.refl _) (h W1)⟩
theorem ev_add {a b : Nat} (ha : Ev T ta σ W a) (hb : Ev T tb σ W b) : Ev T (tOp (rI0 fun i j => .int (i + j)) ta tb) σ W (a + b) := ev_op ha hb (rv_nn fun _ => nat_is (by omega))
theorem ev_sub {a b : Nat} (ha : Ev T ta σ W a) (hb : Ev T tb σ W b) (h : b ≤ a) : Ev T (tOp (rI0 fun i j => .int (i - j)) ta tb) σ W (a - b) := ev_op ha hb (rv_nn fun _ => nat_is (by omega))
theorem ev_mul {a b : Nat} (ha : Ev T ta σ W a) (hb : Ev T tb σ W b) (h : a < 2 ^ 64) : Ev T (tOp (rI CMul fun i j => .int (i * j)) ta tb) σ W (a * b) := ev_op ha hb (rv_cc (.inl (by omega)) fun _ => nat_is (by simp))
theorem ev_mod {a b : Nat} (ha : Ev T ta σ W a) (hb : Ev T tb σ W b) (h : 0 < b) : Ev T (tOp (rI (fun _ j => 0 < j) fun i j => .int (i % j)) ta tb) σ W (a % b) := ev_op ha hb (rv_cc (by omega) fun _ => nat_is (by simp))
theorem ev_div {a b : Nat} (ha : Ev T ta σ W a) (hb : Ev T tb σ W b) (h : 0 < b ∧ b < 1073741824) : Ev T (tOp (rI CDiv fun i j => .int (i / j)) ta tb) σ W (a / b) := ev_op ha hb (rv_cc (by unfold CDiv; omega) fun _ => nat_is (by simp))
theorem ev_shl {a b : Nat} (ha : Ev T ta σ W a) (hb : Ev T tb σ W b) (h : b ≤ 1000000 ∧ a < 2 ^ 64) : Ev T (tOp (rI CPow fun i j => .int (i * 2 ^ j.toNat)) ta tb) σ W (a * 2 ^ b) := ev_op ha hb (rv_cc (by unfold CPow; omega) fun _ => nat_is (by simp))
theorem ev_shr {a b : Nat} (ha : Ev T ta σ W a) (hb : Ev T tb σ W b) : Ev T (tOp (rI (fun _ j => 0 ≤ j) fun i j => .int (i / 2 ^ j.toNat)) ta tb) σ W (a / 2 ^ b) := ev_op ha hb (rv_cc (by omega) fun _ => nat_is (by simp))
theorem bitAnd_nat (a b : Nat) : Builtin.bitAnd (a : Int) (b : Int) = ((a &&& b : Nat) : Int) := by
  unfold Builtin.bitAnd
  have h1 : decide ((0 : Int) ≤ (a : Int)) = true := by simp
  have h2 : decide ((0 : Int) ≤ (b : Int)) = true := by simp
  simp [h1, h2]
theorem bitAnd_not (a b : Nat) : Builtin.bitAnd (a : Int) (Builtin.bitNot (b : Int)) = ((a - (a &&& b) : Nat) : Int) := by
  have hle : a &&& b ≤ a := Nat.and_le_left
  have e : Builtin.bitNot (Builtin.bitNot (b : Int)) = (b : Int) := by unfold Builtin.bitNot; omega
  have hneg : ¬ (0 : Int) ≤ Builtin.bitNot (b : Int) := by unfold Builtin.bitNot; omega
  unfold Builtin.bitAnd
  have h1 : decide ((0 : Int) ≤ (a : Int)) = true := by simp
  simp only [e]
  simp [h1, hneg]
  omega
theorem ev_and {a b : Nat} (ha : Ev T ta σ W a) (hb : Ev T tb σ W b) : Ev T (tOp (rI0 fun i j => .int (Builtin.bitAnd i j)) ta tb) σ W (a &&& b) := ev_op ha hb (rv_nn fun _ => nat_is (bitAnd_nat _ _))
/-- a & ~b -/
theorem ev_andn {a b : Nat} (ha : Ev T ta σ W a) (hb : Ev T tb σ W b) : Ev T (tOp (rI0 fun i j => .int (Builtin.bitAnd i j)) ta (tUn (rU fun i => .int (Builtin.bitNot i)) tb)) σ W (a - (a &&& b)) := fun W1 e d Q q =>
  ha W1 e d _ fun v W2 e2 i2 => hb W2 (e.trans e2.le) (d.step e2) _ fun u W3 e3 i3 => by
    rw [is_nat i2, is_nat i3]
    exact ⟨_, rfl, _, _, rfl, rfl, q _ W3 (e2.trans e3) (nat_is (bitAnd_not _ _))⟩
theorem ev_lt {a b : Nat} (ha : Ev T ta σ W a) (hb : Ev T tb σ W b) : Ev T (tOp (rI0 fun i j => .bl (decide (i < j))) ta tb) σ W (decide (a < b)) := ev_op ha hb (rv_nn fun _ => bl_is (by simp))
theorem ev_le {a b : Nat} (ha : Ev T ta σ W a) (hb : Ev T tb σ W b) : Ev T (tOp (rI0 fun i j => .bl (decide (i ≤ j))) ta tb) σ W (decide (a ≤ b)) := ev_op ha hb (rv_nn fun _ => bl_is (by simp))
theorem ev_gt {a b : Nat} (ha : Ev T ta σ W a) (hb : Ev T tb σ W b) : Ev T (tOp (rI0 fun i j => .bl (decide (j < i))) ta tb) σ W (decide (b < a)) := ev_op ha hb (rv_nn fun _ => bl_is (by simp))
theorem ev_ge {a b : Nat} (ha : Ev T ta σ W a) (hb : Ev T tb σ W b) : Ev T (tOp (rI0 fun i j => .bl (decide (j ≤ i))) ta tb) σ W (decide (b ≤ a)) := ev_op ha hb (rv_nn fun _ => bl_is (by simp))
theorem ev_eq {a b : Nat} (ha : Ev T ta σ W a) (hb : Ev T tb σ W b) : Ev T (tOp rEq ta tb) σ W (decide (a = b)) := ev_op ha hb fun W1 _ v u i j Q q => by
  rw [is_nat i, is_nat j]
  exact ⟨rfl, q _ W1 (.refl _) (bl_is (by simp; omega))⟩
theorem ev_ne {a b : Nat} (ha : Ev T ta σ W a) (hb : Ev T tb σ W b) : Ev T (tOp rNe ta tb) σ W (decide (a ≠ b)) := ev_op ha hb fun W1 _ v u i j Q q => by
  rw [is_nat i, is_nat j]
  exact ⟨rfl, q _ W1 (.refl _) (bl_is (by simp; omega))⟩
theorem et_test {b : Bool} (h : Ev T te σ W b) : EvT T (tTest te) σ W b := fun W1 e d _ q => h W1 e d _ fun v W2 e2 i => ⟨b, is_bl i, q W2 e2⟩
theorem et_B {b : Bool} (h : Ev T te σ W b) : EvT T (tB te) σ W b := fun W1 e d _ q => h W1 e d _ fun v W2 e2 i => ⟨b, is_bl i, q W2 e2⟩
theorem et_yes : EvT T tYes σ W true := fun W1 _ _ _ q => q W1 (.refl _)
theorem et_not {b : Bool} (h : EvT T t σ W b) : EvT T (tNot t) σ W (!b) := fun W1 e d _ q => h W1 e d _ fun W2 e2 => q W2 e2
theorem et_and {a b : Bool} (h1 : EvT T t σ W a) (h2 : a = true → EvT T u σ W b) : EvT T (tAnd t u) σ W (a && b) := fun W1 e d Q q => h1 W1 e d _ fun W2 e2 => by
  cases a with
  | true => exact h2 rfl W2 (e.trans e2.le) (d.step e2) Q fun W3 e3 => q W3 (e2.trans e3)
  | false => exact q W2 e2
theorem et_or {a b : Bool} (h1 : EvT T t σ W a) (h2 : a = false → EvT T u σ W b) : EvT T (tOr t u) σ W (a || b) := fun W1 e d Q q => h1 W1 e d _ fun W2 e2 => by
  cases a with
  | true => exact q W2 e2
  | false => exact h2 rfl W2 (e.trans e2.le) (d.step e2) Q fun W3 e3 => q W3 (e2.trans e3)
theorem ev_andV {a b : Bool} (h1 : Ev T ta σ W a) (h2 : a = true → Ev T tb σ W b) : Ev T (tAndV ta tb) σ W (a && b) := fun W1 e d Q q => h1 W1 e d _ fun v W2 e2 i => ⟨a, is_bl i, by
  cases a with
  | true => exact h2 rfl W2 (e.trans e2.le) (d.step e2) Q fun u W3 e3 j => q u W3 (e2.trans e3) j
  | false => exact q _ W2 e2 (.bl _)⟩
theorem ev_notV {a : Bool} (h1 : Ev T ta σ W a) : Ev T (tNotV ta) σ W (!a) := fun W1 e d _ q => h1 W1 e d _ fun v W2 e2 i => ⟨a, is_bl i, q _ W2 e2 (.bl _)⟩
theorem ev_if {b : Bool} {x y : α} (h : EvT T t σ W b) (h1 : b = true → Ev T ta σ W x) (h2 : b = false → Ev T tb σ W y) : Ev T (tIf t ta tb) σ W (if b = true then x else y) := fun W1 e d Q q => h W1 e d _ fun W2 e2 => by
  cases b with
  | true => exact h1 rfl W2 (e.trans e2.le) (d.step e2) Q fun u W3 e3 j => q u W3 (e2.trans e3) (by simpa using j)
  | false => exact h2 rfl W2 (e.trans e2.le) (d.step e2) Q fun u W3 e3 j => q u W3 (e2.trans e3) (by simpa using j)
theorem ea_nil : EvA T tNil σ W [] := fun W1 _ _ _ q => q [] W1 (.refl _) .nil
theorem ea_cons {x : α} {ds : List D} (h : Ev T te σ W x) (hr : EvA T tA σ W ds) : EvA T (tCons te tA) σ W (Enc.enc x :: ds) := fun W1 e d _ q =>
  h W1 e d _ fun v W2 e2 i => hr W2 (e.trans e2.le) (d.step e2) _ fun vs W3 e3 is => q _ W3 (e2.trans e3) (.cons (i.step e3) is)
theorem Iss.len {vs : List V} {ds : List D} (h : Iss W vs ds) : vs.length = ds.length := IsDs.len h
theorem ev_lst {l : List α} (h : EvA T tA σ W (l.map Enc.enc)) (hl : l.length ≤ 1000) : Ev T (tLst tA) σ W l := fun W1 e d _ q => h W1 e d _ fun vs W2 e2 is => ⟨by rw [is.len, List.length_map]; exact Nat.le_trans hl (by decide), fun p hp => q _ ⟨W2.S, _⟩ (e2.trans (step_of (.new hp))) (is_new_lst (d.step e2) hp is)⟩
theorem ev_tup2 {x : α} {y : β} (h : EvA T tA σ W [Enc.enc x, Enc.enc y]) : Ev T (tTup tA) σ W (x, y) := fun W1 e d _ q => h W1 e d _ fun vs W2 e2 is => ⟨by rw [is.len]; show 2 ≤ sizeLine; decide, fun p hp => q _ ⟨W2.S, _⟩ (e2.trans (step_of (.new hp))) (is_new_tup (d.step e2) hp is)⟩
theorem ev_tupD {ds : List D} (h : EvA T tA σ W ds) (hl : ds.length ≤ 1000) : Ev T (tTup tA) σ W (D.tup ds) := fun W1 e d _ q => h W1 e d _ fun vs W2 e2 is => ⟨by rw [is.len]; exact Nat.le_trans hl (by decide), fun p hp => q _ ⟨W2.S, _⟩ (e2.trans (step_of (.new hp))) (is_new_tup (d.step e2) hp is)⟩
variable {K : PySem.W.Frag}
theorem ev_ixL {l : List α} {i : Nat} {x : α} (ha : Ev T ta σ W l) (hb : Ev T tb σ W i) (hx : l[i]? = some x) : Ev T (tOp (rIxL K) ta tb) σ W x := ev_op ha hb fun W1 _ v u iv iu Q q => by
  obtain ⟨a, vs, rfl, _, h1, h2⟩ := is_lst iv
  rw [is_nat iu]
  obtain ⟨w, h3, h4⟩ := IsDs.get (i := i) (d := Enc.enc x) h2 (by rw [List.getElem?_map, hx]; rfl)
  exact ⟨a, vs, _, w, rfl, rfl, SqL.of h1, atI_nat h3, q w W1 (.refl _) h4⟩
theorem ev_ixT {ds : List D} {i : Nat} {x : α} (ha : Ev T ta σ W (D.tup ds)) (hb : Ev T tb σ W i) (hx : ds[i]? = some (Enc.enc x)) : Ev T (tOp (rIxT K) ta tb) σ W x := ev_op ha hb fun W1 _ v u iv iu Q q => by
  obtain ⟨a, vs, rfl, _, h1, h2⟩ := is_tup iv
  rw [is_nat iu]
  obtain ⟨w, h3, h4⟩ := IsDs.get h2 hx
  exact ⟨a, vs, _, w, rfl, rfl, SqT.of h1, atI_nat h3, q w W1 (.refl _) h4⟩
/-- an item of a written tuple of numbers at c -/
theorem ev_ixW {c : Addr} {ns : List Nat} {i n : Nat} (hw : ∀ H, SqT K H c (ns.map fun n : Nat => V.int (n : Int))) (hb : Ev T tb σ W i) (hx : ns[i]? = some n) : Ev T (tOp (rIxT K) (tC (.ref c)) tb) σ W n := fun W1 e d Q q =>
  hb W1 e d _ fun u W2 e2 j => by
    rw [is_nat j]
    exact ⟨c, _, _, .int (n : Int), rfl, rfl, hw W2.H, atI_nat (by rw [List.getElem?_map, hx]; rfl), q _ W2 e2 (.int _)⟩
theorem Iss.app {vs ws : List V} {ds es : List D} (a : Iss W vs ds) (b : Iss W ws es) : Iss W (vs ++ ws) (ds ++ es) := IsDs.app a b
theorem ev_cat {l m : List α} (ha : Ev T ta σ W l) (hb : Ev T tb σ W m) (hz : l.length + m.length ≤ 10000000) : Ev T (tOp rCat ta tb) σ W (l ++ m) := ev_op ha hb fun W1 d v u iv iu Q q => by
  obtain ⟨a, vs, rfl, _, h1, h2⟩ := is_lst iv
  obtain ⟨b, ws, rfl, _, h3, h4⟩ := is_lst iu
  have e1 := h2.len
  have e2 := h4.len
  rw [List.length_map] at e1 e2
  refine ⟨a, b, vs, ws, rfl, rfl, h1, h3, Nat.le_trans (by omega) (show 10000000 ≤ sizeLine by decide), fun p hp => q _ ⟨W1.S, _⟩ (step_of (.new hp)) (is_new_lst d hp ?_)⟩
  rw [List.map_append]
  exact h2.app h4
def rLenQ (K : PySem.W.Frag) : List V → Hp → VK → Prop := fun xs H Q => ∃ p ys, xs = [.ref p] ∧ (SqL K H p ys ∨ SqT K H p ys) ∧ Q (.int ys.length) H
theorem ev_len {l : List α} (ha : Ev T ta σ W l) : Ev T (tCB (rLenQ K) (tCons ta tNil)) σ W l.length := fun W1 e d Q q =>
  ha W1 e d _ fun v W2 e2 i => by
    obtain ⟨a, vs, rfl, _, h1, h2⟩ := is_lst i
    have e1 := h2.len
    rw [List.length_map] at e1
    exact ⟨a, vs, rfl, .inl (SqL.of h1), q _ W2 e2 (nat_is (by rw [e1]))⟩
theorem sum_cast : ∀ l : List Nat, (l.map fun n : Nat => (n : Int)).sum = ((l.sum : Nat) : Int)
  | [] => rfl
  | n :: l => by rw [List.map_cons, List.sum_cons, sum_cast l, List.sum_cons]; omega
theorem ev_sum {l : List Nat} (ha : Ev T ta σ W l) : Ev T (tCB (rSum K) (tCons ta tNil)) σ W l.sum := fun W1 e d Q q =>
  ha W1 e d _ fun v W2 e2 i => by
    obtain ⟨a, vs, rfl, _, h1, h2⟩ := is_lst i
    rw [iss_nats h2] at h1
    exact ⟨a, _, rfl, SqL.of h1, q _ W2 e2 (nat_is (sum_cast l))⟩
theorem ev_any {l : List Bool} (ha : Ev T ta σ W l) : Ev T (tCB (rAny K) (tCons ta tNil)) σ W (l.any id) := fun W1 e d Q q =>
  ha W1 e d _ fun v W2 e2 i => by
    obtain ⟨a, vs, rfl, _, h1, h2⟩ := is_lst i
    rw [iss_bls h2] at h1
    exact ⟨a, _, rfl, SqL.of h1, q _ W2 e2 (.bl _)⟩
theorem ev_all {l : List Bool} (ha : Ev T ta σ W l) : Ev T (tCB (rAll K) (tCons ta tNil)) σ W (l.all id) := fun W1 e d Q q =>
  ha W1 e d _ fun v W2 e2 i => by
    obtain ⟨a, vs, rfl, _, h1, h2⟩ := is_lst i
    rw [iss_bls h2] at h1
    exact ⟨a, _, rfl, SqL.of h1, q _ W2 e2 (.bl _)⟩
/-! ### promises -/
def sp1 (T : List (Addr × Str)) (Pre : α → Prop) (f : α → β) : Sp := fun vs H Q _ => ∃ S a, Wo.Dom ⟨S, H⟩ ∧ Iss ⟨S, H⟩ vs [Enc.enc a] ∧ Pre a ∧ ∀ u W2, Step T ⟨S, H⟩ W2 → Is W2 u (f a) → Q u W2.H
def sp2 (T : List (Addr × Str)) (Pre : α → β → Prop) (f : α → β → γ) : Sp := fun vs H Q _ => ∃ S a b, Wo.Dom ⟨S, H⟩ ∧ Iss ⟨S, H⟩ vs [Enc.enc a, Enc.enc b] ∧ Pre a b ∧ ∀ u W2, Step T ⟨S, H⟩ W2 → Is W2 u (f a b) → Q u W2.H
def sp3 (T : List (Addr × Str)) (Pre : α → β → γ → Prop) (f : α → β → γ → δ) : Sp := fun vs H Q _ => ∃ S a b c, Wo.Dom ⟨S, H⟩ ∧ Iss ⟨S, H⟩ vs [Enc.enc a, Enc.enc b, Enc.enc c] ∧ Pre a b c ∧ ∀ u W2, Step T ⟨S, H⟩ W2 → Is W2 u (f a b c) → Q u W2.H
def sp4 (T : List (Addr × Str)) (Pre : α → β → γ → δ → Prop) (f : α → β → γ → δ → ε) : Sp := fun vs H Q _ => ∃ S a b c d, Wo.Dom ⟨S, H⟩ ∧ Iss ⟨S, H⟩ vs [Enc.enc a, Enc.enc b, Enc.enc c, Enc.enc d] ∧ Pre a b c d ∧ ∀ u W2, Step T ⟨S, H⟩ W2 → Is W2 u (f a b c d) → Q u W2.H
variable {E : XK}
theorem ev_call1 {Pre : α → Prop} {f : α → β} {a : α} (ha : EvA T tA σ W [Enc.enc a]) (hp : Pre a) : Ev T (tCall (sp1 T Pre f) [] E tA) σ W (f a) := fun W1 e d Q q =>
  ha W1 e d _ fun vs W2 e2 is => ⟨W2.S, a, d.step e2, by rw [List.append_nil]; exact is, hp, fun u W3 e3 i => q u W3 (e2.trans e3) i⟩
theorem ev_call2 {Pre : α → β → Prop} {f : α → β → γ} {a : α} {b : β} (ha : EvA T tA σ W [Enc.enc a, Enc.enc b]) (hp : Pre a b) : Ev T (tCall (sp2 T Pre f) [] E tA) σ W (f a b) := fun W1 e d Q q =>
  ha W1 e d _ fun vs W2 e2 is => ⟨W2.S, a, b, d.step e2, by rw [List.append_nil]; exact is, hp, fun u W3 e3 i => q u W3 (e2.trans e3) i⟩
theorem ev_call3 {Pre : α → β → γ → Prop} {f : α → β → γ → δ} {a : α} {b : β} {c : γ} (ha : EvA T tA σ W [Enc.enc a, Enc.enc b, Enc.enc c]) (hp : Pre a b c) : Ev T (tCall (sp3 T Pre f) [] E tA) σ W (f a b c) := fun W1 e d Q q =>
  ha W1 e d _ fun vs W2 e2 is => ⟨W2.S, a, b, c, d.step e2, by rw [List.append_nil]; exact is, hp, fun u W3 e3 i => q u W3 (e2.trans e3) i⟩
theorem ev_call4 {Pre : α → β → γ → δ → Prop} {f : α → β → γ → δ → ε} {a : α} {b : β} {c : γ} {d : δ} (ha : EvA T tA σ W [Enc.enc a, Enc.enc b, Enc.enc c, Enc.enc d]) (hp : Pre a b c d) : Ev T (tCall (sp4 T Pre f) [] E tA) σ W (f a b c d) := fun W1 e dm Q q =>
  ha W1 e dm _ fun vs W2 e2 is => ⟨W2.S, a, b, c, d, dm.step e2, by rw [List.append_nil]; exact is, hp, fun u W3 e3 i => q u W3 (e2.trans e3) i⟩
theorem sp1_len {Pre : α → Prop} {f : α → β} (vs : List V) (H : Hp) (Q : VK) (E : XK) (h : sp1 T Pre f vs H Q E) : vs.length = 1 := by
  obtain ⟨S, a, _, is, _⟩ := h
  exact is.len
theorem sp2_len {Pre : α → β → Prop} {f : α → β → γ} (vs : List V) (H : Hp) (Q : VK) (E : XK) (h : sp2 T Pre f vs H Q E) : vs.length = 2 := by
  obtain ⟨S, a, b, _, is, _⟩ := h
  exact is.len
theorem sp3_len {Pre : α → β → γ → Prop} {f : α → β → γ → δ} (vs : List V) (H : Hp) (Q : VK) (E : XK) (h : sp3 T Pre f vs H Q E) : vs.length = 3 := by
  obtain ⟨S, a, b, c, _, is, _⟩ := h
  exact is.len
theorem sp4_len {Pre : α → β → γ → δ → Prop} {f : α → β → γ → δ → ε} (vs : List V) (H : Hp) (Q : VK) (E : XK) (h : sp4 T Pre f vs H Q E) : vs.length = 4 := by
  obtain ⟨S, a, b, c, d, _, is, _⟩ := h
  exact is.len
abbrev EndsOf (Q : VK) : Ends := { nx := fun _ H' => Q .non H', rt := Q }
theorem sp1_go {Pre : α → Prop} {f : α → β} {N : List Str} {t : TS} (k : ∀ (W : Wo) (v : V) (a : α), W.Dom → Is W v a → Pre a → ∀ Q : VK, (∀ u W2, Step T W W2 → Is W2 u (f a) → Q u W2.H) → t (EndsOf Q) (start N [v]) W.H)
    {vs : List V} {H : Hp} {Q : VK} {E : XK} (h : sp1 T Pre f vs H Q E) : t (EndsOf Q) (start N vs) H := by
  obtain ⟨S, a, d, is, hp, q⟩ := h
  obtain ⟨v, rfl, i1⟩ := iss1 is
  exact k ⟨S, H⟩ v a d i1 hp Q q
theorem sp2_go {Pre : α → β → Prop} {f : α → β → γ} {N : List Str} {t : TS} (k : ∀ (W : Wo) (v u : V) (a : α) (b : β), W.Dom → Is W v a → Is W u b → Pre a b → ∀ Q : VK, (∀ u W2, Step T W W2 → Is W2 u (f a b) → Q u W2.H) → t (EndsOf Q) (start N [v, u]) W.H)
    {vs : List V} {H : Hp} {Q : VK} {E : XK} (h : sp2 T Pre f vs H Q E) : t (EndsOf Q) (start N vs) H := by
  obtain ⟨S, a, b, d, is, hp, q⟩ := h
  obtain ⟨v, u, rfl, i1, i2⟩ := iss2 is
  exact k ⟨S, H⟩ v u a b d i1 i2 hp Q q
theorem sp3_go {Pre : α → β → γ → Prop} {f : α → β → γ → δ} {N : List Str} {t : TS} (k : ∀ (W : Wo) (v u w : V) (a : α) (b : β) (c : γ), W.Dom → Is W v a → Is W u b → Is W w c → Pre a b c → ∀ Q : VK, (∀ u W2, Step T W W2 → Is W2 u (f a b c) → Q u W2.H) → t (EndsOf Q) (start N [v, u, w]) W.H)
    {vs : List V} {H : Hp} {Q : VK} {E : XK} (h : sp3 T Pre f vs H Q E) : t (EndsOf Q) (start N vs) H := by
  obtain ⟨S, a, b, c, d, is, hp, q⟩ := h
  obtain ⟨v, u, w, rfl, i1, i2, i3⟩ := iss3 is
  exact k ⟨S, H⟩ v u w a b c d i1 i2 i3 hp Q q
theorem sp4_go {Pre : α → β → γ → δ → Prop} {f : α → β → γ → δ → ε} {N : List Str} {t : TS} (k : ∀ (W : Wo) (v u w x : V) (a : α) (b : β) (c : γ) (e : δ), W.Dom → Is W v a → Is W u b → Is W w c → Is W x e → Pre a b c e → ∀ Q : VK, (∀ u W2, Step T W W2 → Is W2 u (f a b c e) → Q u W2.H) → t (EndsOf Q) (start N [v, u, w, x]) W.H)
    {vs : List V} {H : Hp} {Q : VK} {E : XK} (h : sp4 T Pre f vs H Q E) : t (EndsOf Q) (start N vs) H := by
  obtain ⟨S, a, b, c, e, d, is, hp, q⟩ := h
  obtain ⟨v, u, w, x, rfl, i1, i2, i3, i4⟩ := iss4 is
  exact k ⟨S, H⟩ v u w x a b c e d i1 i2 i3 i4 hp Q q
/-! ### statements -/
variable {Dn : Ends} {tu tw tz : TS}
theorem r_ret {x : α} (d : W.Dom) (h : Ev T te σ W x) (k : ∀ u W2, Step T W W2 → Is W2 u x → Dn.rt u W2.H) : tRet te Dn σ W.H := h W (.refl _) d _ k
theorem r_asg {i : Nat} {x : α} (d : W.Dom) (h : Ev T te σ W x) (k : ∀ u W1, Step T W W1 → Is W1 u x → tz Dn (σ.set i (some u)) W1.H) : tSeq (tAsg te (gName i)) tz Dn σ W.H := h W (.refl _) d _ k
theorem r_asg' {i : Nat} {x : α} (d : W.Dom) (h : Ev T te σ W x) (k : ∀ u W1, Step T W W1 → Is W1 u x → Dn.nx (σ.set i (some u)) W1.H) : tAsg te (gName i) Dn σ W.H := h W (.refl _) d _ k
theorem r_if {b : Bool} (d : W.Dom) (h : EvT T t σ W b) (h1 : b = true → ∀ W1, Step T W W1 → tu Dn σ W1.H) (h2 : b = false → ∀ W1, Step T W W1 → tw Dn σ W1.H) : tIfS t tu tw Dn σ W.H := h W (.refl _) d _ fun W1 e => by
  cases b with
  | true => exact h1 rfl W1 e
  | false => exact h2 rfl W1 e
/-- if c: return .. -/
theorem r_when {b : Bool} (d : W.Dom) (h : EvT T t σ W b) (h1 : b = true → ∀ W1, Step T W W1 → tu { Dn with nx := tz Dn } σ W1.H) (h2 : b = false → ∀ W1, Step T W W1 → tz Dn σ W1.H) : tSeq (tIfS t tu tNext) tz Dn σ W.H := h W (.refl _) d _ fun W1 e => by
  cases b with
  | true => exact h1 rfl W1 e
  | false => exact h2 rfl W1 e
theorem r_par {i j : Nat} {x : α} {y : β} (d : W.Dom) (h : EvA T tA σ W [Enc.enc x, Enc.enc y]) (k : ∀ u v W1, Step T W W1 → Is W1 u x → Is W1 v y → tz Dn ((σ.set i (some u)).set j (some v)) W1.H) : tSeq (tPar i j tA) tz Dn σ W.H := h W (.refl _) d _ fun vs W1 e is => by
  obtain ⟨u, v, rfl, h1, h2⟩ := iss2 is
  exact ⟨u, v, rfl, k u v W1 e h1 h2⟩
end
end SD

/-! ## SD3 -/
set_option Elab.async false
set_option linter.all false
set_option maxRecDepth 100000
set_option maxHeartbeats 2000000
namespace SD
open PySem PySem.Spec PyProof.Rows L2
section
variable {α β γ δ ε : Type} [Enc α] [Enc β] [Enc γ] [Enc δ] [Enc ε] {T : List (Addr × Str)} {W W' W1 W2 : Wo} {σ σ2 : L2.St} {te ta tb tl : TE} {t u : TT} {tA : TA} {K : PySem.W.Frag}
/-- a list that grows, at Dl: new since W1; what stands in it does not lean on it -/
structure Cw (T : List (Addr × Str)) (W1 : Wo) (Dl : Addr) (l : List β) (H' : Hp) : Prop where
  new : W1.H Dl = none
  dom : W1.Dom
  ex : Ex T W1.H H'
  is : ∃ acc, H' Dl = some (.lst acc) ∧ Iss ⟨Dl :: W1.S, H'⟩ acc (l.map Enc.enc)
abbrev wov (W1 : Wo) (Dl : Addr) (H' : Hp) : Wo := ⟨Dl :: W1.S, H'⟩
section
variable {Dl : Addr} {l : List β} {H' : Hp}
theorem Cw.start (hD : W1.H Dl = none) (d : W1.Dom) : Cw T W1 Dl ([] : List β) (upd W1.H Dl (.lst [])) := ⟨hD, d, .new hD, [], upd_same, .nil⟩
theorem Cw.le (c : Cw T W1 Dl l H') : Le T W1 (wov W1 Dl H') := .of c.ex fun s hs => by
  rcases List.mem_cons.mp hs with rfl | h
  · exact .inr (.of c.new)
  · exact .inl h
theorem Cw.dm (c : Cw T W1 Dl l H') : (wov W1 Dl H').Dom := fun s hs => by
  rcases List.mem_cons.mp hs with rfl | h
  · obtain ⟨acc, e, _⟩ := c.is
    exact ⟨_, e, fun _ z => by cases z⟩
  · obtain ⟨o, h1, h2⟩ := c.dom s h
    exact ⟨o, c.ex.keep s o h1 h2, h2⟩
theorem Cw.end (c : Cw T W1 Dl l H') : Step T W1 ⟨W1.S, H'⟩ ∧ Is ⟨W1.S, H'⟩ (.ref Dl) l := by
  refine ⟨step_of c.ex, ?_⟩
  obtain ⟨acc, e, is⟩ := c.is
  refine IsD.lst (vs := acc) (hid_some.mpr ⟨c.dom.no c.new, e⟩) ?_
  exact Iss.less (S := Dl :: W1.S) (S' := W1.S) is fun s h => List.mem_cons_of_mem _ h
theorem Cw.step (c : Cw T W1 Dl l H') {W3 : Wo} (s : Step T (wov W1 Dl H') W3) : Cw T W1 Dl l W3.H := by
  obtain ⟨acc, e, is⟩ := c.is
  refine ⟨c.new, c.dom, c.ex.trans s.ex, acc, s.ex.lst e, ?_⟩
  have := is.step s
  have es : W3.S = Dl :: W1.S := s.s
  obtain ⟨S3, H3⟩ := W3
  cases es
  exact this
theorem Cw.push (c : Cw T W1 Dl l H') {y : β} {v : V} (i : Is (wov W1 Dl H') v y) : ∃ acc, H' Dl = some (.lst acc) ∧ acc.length = l.length ∧ Cw T W1 Dl (l ++ [y]) (upd H' Dl (.lst (acc ++ [v]))) := by
  obtain ⟨acc, e, is⟩ := c.is
  have el := is.len
  rw [List.length_map] at el
  refine ⟨acc, e, el, c.new, c.dom, c.ex.mutL c.new e, _, upd_same, ?_⟩
  rw [List.map_append]
  exact Iss.chg (S := Dl :: W1.S) (H := H') (is.app (show Iss (wov W1 Dl H') [v] [Enc.enc y] from .cons i .nil)) (List.mem_cons_self ..)
/-- many at once -/
theorem Cw.pushs (c : Cw T W1 Dl l H') {ys : List β} {vs : List V} (i : Iss (wov W1 Dl H') vs (ys.map Enc.enc)) : ∃ acc, H' Dl = some (.lst acc) ∧ acc.length = l.length ∧ Cw T W1 Dl (l ++ ys) (upd H' Dl (.lst (acc ++ vs))) := by
  obtain ⟨acc, e, is⟩ := c.is
  have el := is.len
  rw [List.length_map] at el
  refine ⟨acc, e, el, c.new, c.dom, c.ex.mutL c.new e, _, upd_same, ?_⟩
  rw [List.map_append]
  exact Iss.chg (S := Dl :: W1.S) (H := H') (is.app i) (List.mem_cons_self ..)
theorem big7 {n : Nat} (h : n ≤ 10000000) : n < sizeLine := Nat.lt_of_le_of_lt h (by decide)
theorem big7' {n : Nat} (h : n ≤ 10000000) : n ≤ sizeLine := Nat.le_trans h (by decide)
theorem Cw.turn (c : Cw T W1 Dl l H') {b : Bool} {y : β} (hz : l.length < 10000000) (ht : EvT T t σ2 (wov W1 Dl H') b) (he : b = true → Ev T te σ2 (wov W1 Dl H') y) {P : Hp → Prop} (k : ∀ H4, Cw T W1 Dl (if b = true then l ++ [y] else l) H4 → P H4) :
    t σ2 H' fun b H3 => if b = true then te σ2 H3 fun y H4 => ∃ acc, H4 Dl = some (.lst acc) ∧ acc.length < sizeLine ∧ P (upd H4 Dl (.lst (acc ++ [y]))) else P H3 := by
  refine ht (wov W1 Dl H') (.refl _) c.dm _ fun W3 s3 => ?_
  cases b with
  | true =>
    refine he rfl W3 s3.le (c.dm.step s3) _ fun v W4 s4 i => ?_
    have c4 := c.step (s3.trans s4)
    have es : W4.S = Dl :: W1.S := (s3.trans s4).s
    obtain ⟨S4, H4⟩ := W4
    cases es
    obtain ⟨acc, e, el, cc⟩ := c4.push i
    exact ⟨acc, e, big7 (by omega), k _ (by simpa using cc)⟩
  | false => exact k _ (by simpa using c.step s3)
end
theorem take_succ_of {α : Type} {l : List α} {i : Nat} {x : α} (h : l[i]? = some x) : l.take (i + 1) = l.take i ++ [x] := by
  rw [List.take_add_one, h]; rfl
theorem fm_len {α β : Type} (p : α → Bool) (f : α → β) (l : List α) (i : Nat) (h : i < l.length) : (((l.take i).filter p).map f).length < l.length := by
  rw [List.length_map]
  exact Nat.lt_of_le_of_lt (List.length_filter_le _ _) (by rw [List.length_take]; omega)
theorem fm_next {α β : Type} {p : α → Bool} {f : α → β} {l : List α} {i : Nat} {x : α} (h : l[i]? = some x) : (((l.take (i + 1)).filter p).map f) = if p x = true then ((l.take i).filter p).map f ++ [f x] else ((l.take i).filter p).map f := by
  rw [take_succ_of h, List.filter_append, List.map_append]
  by_cases hp : p x = true
  · simp [hp]
  · simp [hp]
/-- what stands at a place of a list of data -/
theorem iss_at {xs : List α} {vs : List V} {i : Nat} {v : V} (is : Iss W vs (xs.map Enc.enc)) (h : vs[i]? = some v) : ∃ x, xs[i]? = some x ∧ Is W v x := by
  obtain ⟨d, h1, h2⟩ := IsDs.get' is h
  rw [List.getElem?_map] at h1
  cases e : xs[i]? with
  | none => rw [e] at h1; cases h1
  | some x =>
    rw [e] at h1
    cases h1
    exact ⟨x, rfl, h2⟩
theorem ev_lc {xs : List α} {j : Nat} {vs : List Nat} (p : α → Bool) (f : α → β) (h : Ev T tl σ W xs) (hz : xs.length ≤ 10000000) (hw : ∀ x, wipe ((wipe σ vs).set j (some x)) vs = wipe σ vs)
    (ht : ∀ x, x ∈ xs → ∀ v W1, Le T W W1 → Is W1 v x → EvT T t ((wipe σ vs).set j (some v)) W1 (p x))
    (he : ∀ x, x ∈ xs → p x = true → ∀ v W1, Le T W W1 → Is W1 v x → Ev T te ((wipe σ vs).set j (some v)) W1 (f x)) :
    Ev T (tLc (iList K tl) (gName j) t te vs) σ W ((xs.filter p).map f) := fun W0 e0 d0 Q q => h W0 e0 d0 _ fun v W1 s1 i1 => by
  obtain ⟨a, ws, rfl, ha, hl, is⟩ := is_lst i1
  have el := is.len
  rw [List.length_map] at el
  refine ⟨a, rfl, ⟨ws, SqL.of hl⟩, fun Dl hD => lc_list (xs := ws) (fun i H' => Cw T W1 Dl (((xs.take i).filter p).map f) H') (.start hD (d0.step s1)) (fun i H' _ c => SqL.of (c.ex.lst hl)) (fun i v H' hi c => ⟨hw v, ?_⟩) fun H' c => ?_⟩
  · obtain ⟨x, hx, ix⟩ := iss_at is hi
    have hlt := (List.getElem?_eq_some_iff.mp hx).1
    have hm := List.mem_of_getElem? hx
    have le : Le T W (wov W1 Dl H') := (e0.trans s1.le).trans c.le
    refine c.turn (b := p x) (y := f x) (Nat.lt_of_lt_of_le (fm_len p f xs i hlt) hz) (ht x hm v _ le (ix.mono c.le)) (fun hp => he x hm hp v _ le (ix.mono c.le)) fun H4 c4 => ?_
    rw [fm_next hx]
    exact c4
  · rw [el, List.take_length] at c
    obtain ⟨s2, i2⟩ := c.end
    exact q _ _ (s1.trans s2) i2
theorem ev_map {xs : List α} {j : Nat} {vs : List Nat} (f : α → β) (h : Ev T tl σ W xs) (hz : xs.length ≤ 10000000) (hw : ∀ x, wipe ((wipe σ vs).set j (some x)) vs = wipe σ vs)
    (he : ∀ x, x ∈ xs → ∀ v W1, Le T W W1 → Is W1 v x → Ev T te ((wipe σ vs).set j (some v)) W1 (f x)) :
    Ev T (tLc (iList K tl) (gName j) tYes te vs) σ W (xs.map f) :=
  (ev_lc (fun _ => true) f h hz hw (fun _ _ _ _ _ _ => et_yes) fun x hx _ => he x hx).is (by rw [List.filter_eq_self.mpr fun _ _ => rfl])
/-- over range(n) -/
theorem ev_lcR {n : Nat} {j : Nat} {vs : List Nat} (p : Nat → Bool) (f : Nat → β) (h : EvA T tA σ W [Enc.enc n]) (hz : n ≤ 10000000) (hw : ∀ x, wipe ((wipe σ vs).set j (some x)) vs = wipe σ vs)
    (ht : ∀ x : Nat, x < n → ∀ W1, Le T W W1 → EvT T t ((wipe σ vs).set j (some (.int (x : Int)))) W1 (p x))
    (he : ∀ x : Nat, x < n → p x = true → ∀ W1, Le T W W1 → Ev T te ((wipe σ vs).set j (some (.int (x : Int)))) W1 (f x)) :
    Ev T (tLc (iRng1 tA) (gName j) t te vs) σ W (((List.range n).filter p).map f) := fun W0 e0 d0 Q q => h W0 e0 d0 _ fun us W1 s1 i1 => by
  obtain ⟨v, rfl, i2⟩ := iss1 i1
  have ev : v = .int (n : Int) := is_nat (show Is W1 v n from i2)
  subst ev
  refine ⟨(n : Int), rfl, by omega, by omega, fun Dl hD => ?_⟩
  rw [Int.toNat_natCast]
  refine lc_range (lo := 0) (n := n) (fun i H' => Cw T W1 Dl ((((List.range n).take i).filter p).map f) H') (.start hD (d0.step s1)) (fun i H' hi c => ?_) fun H' c => ?_
  · have e0i : (0 : Int) + (i : Int) = (i : Int) := Int.zero_add _
    show wipe ((wipe σ vs).set j (some (.int ((0 : Int) + (i : Int))))) vs = wipe σ vs ∧ _
    rw [e0i]
    refine ⟨hw _, ?_⟩
    have hx : (List.range n)[i]? = some i := by simp [hi]
    have le : Le T W (wov W1 Dl H') := (e0.trans s1.le).trans c.le
    refine c.turn (b := p i) (y := f i) (Nat.lt_of_lt_of_le (fm_len p f (List.range n) i (by simpa using hi)) (by simpa using hz)) (ht i hi _ le) (fun hp => he i hi hp _ le) fun H4 c4 => ?_
    rw [fm_next hx]
    exact c4
  · rw [List.take_of_length_le (by simp)] at c
    obtain ⟨s2, i2⟩ := c.end
    exact q _ _ (s1.trans s2) i2
theorem ev_mapR {n : Nat} {j : Nat} {vs : List Nat} (f : Nat → β) (h : EvA T tA σ W [Enc.enc n]) (hz : n ≤ 10000000) (hw : ∀ x, wipe ((wipe σ vs).set j (some x)) vs = wipe σ vs)
    (he : ∀ x : Nat, x < n → ∀ W1, Le T W W1 → Ev T te ((wipe σ vs).set j (some (.int (x : Int)))) W1 (f x)) :
    Ev T (tLc (iRng1 tA) (gName j) tYes te vs) σ W ((List.range n).map f) :=
  (ev_lcR (fun _ => true) f h hz hw (fun _ _ _ _ => et_yes) fun x hx _ => he x hx).is (by rw [List.filter_eq_self.mpr fun _ _ => rfl])
/-- a, b in enumerate(xs) -/
theorem ev_lcE {xs : List α} {j k : Nat} {vs : List Nat} (p : Nat × α → Bool) (f : Nat × α → β) (h : Ev T tl σ W xs) (hz : xs.length ≤ 10000000) (hw : ∀ x y, wipe (((wipe σ vs).set j (some x)).set k (some y)) vs = wipe σ vs)
    (ht : ∀ (i : Nat) x, xs[i]? = some x → ∀ v W1, Le T W W1 → Is W1 v x → EvT T t (((wipe σ vs).set j (some (.int (i : Int)))).set k (some v)) W1 (p (i, x)))
    (he : ∀ (i : Nat) x, xs[i]? = some x → p (i, x) = true → ∀ v W1, Le T W W1 → Is W1 v x → Ev T te (((wipe σ vs).set j (some (.int (i : Int)))).set k (some v)) W1 (f (i, x))) :
    Ev T (tLc (iEnum K (tCons tl tNil)) (gTup K 2 (gCons (gName j) (gCons (gName k) gNil))) t te vs) σ W ((((List.range xs.length).zip xs).filter p).map f) := fun W0 e0 d0 Q q => h W0 e0 d0 _ fun v W1 s1 i1 => by
  obtain ⟨a, ws, rfl, ha, hl, is⟩ := is_lst i1
  have el := is.len
  rw [List.length_map] at el
  have hlen : ((List.range xs.length).zip xs).length = xs.length := by simp
  have c0 : ∀ Dl, W1.H Dl = none → Cw T W1 Dl (((((List.range xs.length).zip xs).take 0).filter p).map f) (upd W1.H Dl (.lst [])) := fun Dl hD => .start hD (d0.step s1)
  refine ⟨a, ws, rfl, SqL.of hl, fun Dl hD => lc_it (walk_enum (K := K) (a := a) (xs := ws)) (fun i H' => Cw T W1 Dl (((((List.range xs.length).zip xs).take i).filter p).map f) H') (c0 Dl hD) (fun i H' _ c => SqL.of (c.ex.lst hl)) (fun i v H' H'' hi c hy => ?_) fun H' c => ?_⟩
  · obtain ⟨Tp, y1, y2, rfl, hT, rfl, h1, h2⟩ := hy
    cases h1
    have h2 : ws[i]? = some y2 := h2
    obtain ⟨x, hx, ix⟩ := iss_at is h2
    have hlt := (List.getElem?_eq_some_iff.mp hx).1
    have hzip : ((List.range xs.length).zip xs)[i]? = some (i, x) := by
      rw [List.getElem?_zip_eq_some]
      exact ⟨by simp [hlt], hx⟩
    have cT : Cw T W1 Dl (((((List.range xs.length).zip xs).take i).filter p).map f) (upd H' Tp (.tup [.int (i : Int), y2])) := c.step (W3 := wov W1 Dl (upd H' Tp (.tup [.int (i : Int), y2]))) (step_of (W := wov W1 Dl H') (.new hT))
    refine ⟨Tp, _, rfl, SqT.of upd_same, rfl, _, _, rfl, _, _, rfl, rfl, hw _ _, ?_⟩
    have le : Le T W (wov W1 Dl (upd H' Tp (.tup [.int (i : Int), y2]))) := (e0.trans s1.le).trans cT.le
    refine cT.turn (b := p (i, x)) (y := f (i, x)) (Nat.lt_of_lt_of_le (fm_len p f ((List.range xs.length).zip xs) i (by rw [hlen]; exact hlt)) (by rw [hlen]; exact hz)) (ht i x hx y2 _ le (ix.mono cT.le)) (fun hp => he i x hx hp y2 _ le (ix.mono cT.le)) fun H4 c4 => ?_
    rw [fm_next hzip]
    exact c4
  · rw [List.take_of_length_le (by rw [hlen]; omega)] at c
    obtain ⟨s2, i2⟩ := c.end
    exact q _ _ (s1.trans s2) i2
end
end SD

/-! ## RS1 -/
set_option Elab.async false
set_option linter.all false
set_option maxRecDepth 100000
set_option maxHeartbeats 2000000
/-! the lambda that tells a row's key: its length, then its numbers -/
namespace RS
open PySem PySem.Spec PyProof.Rows L2 PySem.W
section
variable (p1 p2 p3 p4 p5 p6 p7 p8 : Pos)
def lamArgs : Arguments := { posonlyargs := [], args := [{ arg := "row", annotation := none, pos := p1 }], vararg := none, kwonlyargs := [], kw_defaults := [], kwarg := none, defaults := [] }
def lamBody : Expr := .BinOp (.List [.Call (.Name "len" p2) [.Name "row" p3] [] p4] p5) .Add (.Name "row" p6) p7
end
def lamScope : Scope := { kind := .function, names := [(Str.ofString "row", .local), (Str.ofString "len", .globalImplicit)], isGenerator := false, isCoroutine := false, more := [] }
def lamQ : Str := "ordered.<locals>.<lambda>"
section
variable {P : Program} {w : World} {A : Around} {E : Value → Shared → Prop} {s : Shared} {p1 p2 p3 p4 p5 p6 p7 : Pos} {mg mb : Str → Option Value}
theorem lam_call {f r : Addr} {pm : Value} {c' : Addr} {ctv : Value} {its : List Value} {n : Nat} {Q : Value → Shared → Prop}
    (ho : s.heap.get? f = some (kla_obj "<lambda>" lamQ (lamArgs p1) (lamBody p2 p3 p4 p5 p6 p7) lamScope [] pm c' ctv)) (hcd : s.heap.CodeRec (.ref c') lamQ) (hroom : A.depth < recursionLimit)
    (lim : s.heap.NoLimit) (hg : s.heap.Ns mainGlobals mg) (hlen : mg "len" = none) (hb : s.heap.Ns builtinsNs mb) (hbl : mb "len" = bootBuiltins "len")
    (hr : s.heap.get? r = some { cls := .type "list", data := .seq its.toArray n }) (hz : its.length < 1000)
    (hQ : ∀ h' tk p t, (∀ b o, s.heap.get? b = some o → h'.get? b = some o) → s.heap.objs.size ≤ p → h'.get? p = some { cls := .type "list", data := .seq ((Value.int (its.length : Int) t) :: its).toArray 0 } → Q (.ref p) { s with heap := h', toks := tk }) :
    wpAny (model P w) A (call (.ref f) [.ref r]) Q E s := by
  obtain ⟨hp, g, dr, tk, os⟩ := s
  refine wpAny_call (kla_callFunE hroom ho rfl rfl rfl rfl hcd ?_)
  have hbind : bindArgs (kla_fn "<lambda>" lamQ (lamArgs p1) (lamBody p2 p3 p4 p5 p6 p7) lamScope [] pm (.ref c') ctv) ⟨[.ref r], []⟩ = pure [(Str.ofString "row", Value.ref r)] := by rfl
  show wpAny _ _ (bindArgs (kla_fn "<lambda>" lamQ (lamArgs p1) (lamBody p2 p3 p4 p5 p6 p7) lamScope [] pm (.ref c') ctv) ⟨[.ref r], []⟩) _ _ _
  rw [hbind]
  refine wpAny_pure (wpAny_newFunctionEnv (show ∀ x ∈ lamScope.names, x.2 ≠ .cell by decide) (fun x hx => by rw [List.mem_singleton.mp hx]; rfl) (fun h₁ hns hsb => ⟨lim.fresh _ hsb, ?_⟩) rfl)
  have kp : ∀ b o, hp.get? b = some o → h₁.get? b = some o := fun b o e => hsb.extBut b o (Nat.ne_of_lt (Heap.lt_size e)) (Heap.get?_push_of_some _ e)
  have hsz : hp.objs.size < h₁.objs.size := hns.lt
  refine kla_codeExpr ?_
  show wpAny _ _ (eval (lamBody p2 p3 p4 p5 p6 p7) (envX lamQ lamScope hp.objs.size f (.ref c') [])) _ _ _
  have hkr : ∀ (h2 : Heap) (tk2 : Nat) (QQ : Value → Shared → Prop) (EE : Value → Shared → Prop) (AA : Around) (pp : Pos), (∀ b o, h₁.get? b = some o → h2.get? b = some o) → QQ (.ref r) ⟨h2, g, dr, tk2, os⟩ →
      wpAny (model P w) AA (eval (.Name "row" pp) (envX lamQ lamScope hp.objs.size f (.ref c') [])) QQ EE ⟨h2, g, dr, tk2, os⟩ := by
    intro h2 tk2 QQ EE AA pp k2 q
    exact wpAny_Name (wpAny_loadName_local (s := ⟨h2, g, dr, tk2, os⟩) rfl rfl (hns.keeps k2) (by rfl) q)
  refine wpAny_BinOp (wpAny_List_spliced (Calls.spliced_cons ?_))
  refine wpAny_Call_Name_kw (Calls.Name_function_global rfl rfl (Calls.loadGlobal_builtin (hg.keeps kp) hlen (hb.keeps kp) (hbl.trans (show bootBuiltins "len" = some (.builtin "len") from by decide +kernel)) ?_))
  refine PyProof.Rows.callWith_builtin1 (Calls.spliced_cons (hkr h₁ _ _ _ _ _ (fun _ _ e => e) (Calls.spliced_nil ?_))) rfl rfl
  refine Calls.call_len_list ⟨_, kp _ _ hr, rfl, _, rfl⟩ (by simp; omega) ?_
  refine Calls.spliced_nil ⟨by show 1 ≤ sizeLine; decide, ?_⟩
  refine hkr _ _ _ _ _ _ (fun b o e => Heap.get?_push_of_some _ e) ?_
  refine PySem.P.add_list (Heap.get?_push_size _ rfl) (Heap.get?_push_of_some _ (kp _ _ hr)) ?_ (by
    have : (1000 : Nat) ≤ sizeLine := by decide
    simp only [List.size_toArray, List.length_cons, List.length_nil]
    omega)
  show Q (.ref _) _
  refine hQ _ _ _ (tk + 1 + 1) (fun b o e => Heap.get?_push_of_some _ (Heap.get?_push_of_some _ (kp b o e))) ?_ ?_
  · simp only [Heap.size_push]
    show hp.objs.size ≤ _
    omega
  · refine (Heap.get?_push_size _ rfl).trans ?_
    simp
end
end RS

/-! ## RS2 -/
set_option Elab.async false
set_option linter.all false
set_option maxRecDepth 100000
set_option maxHeartbeats 4000000
/-! sorted by keys that are new lists of whole numbers -/
namespace RS
open PySem PySem.Calls PyProof.Rows PySem.W SC
/-- the key of a row, as data -/
def rowKey (row : List Int) : PyData := .list (((row.length : Int) :: row).map .int)
/-- v is a list that tells row's key, and it is not kS -/
def KeyAt (kS : Addr) (h : Heap) (v : Value) (row : List Int) : Prop := ∃ p its n, v = Value.ref p ∧ p ≠ kS ∧ IntsAre its ((row.length : Int) :: row) ∧ h.get? p = some (seqObj "list" its.toArray n)
theorem reads_ints {h : Heap} : ∀ {vs : List Value} {ns : List Int}, IntsAre vs ns → ReadsAll h vs (ns.map .int) []
  | _, _, .nil => .nil
  | _, _, .cons n t r => by
    have := ReadsAll.cons (Reads.int n t) (reads_ints (h := h) r)
    exact this
theorem KeyAt.reads {kS : Addr} {h : Heap} {v : Value} {row : List Int} (k : KeyAt kS h v row) : ∃ as, Reads h v (rowKey row) as := by
  obtain ⟨p, its, n, rfl, _, hi, hp⟩ := k
  exact ⟨_, Reads.list hp rfl rfl (by simpa using reads_ints hi)⟩
theorem KeyAt.keep {kS : Addr} {h h' : Heap} {v : Value} {row : List Int} (k : KeyAt kS h v row) (hk : ∀ b o, b ≠ kS → h.get? b = some o → h'.get? b = some o) : KeyAt kS h' v row := by
  obtain ⟨p, its, n, e, hn, hi, hp⟩ := k
  exact ⟨p, its, n, e, hn, hi, hk _ _ hn hp⟩
theorem alike_ints : ∀ xs ys : List Int, alikeAll (xs.map .int) (ys.map .int) = true
  | [], _ => by simp [alikeAll]
  | x :: xs, [] => by simp [alikeAll]
  | x :: xs, y :: ys => by simp [alikeAll, alike, alike_ints xs ys]
theorem keys_alike (rows : List (List Int)) : AllAlike (rows.map rowKey) := AllAlike.of fun b b' => by
  show alikeAll _ _ = true
  exact alike_ints _ _
theorem keys_sortable (rows : List (List Int)) : Sortable (rows.map rowKey) := Sortable.others fun b => by
  refine ⟨fun z => ?_, fun xs z => ?_⟩
  · cases (show PyData.list _ = PyData.none from z)
  · cases (show PyData.list _ = PyData.tuple xs from z)
theorem depth_ints : ∀ xs : List Int, PyData.depthAll (xs.map .int) = 0
  | [] => by simp [PyData.depthAll]
  | x :: xs => by simp [PyData.depthAll, PyData.depth, depth_ints xs]
section
variable {P : Program} {w : World} {A : Around} {E : Value → Shared → Prop} {s : Shared} {a kS : Addr} {vs : List Value} {e1 : Nat} {R : PySem.Fin → Shared → Prop} {rows : List (List Int)} {h₁ : Heap}
/-- a call that gives row's key as a new list -/
def Gives (P : Program) (w : World) (A : Around) (f v : Value) (row : List Int) (s : Shared) : Prop := ∀ Q : Value → Shared → Prop,
  (∀ h' tk p its n, (∀ b o, s.heap.get? b = some o → h'.get? b = some o) → s.heap.objs.size ≤ p → IntsAre its ((row.length : Int) :: row) → h'.get? p = some (seqObj "list" its.toArray n) → Q (.ref p) { s with heap := h', toks := tk }) →
  wpAny (model P w) A (call f [v]) Q (fun _ _ => False) s
theorem rest_lists {f : Value} (kp : KeepsBut a h₁ s.heap) (hkS : h₁.get? kS = none) (nk : s.heap.get? kS = some (seqObj "list" #[] 0)) (na : s.heap.get? a = some (seqObj "list" #[] e1)) (hka : kS ≠ a)
    (hl : rows.length = vs.length) (hZ : vs.length ≤ sizeLine) (hu : A.units + 1 < cLine)
    (turn : ∀ (i : Nat) (v : Value) (row : List Int), vs[i]? = some v → rows[i]? = some row → ∀ (h : Heap) (tk : Nat), KeepsBut a h₁ h → Gives P w A f v row { s with heap := h, toks := tk })
    (k : ∀ h' tk out c, KeepsBut a h₁ h' → h'.get? a = some (seqObj "list" (List.toArray out) c) → KeyedOut false (rows.map rowKey) vs out → R (.done (.ret .none)) { s with heap := h', toks := tk }) :
    wpAny (model P w) A (ksk_rest a f false vs.toArray e1 (.ref kS)) R E s := by
  unfold ksk_rest
  refine wpAny_bind (wpAny_rule ?_)
  first
    | rw [List.forIn_toArray]
    | rw [← Array.forIn_toList]
  refine wpAny_bind (ksk_fold (fun i s' => ∃ h' tk kA e, s' = { s with heap := h', toks := tk } ∧ KeepsBut a h₁ h' ∧ h'.get? kS = some (seqObj "list" kA e) ∧ h'.get? a = some (seqObj "list" #[] e1) ∧ EachIs (KeyAt kS h') kA.toList (rows.take i)) vs 0 s
    ⟨s.heap, s.toks, #[], 0, rfl, kp, nk, na, by rw [List.take_zero]; exact EachIs.nil⟩ ?one ?all)
  case one =>
    rintro j x s' hx ⟨h', tk, kA, e, rfl, kp', nk', na', hk⟩
    simp only [Nat.zero_add] at hk ⊢
    have hj : j < vs.length := (List.getElem?_eq_some_iff.mp hx).1
    obtain ⟨row, hrow⟩ : ∃ row, rows[j]? = some row := ⟨_, List.getElem?_eq_getElem (by omega)⟩
    have hz : kA.size ≤ vs.length := by
      have q := hk.length
      rw [Array.length_toList, List.length_take] at q
      omega
    refine wpAny_bind (wpAny_attempt (wpAny_mono (turn j x row hx hrow h' tk kp' (fun v s'' => ∃ g tk2 p its n, v = .ref p ∧ s'' = { s with heap := g, toks := tk2 } ∧ (∀ b o, h'.get? b = some o → g.get? b = some o) ∧ h'.objs.size ≤ p ∧ IntsAre its ((row.length : Int) :: row) ∧ g.get? p = some (seqObj "list" its.toArray n))
      fun g tk2 p its n a1 a2 a3 a4 => ⟨g, tk2, p, its, n, rfl, rfl, a1, a2, a3, a4⟩) (fun v s'' he => ?_) fun _ _ z => z.elim))
    obtain ⟨g, tk2, p, its, n, rfl, rfl, hg, hp, hi, hgp⟩ := he
    try dsimp only
    have nk2 := hg _ _ nk'
    have na2 := hg _ _ na'
    have hpk : p ≠ kS := fun z => absurd (Heap.lt_size nk') (by rw [← z]; exact Nat.not_lt.mpr hp)
    have sb := Heap.SameBut.update g kS (Obj.mapSeq (·.push (Value.ref p)))
    obtain ⟨c2, hc2⟩ : ∃ c2, (g.update kS (Obj.mapSeq (·.push (Value.ref p)))).get? kS = some (seqObj "list" (kA.push (Value.ref p)) c2) := ⟨_, get?_update_seq nk2 (·.push (Value.ref p))⟩
    refine wpAny_bind (listUpdate_at nk2 rfl ?_ (Nat.le_trans hz hZ) (Nat.le_trans (Nat.le_of_eq (Array.size_push ..)) (Nat.succ_le_succ (Nat.le_trans hz hZ))))
    refine wpAny_pure ⟨rfl, _, _, kA.push (.ref p), c2, rfl, (kp'.trans_all hg).same sb (.inr hkS), hc2, (sb.2 a hka.symm).trans na2, ?_⟩
    have ek : rows.take (j + 1) = rows.take j ++ [row] := by rw [List.take_add_one, hrow]; simp
    rw [ek, Array.toList_push]
    have up : ∀ b o, b ≠ kS → h'.get? b = some o → (g.update kS (Obj.mapSeq (·.push (Value.ref p)))).get? b = some o := fun b o hb q => (sb.2 b hb).trans (hg b o q)
    exact each_snoc (R := KeyAt kS _) ⟨p, its, n, rfl, hpk, hi, (sb.2 p hpk).trans hgp⟩ (hk.mono fun u d q => q.keep up)
  case all =>
    rintro s' ⟨h', tk, kA, e, rfl, kp', nk', na', hk⟩
    have e3 : rows.take (0 + vs.length) = rows := List.take_of_length_le (by omega)
    rw [e3] at hk
    have hsz : kA.size = vs.length := by
      have q := hk.length
      rw [Array.length_toList] at q
      omega
    have hk' : EachIs (fun v d => ∃ as, Reads h' v d as) kA.toList (rows.map rowKey) := each_map (R := fun v d => ∃ as, Reads h' v d as) rowKey (hk.mono fun v row q => q.reads)
    try dsimp only
    refine wpAny_bind (listItems_at nk' rfl ?_)
    refine keyH_end (κ := dataKind h' (rows.map rowKey)) (h₁ := h₁) kp' hkS nk' na' hka (SortsAt.data (s := { s with heap := h', toks := tk }) hk' (keys_alike rows) (keys_sortable rows) fun d hd => ?_) hsz hZ fun h3 tk3 c k3 n3 => k h3 tk3 _ c k3 n3 ⟨h', kA.toList, keys_alike rows, rfl, hk'⟩
    obtain ⟨row, _, rfl⟩ := List.mem_map.mp hd
    have : (rowKey row).depth = 1 := by
      unfold rowKey
      simp only [PyData.depth, depth_ints]
    rw [this]
    exact hu
/-- list.sort by such keys -/
theorem tree_lists {f : Value} {n : Nat} (ho : s.heap.get? a = some (seqObj "list" vs.toArray n)) (hl : rows.length = vs.length) (hZ : vs.length ≤ sizeLine) (hu : A.units + 1 < cLine)
    (turn : ∀ (i : Nat) (v : Value) (row : List Int), vs[i]? = some v → rows[i]? = some row → ∀ (h : Heap) (tk : Nat), KeepsBut a s.heap h → Gives P w A f v row { s with heap := h, toks := tk })
    (k : ∀ h' tk out c, KeepsBut a s.heap h' → h'.get? a = some (seqObj "list" (List.toArray out) c) → KeyedOut false (rows.map rowKey) vs out → R (.done (.ret .none)) { s with heap := h', toks := tk }) :
    wpAny (model P w) A (ksk_tree a f false) R E s := by
  have ha : a < s.heap.objs.size := Heap.lt_size ho
  obtain ⟨e1, ho1⟩ : ∃ e1, (s.heap.update a (Obj.mapSeq fun _ => (#[] : Array Value))).get? a = some (seqObj "list" #[] e1) := ⟨_, get?_update_seq ho fun _ => #[]⟩
  have hsz : ((s.heap.update a (Obj.mapSeq fun _ => (#[] : Array Value))).push (seqObj "tuple" vs.toArray 0)).objs.size = s.heap.objs.size + 1 := by rw [size_push', Heap.size_update]
  unfold ksk_tree
  refine wpAny_bind (listItems_at ho rfl (wpAny_bind (listUpdate_at ho rfl ?_ (by rw [List.size_toArray]; exact hZ) (Nat.zero_le _))))
  refine wpAny_bind (seqEpoch_at ho1 rfl (wpAny_bind (wpAny_newTuple ?_ (by show vs.length ≤ _; exact hZ))))
  refine wpAny_bind (wpAny_newList (wpAny_holding ?_) (Nat.zero_le _))
  exact rest_lists (h₁ := s.heap) (s := { s with heap := sortingHeap s.heap a vs }) (kS := ((s.heap.update a (Obj.mapSeq fun _ => (#[] : Array Value))).push (seqObj "tuple" vs.toArray 0)).objs.size)
    (fun b o hb q => sortingHeap_old hb q) (Heap.get?_none_of_le (by rw [hsz]; exact Nat.le_succ _)) (Heap.get?_push_size _ rfl) (Heap.get?_push_of_some _ (Heap.get?_push_of_some _ ho1))
    (by rw [hsz]; exact Nat.ne_of_gt (Nat.lt_succ_of_lt ha)) hl hZ hu turn k
theorem keyLe_is : dataLe false (fun b => rowKey (castRow b)) = keyLe := by
  have e : (fun b : List Nat => rowKey (castRow b)) = fun b => .list ((keyOf b).map .int) := by
    funext b
    unfold rowKey keyOf castRow
    rw [List.length_map]
  rw [e, dataLe_rows]
  rfl
/-- sorted(xs, key=f) by such keys -/
theorem sorted_lists {l : Addr} {f : Addr} {Q : Value → Shared → Prop} {bs : List (List Nat)} {Rr : Value → List Nat → Prop} (hi : s.heap.IsList l vs.toArray) (e : EachIs Rr vs bs) (hZ : bs.length ≤ sizeLine) (hu : A.units + 3 < cLine)
    (turn : ∀ (v : Value) (b : List Nat), Rr v b → ∀ (h : Heap) (tk : Nat), (∀ b o, s.heap.get? b = some o → h.get? b = some o) → Gives P w A.in1.in1 (.ref f) v (castRow b) { s with heap := h, toks := tk })
    (k : ∀ out c h' tk, (∀ b o, s.heap.get? b = some o → h'.get? b = some o) → h'.get? (s.heap.objs.size + 1) = some (seqObj "list" (List.toArray out) c) → EachIs Rr out (bs.mergeSort keyLe) → Q (.ref (s.heap.objs.size + 1)) { s with heap := h', toks := tk }) :
    wpAny (model P w) A (call (.builtin "sorted") [.ref l] [(Str.ofString "key", .ref f)]) Q E s := by
  have el := e.length
  have up : ∀ {g : Heap}, KeepsBut (s.heap.objs.size + 1) (copyHeap s.heap vs) g → ∀ b o, s.heap.get? b = some o → g.get? b = some o := fun {g} kp b o q =>
    kp b o (Nat.ne_of_lt (Nat.lt_succ_of_lt (Heap.lt_size q))) (copyHeap_old q)
  refine sorted_of_sort hi (by rw [el]; exact hZ) (ksk_s1 _ _) (fun _ => ksk_l1 _ _) fun E' => ?_
  rw [ksk_t1]
  refine tree_lists (rows := bs.map castRow) (s := { s with heap := copyHeap s.heap vs }) (copyHeap_at s.heap vs) (by rw [List.length_map]; exact el.symm) (by rw [el]; exact hZ) (by show A.units + 2 + 1 < cLine; exact hu) (fun i v row hv hr h tk kp => ?_) fun h' tk out c kp hD ko => ⟨rfl, ?_⟩
  · rw [List.getElem?_map] at hr
    cases q : bs[i]? with
    | none => rw [q] at hr; cases hr
    | some b =>
      rw [q] at hr
      cases hr
      have hz : (v, b) ∈ vs.zip bs := List.mem_of_getElem? (i := i) (by rw [List.getElem?_zip_eq_some]; exact ⟨hv, q⟩)
      exact turn v b (e.zip _ hz) h tk (up kp)
  · rw [List.map_map] at ko
    have ee := keyedOut_each (fun b => rowKey (castRow b)) ko e
    rw [keyLe_is] at ee
    exact k out c h' tk (up kp) hD ee
end
end RS

/-! ## RS3 -/
set_option Elab.async false
set_option linter.all false
set_option maxRecDepth 100000
set_option maxHeartbeats 4000000
namespace RS
open PySem PySem.Calls PyProof.Rows PySem.W L2 SD SC
section
variable {X : Cx} {T : List (Addr × Str)} {p1 p2 p3 p4 p5 p6 p7 pos lpos kpos np : Pos} {e : Expr} {te : TE} {c P : Addr} {k : Nat}
/-- sorted(e, key=the lambda) -/
def tSortRows (T : List (Addr × Str)) (te : TE) : TE := fun σ H Q => te σ H fun x H1 => ∃ (S : List Addr) (rows : List (List Nat)), Wo.Dom ⟨S, H1⟩ ∧ Is ⟨S, H1⟩ x rows ∧ (∀ r ∈ rows, r.length < 1000) ∧ rows.length ≤ 1000 ∧ LamX.Tabs T H1 ∧
  ∀ u W2, Step T ⟨S, H1⟩ W2 → Is W2 u (rows.mergeSort keyLe) → Q u W2.H
theorem ints_of_vals : ∀ {us : List Value} {ns : List Int}, Vals (ns.map V.int) us → IntsAre us ns := fun r => Vals.ints r
theorem each_vals {W : Wo} {h : Heap} : ∀ {vs : List Value} {bs : List (List Nat)}, EachIs (fun v b => ∃ x, RelV x v ∧ Is W x b ∧ b.length < 1000) vs bs → ∃ xs, Vals xs vs ∧ Iss W xs (bs.map Enc.enc)
  | [], [], _ => ⟨[], .nil, .nil⟩
  | [], _ :: _, z => by cases z
  | _ :: _, [], z => by cases z
  | v :: vs, b :: bs, z => by
    cases z with
    | cons a t =>
      obtain ⟨x, r, i, _⟩ := a
      obtain ⟨xs, rs, is⟩ := each_vals (h := h) t
      exact ⟨x :: xs, .cons r rs, .cons i is⟩
theorem vals_each {W : Wo} : ∀ {xs : List V} {vs : List Value} {bs : List (List Nat)}, Vals xs vs → Iss W xs (bs.map Enc.enc) → (∀ b ∈ bs, b.length < 1000) → EachIs (fun v b => ∃ x, RelV x v ∧ Is W x b ∧ b.length < 1000) vs bs
  | _, _, [], .nil, z, _ => .nil
  | _, _, b :: bs, .nil, z, _ => by cases z
  | _, _, [], .cons r t, z, _ => by cases z
  | _, _, b :: bs, .cons r t, z, hb => by
    cases z with
    | cons i is => exact .cons ⟨_, r, i, hb b (List.mem_cons_self ..)⟩ (vals_each t is fun c hc => hb c (List.mem_cons_of_mem _ hc))
theorem pe_sortRows (hr : Room (k + 3) X.A) (TB : LamX.TabB X.base X.mg c P) (hcode : X.env.code = .ref c) (hq : X.env.qual ++ "<lambda>" = lamQ) (hm : (P, lamQ) ∈ T) (hu : ∀ p ∈ T, p.1 = P → p.2 = lamQ)
    (hs : X.mg "sorted" = none) (hl : X.mg "len" = none) (he : PE X e te) (hg : Gl X "sorted" := by rfl)
    (h1 : backTo pos (starEach [e] X.env) = (false, eval e X.env) :: backTo pos (starEach [] X.env) := by rfl) (h2 : (backTo pos (starEach [e] X.env)).any (·.1) = false := by rfl) (h3 : starEach [e] X.env = (false, eval e X.env) :: starEach [] X.env := by rfl)
    (h4 : (backToKw pos (keywordEach [⟨some "key", .Lambda (lamArgs p1) (lamBody p2 p3 p4 p5 p6 p7) lamScope lpos, kpos⟩] X.env)).all (·.1.isSome) = true := by rfl)
    (h5 : (backToKw pos (keywordEach [⟨some "key", .Lambda (lamArgs p1) (lamBody p2 p3 p4 p5 p6 p7) lamScope lpos, kpos⟩] X.env)).any (·.1.isNone) = false := by rfl)
    (h6 : (backToKw pos (keywordEach [⟨some "key", .Lambda (lamArgs p1) (lamBody p2 p3 p4 p5 p6 p7) lamScope lpos, kpos⟩] X.env)).filterMap (·.1) = [Str.ofString "key"] := by rfl)
    (h7 : (backToKw pos (keywordEach [⟨some "key", .Lambda (lamArgs p1) (lamBody p2 p3 p4 p5 p6 p7) lamScope lpos, kpos⟩] X.env)).map (·.2) = [do let v ← eval (.Lambda (lamArgs p1) (lamBody p2 p3 p4 p5 p6 p7) lamScope lpos) X.env; standAt pos; pure v] := by rfl)
    (h8 : defaultsOf (lamArgs p1) X.env = ([], []) := by rfl) :
    PE X (.Call (.Name "sorted" np) [e] [⟨some "key", .Lambda (lamArgs p1) (lamBody p2 p3 p4 p5 p6 p7) lamScope lpos, kpos⟩] pos) (tSortRows T te) := by
  refine ⟨fun pins s σ H Q I h => ?_⟩
  refine wpAny_Call_Name_kw (ld_blt I hg hs (show bootBuiltins "sorted" = some (.builtin "sorted") from by decide +kernel) ?_)
  refine PyProof.Rows.callWith_kw ?_ h1 h2 h4 h5
  rw [h6, h7, h3]
  show wpAny _ _ (spliced ((false, eval e X.env) :: backTo pos (starEach [] X.env))) _ _ s
  refine Calls.spliced_cons (thn (he.run pins s σ H _ I h) fun u s1 ⟨x, H1, I1, r1, q1⟩ => Calls.spliced_nil ?_)
  obtain ⟨S, rows, dm, ix, hrl, hzl, hT, q⟩ := q1
  refine wpAny_evalAll_cons (wpAny_bind (LamX.lam_make2 I1 TB hcode (by rw [hq]; exact hm) (by rw [hq]; exact hu) hT h8 (fun y hy => ?_) fun f c' pm ctv H2 s2 I2 hE hT2 hf hfn hfr hc' => wpAny_bind (wpAny_standAt (wpAny_pure (wpAny_evalAll_nil ?_)))))
  · intro z
    have : ∀ y ∈ lamScope.names, y.2 ≠ .free := by decide
    exact absurd z (this y hy)
  rw [hq] at hf hc'
  have hcl : cloFrom X.env.cells lamScope.names [] = [] := by rfl
  rw [hcl] at hf
  have sE : Ex T H1 H2 := ⟨hE, fun _ => hT2⟩
  have st : Step T ⟨S, H1⟩ ⟨S, H2⟩ := step_of sE
  have ix2 := ix.step st
  have dm2 := dm.step st
  obtain ⟨a, ws, rfl, _, ha, is⟩ := is_lst ix2
  obtain rfl : u = Value.ref a := r1
  obtain ⟨its, rv, hpl, hln⟩ := I2.list (SqL.of ha)
  have each : EachIs (fun v b => ∃ x, RelV x v ∧ Is ⟨S, H2⟩ x b ∧ b.length < 1000) its rows := vals_each rv is hrl
  obtain ⟨mb, hb1, hb2⟩ := I2.mod.blt
  show wpAny _ _ (call (.builtin "sorted") [.ref a] [(Str.ofString "key", .ref f)]) _ _ s2
  have hlr : rows.length = its.length := each.length.symm
  refine sorted_lists (s := s2) hpl.isList each (Nat.le_trans hzl (by decide)) (by have := hr.un; omega) (fun v b hv h tk keep => ?_) fun out c h' tk keep hD ee => ?_
  · obtain ⟨xv, rxv, ixv, hbl⟩ := hv
    obtain ⟨r, vs, rfl, _, hr2, is2⟩ := is_lst ixv
    obtain rfl : v = Value.ref r := rxv
    rw [iss_nats is2] at hr2
    obtain ⟨_, its2, n2, rv2, hob⟩ := I2.hok r _ hr2
    have hInts := Vals.ints rv2
    have el2 : its2.length = b.length := by
      have := rv2.length
      simpa using this.symm
    obtain ⟨⟨oc, vc, tc, hoc, hdc, hvc⟩, _, _⟩ := I2.hok c' _ hc'
    intro Q' hQ'
    refine lam_call (s := { s2 with heap := h, toks := tk }) (mg := X.mg) (mb := mb) (keep _ _ hf) ⟨c', oc, vc, tc, rfl, keep _ _ hoc, hdc, hvc⟩ (by have := hr.in1.in1.depth; exact this) (I2.nolimit.keeps keep) ((I2.mod.glob.keeps I2.bk).keeps keep) hl ((hb1.keeps I2.bk).keeps keep) (hb2 _ (by decide)) (keep _ _ hob) (by omega) fun h3 tk3 p t k3 sz hp => ?_
    refine hQ' h3 tk3 p _ 0 k3 sz ?_ hp
    have e1 : ((its2.length : Nat) : Int) = ((castRow b).length : Int) := by unfold castRow; rw [List.length_map, el2]
    rw [← e1]
    exact .cons _ _ hInts
  · obtain ⟨xs, rxs, ixs⟩ := each_vals (h := h') ee
    have hp : H2 (s2.heap.objs.size + 1) = none := I2.hok.fresh (Nat.le_succ _)
    have hlx : xs.length ≤ sizeLine := by
      have := Iss.len ixs
      rw [List.length_map, List.length_mergeSort] at this
      rw [this]
      exact Nat.le_trans hzl (by decide)
    refine ⟨.ref _, upd H2 (s2.heap.objs.size + 1) (.lst xs), I2.laid (t' := tk) keep (Nat.le_succ _) ⟨hlx, out, c, rxs, hD⟩, rfl, ?_⟩
    exact q _ ⟨S, upd H2 (s2.heap.objs.size + 1) (.lst xs)⟩ (st.trans (step_of (W := ⟨S, H2⟩) (.new hp))) (is_new_lst (W := ⟨S, H2⟩) dm2 hp ixs)
end
end RS

/-! ## RS4 -/
set_option Elab.async false
set_option linter.all false
set_option maxRecDepth 100000
set_option maxHeartbeats 4000000
namespace RS
open PySem PySem.Calls PyProof.Rows PySem.W L2 SD SC
section
variable {X : Cx}
/-- sorted(d), d a dict of any number of whole numbers -/
def rSortedDict : List V → Hp → VK → Prop := fun xs H Q => ∃ (a : Addr) (kvs : List (Key × V)) (ks : List Int), xs = [.ref a] ∧ H a = some (.dK kvs) ∧ kvs.map (·.1) = ks.map Sum.inl ∧
  ∀ (ys : List Int) (p : Addr), ys.Perm ks → ys.Pairwise (· ≤ ·) → H p = none → Q (.ref p) (upd H p (.lst (ys.map V.int)))
theorem cr_sortedDict (hcalm : X.calm = true) : CallR X (.builtin "sorted") rSortedDict := by
  intro pins s σ H xs us Q I r q
  obtain ⟨a, kvs, ks, rfl, hd, hks, q⟩ := q
  rw [Vals.ref1 r]
  obtain ⟨z, lo, vs, rel, dd⟩ := dk_rd I.hok (Or.inl hd)
  obtain ⟨ep, hat⟩ := dd.dictAt
  have hkeys : vs.map (·.1) = ks.map Sum.inl := rel.keys.symm.trans hks
  have hl : vs.length = ks.length := by
    have e := congrArg List.length hkeys
    rwa [List.length_map, List.length_map] at e
  have hkl : kvs.length = ks.length := by
    have e := congrArg List.length hks
    rwa [List.length_map, List.length_map] at e
  have hz : ks.length ≤ sizeLine := by rw [← hkl]; exact z
  refine Calls.call_function_entry kind_sorted plain_sorted entry_sorted (args_sorted1 _) ?_
  unfold Builtin.«sorted»
  refine wpAny_bind (m := checkCount "sorted" 1 1 _) (wpAny_pure (wpAny_bind (kdu_collect (A := X.A.in1) (kdl_dict (knd := mixKind X.prog X.w) (kvs := vs) (ep := ep) lo) (I.ok.hd hcalm) hat (by rw [hl]; exact hz) fun h' tk acc hk hacc => ?_)))
  have hal : acc.toList.length = ks.length := by rw [Array.length_toList, hacc.1, hl]
  have hS : IntsAre acc.toList ks := ints_each hal fun j v e => by
    obtain ⟨k, x, e1, e2⟩ := hacc.2 j v (by rw [← Array.getElem?_toList]; exact e)
    have e3 : (ks.map Sum.inl)[j]? = some k := by rw [← hkeys, List.getElem?_map, e1]; rfl
    rw [List.getElem?_map] at e3
    cases e4 : ks[j]? with
    | none => rw [e4] at e3; cases e3
    | some y =>
      rw [e4] at e3
      obtain rfl : Sum.inl y = k := Option.some.inj e3
      rcases keyIs_shape (show keyIs (Sum.inl y) v = true from e2) with ⟨i, t, ek, ev⟩ | ⟨z, t, ek, ev⟩
      · cases ek
        exact ⟨y, t, rfl, ev⟩
      · cases ek
  have I1 : Inv X pins σ H { s with heap := h', toks := tk } := I.kept hk
  refine wpAny_bind (wpAny_newList ?_ (by rw [hal]; exact hz))
  have hoL : (h'.push (seqObj "list" acc.toList.toArray 0)).get? h'.objs.size = some (seqObj "list" acc.toList.toArray 0) := Heap.get?_push_size _ rfl
  show wpAny _ _ _ _ _ { s with heap := h'.push (seqObj "list" acc.toList.toArray 0), toks := tk }
  refine wpAny_bind (wpAny_holding (wpAny_call_entry slot_list_sort ⟨_, hoL, rfl⟩ entry_list_sort
    (SrtO.list_sort_ord (s := { s with heap := h'.push (seqObj "list" acc.toList.toArray 0), toks := tk }) SrtO.swo_int hoL (by rw [hal]; exact hz) (fun h2 => SrtO.ints_sortable hS h2) fun out g1 g2 => ⟨_, rfl, ?_⟩) (args_list_sort _)))
  obtain ⟨k1, k2, k3⟩ := SrtO.ints_out hS g1 g2
  obtain ⟨e', he'⟩ := sortedHeap_at (vs := acc.toList) (out := out.toArray) hoL
  have hlen : ((out.map SrtO.iv).map V.int).length ≤ sizeLine := by
    rw [List.length_map, k2.length_eq]
    exact hz
  refine wpAny_pure ⟨_, rfl, .ref h'.objs.size, upd H h'.objs.size (.lst ((out.map SrtO.iv).map V.int)), I1.laid (t' := tk) (fun b u e => ?_) (Nat.le_refl _)
    (show ObjOk X.prog X.w _ _ _ (.lst ((out.map SrtO.iv).map V.int)) from ⟨hlen, out, e', vals_of_ints k1, he'⟩), rfl, q _ _ k2 k3 (I1.hok.fresh (Nat.le_refl _))⟩
  have hb : b < h'.objs.size := Heap.lt_size e
  rw [sortedHeap_old (Nat.ne_of_lt hb) (by rw [size_push']; exact Nat.lt_succ_of_lt hb)]
  exact Heap.get?_push_of_some _ e
/-- the greatest of some numbers, or -1 -/
def maxOr : List Int → Int
  | [] => -1
  | y :: ys => ys.foldl max y
def rMaxD (K : PySem.W.Frag) : List V → List V → Hp → VK → Prop := fun vs zs H Q => ∃ (a : Addr) (ns : List Int), vs = [V.ref a] ∧ zs = [.int (-1)] ∧ SqL K H a (ns.map V.int) ∧ Q (.int (maxOr ns)) H
theorem cr_maxD (hu : X.A.units + 1 < cLine) (hc : X.calm = true) : CallRK X (.builtin "max") [Str.ofString "default"] (rMaxD X.K) := by
  intro pins s σ H vs zs us ws Q I r rz h
  obtain ⟨a, ns, rfl, rfl, hs, q⟩ := h
  rw [Vals.ref1 r]
  obtain ⟨w1, rfl, t, rfl⟩ := vals1 rz
  obtain ⟨its, rv, hl, _⟩ := I.list hs
  refine max_list_default (xs := ns.map .int) (as := []) (I.ok.hd hc) hl.isList (by simpa using reads_ints rv.ints) ⟨?_, ?_⟩ ?_ (fun e h' tk k => ?_) fun y ys i v h' tk bs e hv rd k => ?_
  · intro x hx y hy
    obtain ⟨m, _, rfl⟩ := List.mem_map.mp hx
    obtain ⟨n, _, rfl⟩ := List.mem_map.mp hy
    simp [alike]
  · intro x hx z
    obtain ⟨m, _, rfl⟩ := List.mem_map.mp hx
    cases z
  · rw [depth_ints]; exact hu
  · have : ns = [] := List.map_eq_nil_iff.mp e
    subst this
    exact ⟨.int (-1), H, I.kept k, ⟨_, rfl⟩, q⟩
  · cases ns with
    | nil => cases e
    | cons n ns =>
      rw [List.map_cons] at e
      cases e
      rw [maxD_ints] at rd
      cases rd
      exact ⟨.int _, H, I.kept k, ⟨_, rfl⟩, q⟩
end
section
variable {T : List (Addr × Str)} {W : Wo} {σ : L2.St} {te ta tb : TE} {K : PySem.W.Frag}
theorem fold_max : ∀ (l : List Nat) (m : Nat), (l.map fun n : Nat => (n : Int)).foldl max (m : Int) + 1 = ((max (m + 1) (SC.manyRanks l) : Nat) : Int)
  | [], m => by
    show (m : Int) + 1 = ((max (m + 1) 0 : Nat) : Int)
    omega
  | x :: l, m => by
    rw [List.map_cons, List.foldl_cons]
    have e : max (m : Int) (x : Int) = ((max m x : Nat) : Int) := by omega
    rw [e, fold_max l (max m x)]
    show _ = ((max (m + 1) (max (x + 1) (SC.manyRanks l)) : Nat) : Int)
    omega
theorem maxOr_many (l : List Nat) : maxOr (l.map fun n : Nat => (n : Int)) + 1 = (SC.manyRanks l : Int) := by
  cases l with
  | nil => rfl
  | cons x l =>
    show (l.map fun n : Nat => (n : Int)).foldl max (x : Int) + 1 = _
    rw [fold_max]
    rfl
theorem ev_many {l : List Nat} (ha : Ev T ta σ W l) : Ev T (tOp (rI0 fun i j => .int (i + j)) (tCKw (rMaxD K) (tCons ta tNil) (tCons (tUn (rU fun i => .int (-i)) (tC (.int 1))) tNil)) (tC (.int 1))) σ W (SC.manyRanks l) := fun W1 e d Q q =>
  ha W1 e d _ fun v W2 e2 i => by
    obtain ⟨a, vs, rfl, _, h1, h2⟩ := is_lst i
    rw [iss_nats h2] at h1
    exact ⟨1, rfl, a, _, rfl, rfl, SqL.of h1, _, _, rfl, rfl, q _ W2 e2 (nat_is (maxOr_many l))⟩
/-- sorted by rows -/
theorem ev_sortRows {rows : List (List Nat)} (ha : Ev T te σ W rows) (h1 : ∀ r ∈ rows, r.length < 1000) (h2 : rows.length ≤ 1000) (ht : LamX.Tabs T W.H) : Ev T (tSortRows T te) σ W (rows.mergeSort keyLe) := fun W1 e d Q q =>
  ha W1 e d _ fun v W2 e2 i => ⟨W2.S, rows, d.step e2, i, h1, h2, e2.ex.tabs (e.tabs ht), fun u W3 e3 i3 => q u W3 (e2.trans e3) i3⟩
end
end RS

/-! ## SD4 -/
set_option Elab.async false
set_option linter.all false
set_option maxRecDepth 100000
set_option maxHeartbeats 2000000
namespace SD
open PySem PySem.Spec PyProof.Rows L2
def topS (i : Nat) : Stmt := PySem.Challenge.pw_statementclash_s01_answers.main.body.getD i (.Pass ⟨0, 0, 0, 0⟩)
/-- what the top leaves of the built-ins' names and of its constants -/
structure Txt (mg : Str → Option Value) : Prop where
  len : mg "len" = none
  range : mg "range" = none
  any : mg "any" = none
  all : mg "all" = none
  sum : mg "sum" = none
  min : mg "min" = none
  max : mg "max" = none
  sorted : mg "sorted" = none
  enumerate : mg "enumerate" = none
  points : ∃ u, mg "POINTS" = some u ∧ RelV (.int 0) u
  intervals : ∃ u, mg "INTERVALS" = some u ∧ RelV (.int 1) u
  sets : ∃ u, mg "SETS" = some u ∧ RelV (.int 2) u
  mostO : ∃ u, mg "MOST_OBJECTS" = some u ∧ RelV (.int 4) u
  mostS : ∃ u, mg "MOST_STATEMENTS" = some u ∧ RelV (.int 5) u
  mostP : ∃ u, mg "MOST_PRICE" = some u ∧ RelV (.int 1000) u
/-- a def that may be called by its name -/
structure Cal (P : Program) (w : World) (K : PySem.W.Frag) (mg : Str → Option Value) (base : Heap) (CX : CXT) (k : Nat) (x : Str) (sp : Sp) : Prop where
  ex : ∃ (f : Addr) (fd : FuncData) (ps : List Str), FnOk P w K mg base CX k f fd ps sp ∧ mg x = some (.ref f) ∧ PySem.W.keepIn K (.ref f) = true ∧ Binds K fd ps []
section
variable {X : Cx} {k j : Nat} {x : Str} {sp : Sp} {p pos : Pos} {e : Expr} {es : List Expr} {t : TA}
theorem pe_c (c : Cal X.prog X.w X.K X.mg X.base L2.CX0 k x sp) (hr : Room j X.A) (ha : PA X (e :: es) t) (hk : k ≤ j := by decide) (hg : Gl X x := by rfl)
    (hdb : (x == ("__debug__" : Str)) = false := by decide) (he : starEach (e :: es) X.env = (false, eval e X.env) :: starEach es X.env := by rfl) (hpl : (backTo pos (starEach es X.env)).any (·.1) = false := by rfl) :
    PE X (.Call (.Name x p) (e :: es) [] pos) (tCall sp [] L2.E0 t) := by
  obtain ⟨f, fd, ps, F, hm, kp, b⟩ := c.ex
  exact pe_call F (hr.mono hk) hg hm kp b .nil L2.pass0 ha hdb he hpl
/-- a name of the module, by its value -/
theorem pe_gc {v : V} (h : ∃ u, X.mg x = some u ∧ RelV v u) (hg : Gl X x := by rfl) (hd : (x == ("__debug__" : Str)) = false := by decide) : PE X (.Name x pos) (tC v) := by
  obtain ⟨u, hm, r⟩ := h
  exact pe_glob hg hm r hd
end
/-- a def as it stands behind the top -/
structure Fn (K : PySem.W.Frag) (mg : Str → Option Value) (x : Str) (st : Stmt) (ps : List Str) : Prop where
  ex : ∃ f fd, Fun K x x st f fd ∧ mg x = some (.ref f) ∧ Binds K fd ps []
section
variable {P : Program} {w : World} {K : PySem.W.Frag} {mg : Str → Option Value} {base : Heap}
theorem Fn.cal {x : Str} {st : Stmt} {N ps : List Str} {k : Nat} {sp : Sp} (F : Fn K mg x st ps) (S : FnScope N ps (defScope st)) (len : ∀ vs H Q E, sp vs H Q E → vs.length = ps.length)
    (hbody : ∀ (f : Addr) (cdv : Value) (A : Around) (outer : List Env) (s : Shared) (H : Hp) (vs : List V) (Q : VK) (E : XK), Room k (A.deeper (envOfC x (defScope st) s.heap.objs.size f cdv)) → sp vs H Q E →
      ∃ t, PSs (cxOf L2.CX0 P w K mg base N x (defScope st) f cdv A outer s H E).nox (defBody st) t ∧ t { nx := fun _ H' => Q .non H', rt := Q } (start N vs) H) : Cal P w K mg base L2.CX0 (k + 1) x sp := by
  obtain ⟨f, fd, G, hm, b⟩ := F.ex
  exact ⟨f, fd, ps, G.ok S len fun cdv A outer s H vs Q E hr h => hbody f cdv A outer s H vs Q E hr h, hm, G.kp, b⟩
end
end SD

/-! ## SD5 -/
set_option Elab.async false
set_option linter.all false
set_option maxRecDepth 100000
set_option maxHeartbeats 2000000
/-! statements with a list that grows; loops -/
namespace SD
open PySem PySem.Spec PyProof.Rows L2
section
variable {α β γ δ ε : Type} [Enc α] [Enc β] [Enc γ] [Enc δ] [Enc ε] {T : List (Addr × Str)} {W W' W0 W1 W2 : Wo} {σ σ2 : L2.St} {te ta tb tl : TE} {t u : TT} {tA : TA} {K : PySem.W.Frag} {Dn : Ends} {tu tw tz : TS} {p : Addr} {l : List β} {H H' : Hp}
/-- x = [] -/
theorem r_new {i : Nat} (d : W.Dom) (k : ∀ p, Cw T W p ([] : List β) (upd W.H p (.lst [])) → tz Dn (σ.set i (some (.ref p))) (upd W.H p (.lst []))) : tSeq (tAsg (tLst tNil) (gName i)) tz Dn σ W.H :=
  ⟨Nat.zero_le _, fun p hp => k p (.start hp d)⟩
theorem Cw.at (c : Cw T W0 p l H') : ∃ acc, H' p = some (.lst acc) := let ⟨acc, e, _⟩ := c.is; ⟨acc, e⟩
theorem Cw.chg (c : Cw T W0 p l H') {o : HO} : Le T (wov W0 p H') (wov W0 p (upd H' p o)) := let ⟨_, e⟩ := c.at; .chgL (List.mem_cons_self ..) e
/-- a list's append, its extend -/
theorem r_append {i : Nat} {x : β} (c : Cw T W0 p l H') (hi : σ[i]? = some (some (.ref p))) (h : Ev T te σ (wov W0 p H') x) (hz : l.length < 10000000)
    (k : ∀ H2, Le T (wov W0 p H') (wov W0 p H2) → Cw T W0 p (l ++ [x]) H2 → Dn.nx σ H2) : tDrop (tBM K "list" rAppend (tVar i) (tCons te tNil)) Dn σ H' := by
  obtain ⟨acc, e⟩ := c.at
  refine ⟨_, hi, .inl ⟨rfl, _, SqL.of e⟩, h (wov W0 p H') (.refl _) c.dm _ fun v W2 s2 i2 => ?_⟩
  have c2 := c.step s2
  have es : W2.S = p :: W0.S := s2.s
  have le := s2.le
  obtain ⟨S2, H2⟩ := W2
  cases es
  obtain ⟨acc2, e2, el, c3⟩ := c2.push i2
  exact ⟨p, acc2, v, rfl, rfl, e2, big7 (by omega), k _ (le.trans c2.chg) c3⟩
theorem r_extend {i : Nat} {ys : List β} (c : Cw T W0 p l H') (hi : σ[i]? = some (some (.ref p))) (h : Ev T te σ (wov W0 p H') ys) (hz : l.length + ys.length ≤ 10000000)
    (k : ∀ H2, Le T (wov W0 p H') (wov W0 p H2) → Cw T W0 p (l ++ ys) H2 → Dn.nx σ H2) : tDrop (tBM K "list" rExtend (tVar i) (tCons te tNil)) Dn σ H' := by
  obtain ⟨acc, e⟩ := c.at
  refine ⟨_, hi, .inl ⟨rfl, _, SqL.of e⟩, h (wov W0 p H') (.refl _) c.dm _ fun v W2 s2 i2 => ?_⟩
  have c2 := c.step s2
  have es : W2.S = p :: W0.S := s2.s
  have le := s2.le
  obtain ⟨S2, H2⟩ := W2
  cases es
  obtain ⟨b, ws, rfl, _, hb, is⟩ := is_lst i2
  have ew := is.len
  rw [List.length_map] at ew
  obtain ⟨acc2, e2, el, c3⟩ := c2.pushs is
  exact ⟨p, b, acc2, ws, rfl, rfl, e2, hb, big7' (by omega), k _ (le.trans c2.chg) c3⟩
/-- for x in range(n) -/
theorem r_forR {n j : Nat} (d : W.Dom) (h : EvA T tA σ W [Enc.enc n]) (hz : n ≤ 10000000) (Pv : Nat → L2.St → Wo → Prop) (h0 : ∀ W1, Step T W W1 → Pv 0 σ W1)
    (hs : ∀ i σ' W', i < n → Pv i σ' W' → tu { nx := fun σ2 H2 => ∃ W2, W2.H = H2 ∧ Pv (i + 1) σ2 W2, rt := Dn.rt, bk := tz Dn, ct := fun σ2 H2 => ∃ W2, W2.H = H2 ∧ Pv (i + 1) σ2 W2 } (σ'.set j (some (.int (i : Int)))) W'.H)
    (hd : ∀ σ' W', Pv n σ' W' → tz Dn σ' W'.H) : tSeq (tFor (iRng1 tA) (gName j) tu) tz Dn σ W.H := h W (.refl _) d _ fun vs W1 s1 is => by
  obtain ⟨v, rfl, i2⟩ := iss1 is
  obtain rfl : v = .int (n : Int) := is_nat (show Is W1 v n from i2)
  refine ⟨(n : Int), rfl, by omega, by omega, ?_⟩
  rw [Int.toNat_natCast]
  refine for_range (lo := 0) (n := n) (D := { Dn with nx := tz Dn }) (fun i σ' H' => ∃ W', W'.H = H' ∧ Pv i σ' W') ⟨W1, rfl, h0 W1 s1⟩ (fun i σ' H' hi ⟨W', e, hp⟩ => ?_) fun σ' H' ⟨W', e, hp⟩ => ?_
  · subst e
    have e0 : (0 : Int) + (i : Int) = (i : Int) := Int.zero_add _
    show tu _ (σ'.set j (some (.int ((0 : Int) + (i : Int))))) W'.H
    rw [e0]
    exact hs i σ' W' hi hp
  · subst e
    exact hd σ' W' hp
/-- for x in range(lo, hi) -/
theorem r_forR2 {lo hi j : Nat} (d : W.Dom) (h : EvA T tA σ W [Enc.enc lo, Enc.enc hi]) (hz : lo ≤ 10000000 ∧ hi ≤ 10000000) (Pv : Nat → L2.St → Wo → Prop) (h0 : ∀ W1, Step T W W1 → Pv 0 σ W1)
    (hs : ∀ i σ' W', i < hi - lo → Pv i σ' W' → tu { nx := fun σ2 H2 => ∃ W2, W2.H = H2 ∧ Pv (i + 1) σ2 W2, rt := Dn.rt, bk := tz Dn, ct := fun σ2 H2 => ∃ W2, W2.H = H2 ∧ Pv (i + 1) σ2 W2 } (σ'.set j (some (.int ((lo + i : Nat) : Int)))) W'.H)
    (hd : ∀ σ' W', Pv (hi - lo) σ' W' → tz Dn σ' W'.H) : tSeq (tFor (iRng2 tA) (gName j) tu) tz Dn σ W.H := h W (.refl _) d _ fun vs W1 s1 is => by
  obtain ⟨v, u, rfl, i2, i3⟩ := iss2 is
  obtain rfl : v = .int (lo : Int) := is_nat (show Is W1 v lo from i2)
  obtain rfl : u = .int (hi : Int) := is_nat (show Is W1 u hi from i3)
  refine ⟨(lo : Int), (hi : Int), rfl, by omega, ?_⟩
  have en : ((hi : Int) - (lo : Int)).toNat = hi - lo := by omega
  rw [en]
  refine for_range (lo := (lo : Int)) (n := hi - lo) (D := { Dn with nx := tz Dn }) (fun i σ' H' => ∃ W', W'.H = H' ∧ Pv i σ' W') ⟨W1, rfl, h0 W1 s1⟩ (fun i σ' H' hi ⟨W', e, hp⟩ => ?_) fun σ' H' ⟨W', e, hp⟩ => ?_
  · subst e
    have e0 : (lo : Int) + (i : Int) = ((lo + i : Nat) : Int) := by omega
    show tu _ (σ'.set j (some (.int ((lo : Int) + (i : Int))))) W'.H
    rw [e0]
    exact hs i σ' W' hi hp
  · subst e
    exact hd σ' W' hp
/-- for x in a list; what is not avoided at the start stays -/
theorem r_forL {xs : List α} {j : Nat} (d : W.Dom) (h : Ev T tl σ W xs) (Pv : Nat → L2.St → Wo → Prop) (h0 : ∀ W1, Step T W W1 → Pv 0 σ W1)
    (hs : ∀ W1, Step T W W1 → ∀ i x u σ' W', xs[i]? = some x → Pv i σ' W' → Le T W1 W' → Is W' u x → tu { nx := fun σ2 H2 => ∃ W2, W2.H = H2 ∧ Le T W1 W2 ∧ Pv (i + 1) σ2 W2, rt := Dn.rt, bk := tz Dn, ct := fun σ2 H2 => ∃ W2, W2.H = H2 ∧ Le T W1 W2 ∧ Pv (i + 1) σ2 W2 } (σ'.set j (some u)) W'.H)
    (hd : ∀ σ' W', Pv xs.length σ' W' → Le T W W' → tz Dn σ' W'.H) : tSeq (tFor (iList K tl) (gName j) tu) tz Dn σ W.H := h W (.refl _) d _ fun v W1 s1 i1 => by
  obtain ⟨a, ws, rfl, ha, hl, is⟩ := is_lst i1
  have el := is.len
  rw [List.length_map] at el
  refine ⟨a, rfl, ⟨ws, SqL.of hl⟩, for_list (xs := ws) (D := { Dn with nx := tz Dn }) (fun i σ' H' => ∃ W', W'.H = H' ∧ Le T W1 W' ∧ Pv i σ' W') ⟨W1, rfl, .refl _, h0 W1 s1⟩ (fun i σ' H' _ ⟨W', e, le, _⟩ => ?_) (fun i v σ' H' hi ⟨W', e, le, hp⟩ => ?_) fun σ' H' ⟨W', e, le, hp⟩ => ?_⟩
  · subst e
    exact SqL.of (le.keep a _ ha hl fun _ z => by cases z)
  · subst e
    obtain ⟨x, hx, ix⟩ := iss_at is hi
    exact hs W1 s1 i x v σ' W' hx hp le (ix.mono le)
  · subst e
    rw [el] at hp
    exact hd σ' W' hp (s1.le.trans le)
/-- the same where nothing stands behind it -/
theorem r_forL' {xs : List α} {j : Nat} (d : W.Dom) (h : Ev T tl σ W xs) (Pv : Nat → L2.St → Wo → Prop) (h0 : ∀ W1, Step T W W1 → Pv 0 σ W1)
    (hs : ∀ W1, Step T W W1 → ∀ i x u σ' W', xs[i]? = some x → Pv i σ' W' → Le T W1 W' → Is W' u x → tu { nx := fun σ2 H2 => ∃ W2, W2.H = H2 ∧ Le T W1 W2 ∧ Pv (i + 1) σ2 W2, rt := Dn.rt, bk := Dn.nx, ct := fun σ2 H2 => ∃ W2, W2.H = H2 ∧ Le T W1 W2 ∧ Pv (i + 1) σ2 W2 } (σ'.set j (some u)) W'.H)
    (hd : ∀ σ' W', Pv xs.length σ' W' → Le T W W' → Dn.nx σ' W'.H) : tFor (iList K tl) (gName j) tu Dn σ W.H := r_forL (tz := tNext) (Dn := Dn) d h Pv h0 hs hd
/-- x += e -/
theorem r_aug {i a b : Nat} (d : W.Dom) (hx : σ[i]? = some (some (.int (a : Int)))) (h : Ev T te σ W b) (k : ∀ W1, Step T W W1 → Dn.nx (σ.set i (some (.int ((a + b : Nat) : Int)))) W1.H) : tAug i te (ipI fun i j => i + j) Dn σ W.H :=
  ⟨_, hx, h W (.refl _) d _ fun v W1 s1 i1 => by
    rw [is_nat i1]
    refine ⟨(a : Int), (b : Int), rfl, rfl, ?_⟩
    have e : (a : Int) + (b : Int) = ((a + b : Nat) : Int) := by omega
    show Dn.nx (σ.set i (some (.int ((a : Int) + (b : Int))))) W1.H
    rw [e]
    exact k W1 s1⟩
/-- x, y = [], e -/
theorem r_parNew {i j : Nat} {y : α} (d : W.Dom) (h : ∀ p H', Cw T W p ([] : List β) H' → Ev T te σ (wov W p H') y) (k : ∀ p v H2, Cw T W p ([] : List β) H2 → Is (wov W p H2) v y → tz Dn ((σ.set i (some (.ref p))).set j (some v)) H2) :
    tSeq (tPar i j (tCons (tLst tNil) (tCons te tNil))) tz Dn σ W.H := ⟨Nat.zero_le _, fun p hp => by
  have c : Cw T W p ([] : List β) (upd W.H p (.lst [])) := .start hp d
  refine h p _ c (wov W p _) (.refl _) c.dm _ fun v W2 s2 i2 => ?_
  have c2 := c.step s2
  have es : W2.S = p :: W.S := s2.s
  obtain ⟨S2, H2⟩ := W2
  cases es
  exact ⟨_, _, rfl, k p v H2 c2 i2⟩⟩
theorem r_forR' {n j : Nat} (d : W.Dom) (h : EvA T tA σ W [Enc.enc n]) (hz : n ≤ 10000000) (Pv : Nat → L2.St → Wo → Prop) (h0 : ∀ W1, Step T W W1 → Pv 0 σ W1)
    (hs : ∀ i σ' W', i < n → Pv i σ' W' → tu { nx := fun σ2 H2 => ∃ W2, W2.H = H2 ∧ Pv (i + 1) σ2 W2, rt := Dn.rt, bk := Dn.nx, ct := fun σ2 H2 => ∃ W2, W2.H = H2 ∧ Pv (i + 1) σ2 W2 } (σ'.set j (some (.int (i : Int)))) W'.H)
    (hd : ∀ σ' W', Pv n σ' W' → Dn.nx σ' W'.H) : tFor (iRng1 tA) (gName j) tu Dn σ W.H := r_forR (tz := tNext) (Dn := Dn) d h hz Pv h0 hs hd
end
/-- a world, as the program holds it -/
instance : Enc SC.Wd := ⟨fun w => match w with
  | .ranks l => Enc.enc l
  | .regions m => Enc.enc m
  | .two a b => Enc.enc (a, b)⟩
instance : Enc SC.Said := ⟨fun s => .tup [Enc.enc s.one, Enc.enc s.other, Enc.enc s.rel]⟩
end SD

/-! ## PA1 -/
set_option Elab.async false
set_option linter.all false
set_option maxRecDepth 100000
set_option maxHeartbeats 2000000
namespace PC
open PySem PySem.Spec PyProof.Rows L2 SD
section
variable {P : Program} {w : World} {K : PySem.W.Frag} {mg : Str → Option Value} {base : Heap} {T : List (Addr × Str)}
abbrev sp_raised (T : List (Addr × Str)) : Sp := sp2 T (fun (l : List Nat) (k : Nat) => l.length ≤ 100) SC.raised
abbrev sp_with_rank (T : List (Addr × Str)) : Sp := sp2 T (fun (l : List Nat) (k : Nat) => l.length ≤ 100) SC.withRank
abbrev sp_many_ranks (T : List (Addr × Str)) : Sp := sp1 T (fun (l : List Nat) => l.length ≤ 100) SC.manyRanks
abbrev sp_longer_orders (T : List (Addr × Str)) : Sp := sp1 T (fun (l : List Nat) => l.length ≤ 100 ∧ SC.manyRanks l ≤ 100) SC.longer
abbrev s_raised : Stmt := topS 5
theorem sc_raised : FnScope ["ranks", "least", "rank"] ["ranks", "least"] (defScope s_raised) := ⟨rfl, rfl, rfl, by decide +kernel, rfl, by decide +kernel, by decide +kernel⟩
theorem c_raised (F : Fn K mg "raised" s_raised ["ranks", "least"]) (X : Txt mg)  : Cal P w K mg base L2.CX0 1 "raised" (sp_raised T) := by
  refine F.cal sc_raised sp2_len fun f cdv A outer s H vs Q E hr h => ⟨_,
    (pss_one (ps_ret (pe_lc (own := [("rank", 2)]) (by rfl) sc_raised.nd (pi_list (pv 0)) (blkOk_by (own := [("rank", 2)]) (N := ["ranks", "least", "rank"]) (sc := defScope s_raised) (by decide +kernel)) (fun _ _ _ _ _ => pg_name (i := 2) sc_raised.nd rfl (Or.inl rfl)) (fun _ _ _ _ _ => pts_nil) (fun _ _ _ _ _ => (pe_ifExp (pt_cmpR op_ge (pv 2) (pv 1) (nomark _)) (pe_op op_add (pv 2) pe_int) (pv 2)))))),
    sp2_go (fun W v1 v2 a1 a2 d i1 i2 hp Q k => ?_) h⟩
  exact r_ret d (ev_map (fun x => if decide (a2 ≤ x) = true then x + 1 else x) (ev_var rfl i1) (by omega) (fun _ => rfl) fun x hx v' W1 e i3 => ev_if (et_test (ev_ge (ev_var rfl i3) (ev_var rfl (i2.mono e)))) (fun _ => ev_add (ev_var rfl i3) (ev_cn 1 rfl)) fun _ => ev_var rfl i3) fun u W2 s i => k u W2 s (by simpa [SC.raised] using i)
abbrev s_with_rank : Stmt := topS 6
theorem sc_with_rank : FnScope ["ranks", "place"] ["ranks", "place"] (defScope s_with_rank) := ⟨rfl, rfl, rfl, by decide +kernel, rfl, by decide +kernel, by decide +kernel⟩
theorem c_with_rank (F : Fn K mg "with_rank" s_with_rank ["ranks", "place"]) (X : Txt mg) (C_raised : Cal P w K mg base L2.CX0 1 "raised" (sp_raised T)) : Cal P w K mg base L2.CX0 2 "with_rank" (sp_with_rank T) := by
  refine F.cal sc_with_rank sp2_len fun f cdv A outer s H vs Q E hr h => ⟨_,
    (pss_cons (ps_if (pt_cmpR op_eq (pe_op op_mod (pv 1) pe_int) pe_int (nomark _)) (pss_one (ps_ret (pe_op op_cat (pv 0) (pe_lst (pa_cons (pe_op op_fdiv (pv 1) pe_int) pa_nil))))) pss_nil)
      (pss_one (ps_ret (pe_op op_cat (pe_c C_raised hr (pa_cons (pv 0) (pa_cons (pe_op op_fdiv (pv 1) pe_int) pa_nil))) (pe_lst (pa_cons (pe_op op_fdiv (pv 1) pe_int) pa_nil)))))),
    sp2_go (fun W v1 v2 a1 a2 d i1 i2 hp Q k => ?_) h⟩
  have hdiv : ∀ {W'}, Step T W W' → EvA T (tCons (tOp (rI CDiv fun i j => .int (i / j)) (tVar 1) (tC (.int 2))) tNil) (start ["ranks", "place"] [v1, v2]) W' [Enc.enc (a2 / 2)] := fun s1 => ea_cons (ev_div (ev_var rfl (i2.step s1)) (ev_cn 2 rfl) (by decide)) ea_nil
  refine r_when (T := T) d (et_test (ev_eq (ev_mod (ev_var rfl i2) (ev_cn 2 rfl) (by decide)) (ev_cn 1 rfl))) (fun hb W1 s1 => ?_) fun hb W1 s1 => ?_
  · refine r_ret (d.step s1) (ev_cat (ev_var rfl (i1.step s1)) (ev_lst (l := [a2 / 2]) (hdiv s1) (by simp)) (by simp; omega)) fun u W2 s2 i => k u W2 (s1.trans s2) ?_
    have : a2 % 2 = 1 := of_decide_eq_true hb
    simpa [SC.withRank, this] using i
  · refine r_ret (d.step s1) (ev_cat (ev_call2 (ea_cons (ev_var rfl (i1.step s1)) (hdiv s1)) (by omega)) (ev_lst (l := [a2 / 2]) (hdiv s1) (by simp)) (by simp [SC.raised_length]; omega)) fun u W2 s2 i => k u W2 (s1.trans s2) ?_
    have : ¬ a2 % 2 = 1 := of_decide_eq_false hb
    simpa [SC.withRank, this] using i
abbrev s_many_ranks : Stmt := topS 7
theorem sc_many_ranks : FnScope ["ranks"] ["ranks"] (defScope s_many_ranks) := ⟨rfl, rfl, rfl, by decide +kernel, rfl, by decide +kernel, by decide +kernel⟩
theorem c_many_ranks (F : Fn K mg "many_ranks" s_many_ranks ["ranks"]) (X : Txt mg)  : Cal P w K mg base L2.CX0 1 "many_ranks" (sp_many_ranks T) := by
  refine F.cal sc_many_ranks sp1_len fun f cdv A outer s H vs Q E hr h => ⟨_,
    (pss_one (ps_ret (pe_op op_add (pe_callBK (RS.cr_maxD (hu_of hr) rfl) (by rfl) X.max (by decide +kernel) (pa_cons (pv 0) pa_nil) (pk_cons (pe_un un_neg pe_int) pk_nil)) pe_int))),
    sp1_go (fun W v1 a1 d i1 hp Q k => ?_) h⟩
  exact r_ret d (RS.ev_many (ev_var rfl i1)) k
abbrev s_longer_orders : Stmt := topS 8
theorem sc_longer_orders : FnScope ["ranks", "place"] ["ranks"] (defScope s_longer_orders) := ⟨rfl, rfl, rfl, by decide +kernel, rfl, by decide +kernel, by decide +kernel⟩
theorem c_longer_orders (F : Fn K mg "longer_orders" s_longer_orders ["ranks"]) (X : Txt mg) (C_with_rank : Cal P w K mg base L2.CX0 2 "with_rank" (sp_with_rank T)) (C_many_ranks : Cal P w K mg base L2.CX0 1 "many_ranks" (sp_many_ranks T)) : Cal P w K mg base L2.CX0 3 "longer_orders" (sp_longer_orders T) := by
  refine F.cal sc_longer_orders sp1_len fun f cdv A outer s H vs Q E hr h => ⟨_,
    (pss_one (ps_ret (pe_lc (own := [("place", 1)]) (by rfl) sc_longer_orders.nd (pi_range1 (by rfl) X.range (pa_cons (pe_op op_add (pe_op op_mul pe_int (pe_c C_many_ranks hr (pa_cons (pv 0) pa_nil))) pe_int) pa_nil)) (blkOk_by (own := [("place", 1)]) (N := ["ranks", "place"]) (sc := defScope s_longer_orders) (by decide +kernel)) (fun _ _ _ _ _ => pg_name (i := 1) sc_longer_orders.nd rfl (Or.inl rfl)) (fun _ _ _ _ _ => pts_nil) (fun _ _ _ _ _ => (pe_c C_with_rank hr (pa_cons (pv 0) (pa_cons (pv 1) pa_nil))))))),
    sp1_go (fun W v1 a1 d i1 hp Q k => ?_) h⟩
  refine r_ret d (ev_mapR (SC.withRank a1) (n := 2 * SC.manyRanks a1 + 1) (ea_cons (ev_add (ev_mul (ev_cn 2 rfl) (ev_call1 (ea_cons (ev_var rfl i1) ea_nil) hp.1) (by decide)) (ev_cn 1 rfl)) ea_nil) (by omega) (fun _ => rfl) fun x hx W1 e => ev_call2 (ea_cons (ev_var rfl (i1.mono e)) (ea_cons (ev_var rfl (nat_is rfl)) ea_nil)) hp.1) k
end
end PC

/-! ## PA2 -/
set_option Elab.async false
set_option linter.all false
set_option maxRecDepth 100000
set_option maxHeartbeats 2000000
namespace PC
open PySem PySem.Spec PyProof.Rows L2 SD
section
variable {P : Program} {w : World} {K : PySem.W.Frag} {mg : Str → Option Value} {base : Heap} {T : List (Addr × Str)}
abbrev sp_orders (T : List (Addr × Str)) : Sp := sp1 T (fun n : Nat => n ≤ 4) SC.orders
abbrev sp_with_interval (T : List (Addr × Str)) : Sp := sp1 T (fun (l : List Nat) => l.length ≤ 20 ∧ SC.manyRanks l ≤ 20) SC.withInterval
abbrev sp_interval_orders (T : List (Addr × Str)) : Sp := sp1 T (fun n : Nat => n ≤ 4) SC.intervalOrders
theorem list5 {α : Type} {l : List α} (h : l.length = 5) : ∃ a b c d e, l = [a, b, c, d, e] := by
  match l, h with
  | [a, b, c, d, e], _ => exact ⟨a, b, c, d, e, rfl⟩
abbrev s_orders : Stmt := topS 9
theorem sc_orders : FnScope ["many", "found", "number", "longer", "ranks"] ["many"] (defScope s_orders) := ⟨rfl, rfl, rfl, by decide +kernel, rfl, by decide +kernel, by decide +kernel⟩
theorem c_orders (F : Fn K mg "orders" s_orders ["many"]) (X : Txt mg) (C_longer_orders : Cal P w K mg base L2.CX0 3 "longer_orders" (sp_longer_orders T)) : Cal P w K mg base L2.CX0 4 "orders" (sp_orders T) := by
  refine F.cal sc_orders sp1_len fun f cdv A outer s H vs Q E hr h => ⟨_,
    (pss_cons (ps_set (i := 1) sc_orders.nd rfl (Or.inl rfl) (pe_lst (pa_cons (pe_lst pa_nil) pa_nil)))
      (pss_cons (ps_for PassesOwn.never rfl (pi_range1 (by rfl) X.range (pa_cons (pv 0) pa_nil)) (pg_name (i := 2) sc_orders.nd rfl (Or.inl rfl)) (pss_cons (ps_set (i := 3) sc_orders.nd rfl (Or.inl rfl) (pe_lst pa_nil))
      (pss_cons (ps_for PassesOwn.never rfl (pi_list (pv 1)) (pg_name (i := 4) sc_orders.nd rfl (Or.inl rfl)) (pss_one (ps_expr (pe_bm PySem.F.plainAttrs_list PySem.F.slot_list_extend PySem.F.type_list_extend mt_extend (pv 3) (pa_cons (pe_c C_longer_orders hr (pa_cons (pv 4) pa_nil)) pa_nil)))))
      (pss_one (ps_set (i := 1) sc_orders.nd rfl (Or.inl rfl) (pv 3))))))
      (pss_one (ps_ret (pv 1))))),
    sp1_go (fun W v1 a1 d i1 hp Q k => ?_) h⟩
  have h0 : Ev T (tLst (tCons (tLst tNil) tNil)) (start ["many", "found", "number", "longer", "ranks"] [v1]) W (SC.orders 0) := ev_lst (l := [[]]) (ea_cons (ev_lst (l := ([] : List Nat)) ea_nil (by simp)) ea_nil) (by simp)
  refine r_asg d h0 fun u W1 s1 j1 => ?_
  have d1 := d.step s1
  refine r_forR d1 (ea_cons (ev_var rfl (i1.step s1)) ea_nil) (by omega) (fun i σ' W' => Step T W W' ∧ ∃ v x y z, σ' = [some v1, some v, x, y, z] ∧ Is W' v (SC.orders i)) (fun W2 s2 => ⟨s1.trans s2, u, none, none, none, rfl, j1.step s2⟩) (fun i σ' W' hi ⟨s2, v, x, y, z, e, iv⟩ => ?_) fun σ' W' ⟨s2, v, x, y, z, e, iv⟩ => ?_
  · subst e
    have d2 := d.step s2
    have hb := SC.orders_small (n := i + 1) (by omega)
    have hb0 := SC.orders_small (n := i) (by omega)
    refine r_new (β := List Nat) (T := T) d2 fun p c => ?_
    refine r_forL (W := wov W' p _) (T := T) c.dm (ev_var rfl (iv.mono c.le)) (fun j σ2 W2 => ∃ H2 x z, W2 = wov W' p H2 ∧ σ2 = [some v1, some v, x, some (.ref p), z] ∧ Cw T W' p (((SC.orders i).take j).flatMap SC.longer) H2) (fun W3 s3 => ?_) (fun W3 s3 j l u2 σ2 W2 hj ⟨H2, x2, z2, e1, e2, c2⟩ le iu => ?_) fun σ2 W2 ⟨H2, x2, z2, e1, e2, c2⟩ le => ?_
    · refine ⟨W3.H, _, _, ?_, rfl, c.step s3⟩
      obtain ⟨S3, H3⟩ := W3
      have es : S3 = p :: W'.S := s3.s
      subst es
      rfl
    · subst e1 e2
      have hl : l ∈ SC.orders i := List.mem_of_getElem? hj
      have hlen := SC.orders_length hl
      have hm := SC.orders_many hl
      have ht := SC.flat_take SC.longer (SC.orders i) (j + 1)
      have e3 : ((SC.orders i).take (j + 1)).flatMap SC.longer = ((SC.orders i).take j).flatMap SC.longer ++ SC.longer l := by rw [take_succ_of hj, List.flatMap_append]; simp
      refine r_extend c2 rfl (ev_call1 (ea_cons (ev_var rfl iu) ea_nil) (by omega)) ?_ fun H3 le3 c3 => ⟨wov W' p H3, rfl, le.trans le3, H3, _, _, rfl, rfl, ?_⟩
      · rw [e3, List.length_append] at ht
        have : (SC.orders (i + 1)).length = ((SC.orders i).flatMap SC.longer).length := rfl
        omega
      · rw [e3]; exact c3
    · subst e1 e2
      rw [List.take_length] at c2
      obtain ⟨s4, i4⟩ := c2.end
      exact r_asg' (W := ⟨W'.S, H2⟩) (T := T) (d2.step s4) (ev_var rfl i4) fun u W5 s5 i5 => ⟨W5, rfl, (s2.trans s4).trans s5, u, _, _, _, rfl, i5⟩
  · subst e
    exact r_ret (d.step s2) (ev_var rfl iv) fun u W3 s3 i3 => k u W3 (s2.trans s3) i3
theorem getD_at {l : List Nat} {i : Nat} (h : i < l.length) : l[i]? = some (l.getD i 0) := by
  rw [List.getElem?_eq_getElem h, List.getD_eq_getElem?_getD, List.getElem?_eq_getElem h]
  rfl
abbrev s_with_interval : Stmt := topS 10
theorem sc_with_interval : FnScope ["ranks", "found", "first", "second"] ["ranks"] (defScope s_with_interval) := ⟨rfl, rfl, rfl, by decide +kernel, rfl, by decide +kernel, by decide +kernel⟩
theorem c_with_interval (F : Fn K mg "with_interval" s_with_interval ["ranks"]) (X : Txt mg) (C_longer_orders : Cal P w K mg base L2.CX0 3 "longer_orders" (sp_longer_orders T)) : Cal P w K mg base L2.CX0 4 "with_interval" (sp_with_interval T) := by
  refine F.cal sc_with_interval sp1_len fun f cdv A outer s H vs Q E hr h => ⟨_,
    (pss_cons (ps_set (i := 1) sc_with_interval.nd rfl (Or.inl rfl) (pe_lst pa_nil))
      (pss_cons (ps_for PassesOwn.never rfl (pi_list (pe_c C_longer_orders hr (pa_cons (pv 0) pa_nil))) (pg_name (i := 2) sc_with_interval.nd rfl (Or.inl rfl)) (pss_one (ps_for PassesOwn.never rfl (pi_list (pe_c C_longer_orders hr (pa_cons (pv 2) pa_nil))) (pg_name (i := 3) sc_with_interval.nd rfl (Or.inl rfl)) (pss_one (ps_if (pt_cmpR op_gt (pe_ix ix_list (pv 3) (pe_op op_sub (pe_callB (call_len_seq) (by rfl) X.len (by decide +kernel) (pa_cons (pv 3) pa_nil)) pe_int) (fun _ _ => rfl)) (pe_ix ix_list (pv 3) (pe_op op_sub (pe_callB (call_len_seq) (by rfl) X.len (by decide +kernel) (pa_cons (pv 3) pa_nil)) pe_int) (fun _ _ => rfl)) (nomark _)) (pss_one (ps_expr (pe_bm PySem.F.plainAttrs_list PySem.F.slot_list_append PySem.F.type_list_append mt_append (pv 1) (pa_cons (pv 3) pa_nil)))) pss_nil)))))
      (pss_one (ps_ret (pv 1))))),
    sp1_go (fun W v1 a1 d i1 hp Q k => ?_) h⟩
  refine r_new (β := List Nat) (T := T) d fun p c => ?_
  have hlen : (SC.withInterval a1).length ≤ 2000 := Nat.le_trans (SC.withInterval_len hp.2) (by decide)
  refine r_forL (W := wov W p _) (T := T) c.dm (ev_call1 (ea_cons (ev_var rfl (i1.mono c.le)) ea_nil) (by omega)) (fun j σ2 W2 => ∃ H2 x z, W2 = wov W p H2 ∧ σ2 = [some v1, some (.ref p), x, z] ∧ Cw T W p (((SC.longer a1).take j).flatMap fun f => (SC.longer f).filter SC.isUp) H2) (fun W3 s3 => ?_) (fun W3 s3 j f u2 σ2 W2 hj ⟨H2, x2, z2, e1, e2, c2⟩ le iu => ?_) fun σ2 W2 ⟨H2, x2, z2, e1, e2, c2⟩ le => ?_
  · refine ⟨W3.H, _, _, ?_, rfl, c.step s3⟩
    obtain ⟨S3, H3⟩ := W3
    have es : S3 = p :: W.S := s3.s
    subst es
    rfl
  · subst e1 e2
    have hf := List.mem_of_getElem? hj
    obtain ⟨pl, hpl, rfl⟩ := SC.mem_longer.mp hf
    have hm := SC.many_withRank hpl
    have hfl := SC.withRank_length a1 pl
    have ht := SC.flat_take (fun f => (SC.longer f).filter SC.isUp) (SC.longer a1) (j + 1)
    have e3 : ((SC.longer a1).take (j + 1)).flatMap (fun f => (SC.longer f).filter SC.isUp) = ((SC.longer a1).take j).flatMap (fun f => (SC.longer f).filter SC.isUp) ++ (SC.longer (SC.withRank a1 pl)).filter SC.isUp := by rw [take_succ_of hj, List.flatMap_append]; simp
    rw [e3, List.length_append] at ht
    have ht2 : ((SC.longer a1).flatMap fun f => (SC.longer f).filter SC.isUp).length ≤ 2000 := hlen
    refine r_forL' (W := wov W p H2) (T := T) c2.dm (ev_call1 (ea_cons (ev_var rfl iu) ea_nil) (by omega)) (fun m σ4 W4 => ∃ H4 z, W4 = wov W p H4 ∧ σ4 = [some v1, some (.ref p), some u2, z] ∧ Cw T W p (((SC.longer a1).take j).flatMap (fun f => (SC.longer f).filter SC.isUp) ++ ((SC.longer (SC.withRank a1 pl)).take m).filter SC.isUp) H4) (fun W4 s4 => ?_) (fun W4 s4 m x u5 σ5 W5 hx ⟨H5, z5, e1, e2, c5⟩ le5 iu5 => ?_) fun σ5 W5 ⟨H5, z5, e1, e2, c5⟩ le5 => ?_
    · refine ⟨W4.H, _, ?_, rfl, ?_⟩
      · obtain ⟨S4, H4⟩ := W4
        have es : S4 = p :: W.S := s4.s
        subst es
        rfl
      · simpa using c2.step s4
    · subst e1 e2
      have hxm := List.mem_of_getElem? hx
      obtain ⟨q, hq, rfl⟩ := SC.mem_longer.mp hxm
      have hxl := SC.withRank_length (SC.withRank a1 pl) q
      generalize hs : SC.withRank (SC.withRank a1 pl) q = sec at *
      have hft : (((SC.longer (SC.withRank a1 pl)).take m).filter SC.isUp).length ≤ ((SC.longer (SC.withRank a1 pl)).filter SC.isUp).length := by
        conv => rhs; rw [← List.take_append_drop m (SC.longer (SC.withRank a1 pl)), List.filter_append, List.length_append]
        omega
      have hix : ∀ (n : Nat), 1 ≤ n → n ≤ sec.length → Ev T (tOp (rIxL K) (tVar 3) (tOp (rI0 fun i j => .int (i - j)) (tCB (rLenQ K) (tCons (tVar 3) tNil)) (tC (.int (n : Int))))) [some v1, some (.ref p), some u2, some u5] (wov W p H5) (sec.getD (sec.length - n) 0) := fun n h1 h2 =>
        ev_ixL (ev_var rfl iu5) (ev_sub (ev_len (ev_var rfl iu5)) (ev_cn n rfl) h2) (getD_at (by omega))
      refine r_if (W := wov W p H5) (T := T) c5.dm (et_test (ev_gt (hix 1 (by omega) (by omega)) (hix 2 (by omega) (by omega)))) (fun hb W6 s6 => ?_) fun hb W6 s6 => ?_
      · have c6 := c5.step s6
        have es : W6.S = p :: W.S := s6.s
        have le6 := s6.le
        obtain ⟨S6, H6⟩ := W6
        subst es
        refine r_append c6 rfl (ev_var rfl (iu5.mono le6)) (by rw [List.length_append]; omega) fun H7 le7 c7 => ⟨wov W p H7, rfl, (le5.trans le6).trans le7, H7, _, rfl, rfl, ?_⟩
        rw [take_succ_of hx, List.filter_append]
        have : [sec].filter SC.isUp = [sec] := List.filter_cons_of_pos hb
        rw [this, ← List.append_assoc]
        exact c7
      · have c6 := c5.step s6
        have es : W6.S = p :: W.S := s6.s
        have le6 := s6.le
        obtain ⟨S6, H6⟩ := W6
        subst es
        refine ⟨wov W p H6, rfl, le5.trans le6, H6, _, rfl, rfl, ?_⟩
        rw [take_succ_of hx, List.filter_append]
        have : [sec].filter SC.isUp = [] := by rw [List.filter_cons_of_neg (by rw [show SC.isUp sec = false from hb]; decide)]; rfl
        rw [this, List.append_nil]
        exact c6
    · subst e1 e2
      rw [List.take_length] at c5
      refine ⟨wov W p H5, rfl, le.trans le5, H5, _, _, rfl, rfl, ?_⟩
      rw [e3]
      exact c5
  · subst e1 e2
    rw [List.take_length] at c2
    obtain ⟨s4, i4⟩ := c2.end
    exact r_ret (W := ⟨W.S, H2⟩) (T := T) (d.step s4) (ev_var rfl i4) fun u W5 s5 i5 => k u W5 (s4.trans s5) i5
abbrev s_interval_orders : Stmt := topS 11
theorem sc_interval_orders : FnScope ["many", "found", "number", "longer", "ranks"] ["many"] (defScope s_interval_orders) := ⟨rfl, rfl, rfl, by decide +kernel, rfl, by decide +kernel, by decide +kernel⟩
theorem c_interval_orders (F : Fn K mg "interval_orders" s_interval_orders ["many"]) (X : Txt mg) (C_with_interval : Cal P w K mg base L2.CX0 4 "with_interval" (sp_with_interval T)) : Cal P w K mg base L2.CX0 5 "interval_orders" (sp_interval_orders T) := by
  refine F.cal sc_interval_orders sp1_len fun f cdv A outer s H vs Q E hr h => ⟨_,
    (pss_cons (ps_set (i := 1) sc_interval_orders.nd rfl (Or.inl rfl) (pe_lst (pa_cons (pe_lst pa_nil) pa_nil)))
      (pss_cons (ps_for PassesOwn.never rfl (pi_range1 (by rfl) X.range (pa_cons (pv 0) pa_nil)) (pg_name (i := 2) sc_interval_orders.nd rfl (Or.inl rfl)) (pss_cons (ps_set (i := 3) sc_interval_orders.nd rfl (Or.inl rfl) (pe_lst pa_nil))
      (pss_cons (ps_for PassesOwn.never rfl (pi_list (pv 1)) (pg_name (i := 4) sc_interval_orders.nd rfl (Or.inl rfl)) (pss_one (ps_expr (pe_bm PySem.F.plainAttrs_list PySem.F.slot_list_extend PySem.F.type_list_extend mt_extend (pv 3) (pa_cons (pe_c C_with_interval hr (pa_cons (pv 4) pa_nil)) pa_nil)))))
      (pss_one (ps_set (i := 1) sc_interval_orders.nd rfl (Or.inl rfl) (pv 3))))))
      (pss_one (ps_ret (pv 1))))),
    sp1_go (fun W v1 a1 d i1 hp Q k => ?_) h⟩
  have h0 : Ev T (tLst (tCons (tLst tNil) tNil)) (start ["many", "found", "number", "longer", "ranks"] [v1]) W (SC.intervalOrders 0) := ev_lst (l := [[]]) (ea_cons (ev_lst (l := ([] : List Nat)) ea_nil (by simp)) ea_nil) (by simp)
  refine r_asg d h0 fun u W1 s1 j1 => ?_
  have d1 := d.step s1
  refine r_forR d1 (ea_cons (ev_var rfl (i1.step s1)) ea_nil) (by omega) (fun i σ' W' => Step T W W' ∧ ∃ v x y z, σ' = [some v1, some v, x, y, z] ∧ Is W' v (SC.intervalOrders i)) (fun W2 s2 => ⟨s1.trans s2, u, none, none, none, rfl, j1.step s2⟩) (fun i σ' W' hi ⟨s2, v, x, y, z, e, iv⟩ => ?_) fun σ' W' ⟨s2, v, x, y, z, e, iv⟩ => ?_
  · subst e
    have d2 := d.step s2
    have hb := SC.intervals_small (n := i + 1) (by omega)
    have hb0 := SC.intervals_small (n := i) (by omega)
    refine r_new (β := List Nat) (T := T) d2 fun p c => ?_
    refine r_forL (W := wov W' p _) (T := T) c.dm (ev_var rfl (iv.mono c.le)) (fun j σ2 W2 => ∃ H2 x z, W2 = wov W' p H2 ∧ σ2 = [some v1, some v, x, some (.ref p), z] ∧ Cw T W' p (((SC.intervalOrders i).take j).flatMap SC.withInterval) H2) (fun W3 s3 => ?_) (fun W3 s3 j l u2 σ2 W2 hj ⟨H2, x2, z2, e1, e2, c2⟩ le iu => ?_) fun σ2 W2 ⟨H2, x2, z2, e1, e2, c2⟩ le => ?_
    · refine ⟨W3.H, _, _, ?_, rfl, c.step s3⟩
      obtain ⟨S3, H3⟩ := W3
      have es : S3 = p :: W'.S := s3.s
      subst es
      rfl
    · subst e1 e2
      have hl : l ∈ SC.intervalOrders i := List.mem_of_getElem? hj
      have hlen := (SC.intervals_is hl).1
      have hm := SC.intervals_many hl
      have ht := SC.flat_take SC.withInterval (SC.intervalOrders i) (j + 1)
      have e3 : ((SC.intervalOrders i).take (j + 1)).flatMap SC.withInterval = ((SC.intervalOrders i).take j).flatMap SC.withInterval ++ SC.withInterval l := by rw [take_succ_of hj, List.flatMap_append]; simp
      refine r_extend c2 rfl (ev_call1 (ea_cons (ev_var rfl iu) ea_nil) (by omega)) ?_ fun H3 le3 c3 => ⟨wov W' p H3, rfl, le.trans le3, H3, _, _, rfl, rfl, ?_⟩
      · rw [e3, List.length_append] at ht
        have : (SC.intervalOrders (i + 1)).length = ((SC.intervalOrders i).flatMap SC.withInterval).length := rfl
        omega
      · rw [e3]; exact c3
    · subst e1 e2
      rw [List.take_length] at c2
      obtain ⟨s4, i4⟩ := c2.end
      exact r_asg' (W := ⟨W'.S, H2⟩) (T := T) (d2.step s4) (ev_var rfl i4) fun u W5 s5 i5 => ⟨W5, rfl, (s2.trans s4).trans s5, u, _, _, _, rfl, i5⟩
  · subst e
    exact r_ret (d.step s2) (ev_var rfl iv) fun u W3 s3 i3 => k u W3 (s2.trans s3) i3
end
end PC

/-! ## PA3 -/
set_option Elab.async false
set_option linter.all false
set_option maxRecDepth 100000
set_option maxHeartbeats 2000000
namespace PC
open PySem PySem.Spec PyProof.Rows L2 SD
section
variable {P : Program} {w : World} {K : PySem.W.Frag} {mg : Str → Option Value} {base : Heap} {T : List (Addr × Str)}
abbrev sp_holders (T : List (Addr × Str)) : Sp := sp2 T (fun n i : Nat => n ≤ 4) SC.holders
abbrev sp_venn (T : List (Addr × Str)) : Sp := sp1 T (fun n : Nat => n ≤ 4) SC.venn
abbrev sp_worlds (T : List (Addr × Str)) : Sp := sp2 T (fun k n : Nat => n ≤ 4) SC.worlds
theorem pow_le16 {n : Nat} (h : n ≤ 4) : 2 ^ n ≤ 16 := Nat.le_trans (Nat.pow_le_pow_right (by decide) h) (by decide : 2 ^ 4 ≤ 16)
abbrev s_holders : Stmt := topS 12
theorem sc_holders : FnScope ["many", "one", "found", "region"] ["many", "one"] (defScope s_holders) := ⟨rfl, rfl, rfl, by decide +kernel, rfl, by decide +kernel, by decide +kernel⟩
theorem c_holders (F : Fn K mg "holders" s_holders ["many", "one"]) (X : Txt mg)  : Cal P w K mg base L2.CX0 1 "holders" (sp_holders T) := by
  refine F.cal sc_holders sp2_len fun f cdv A outer s H vs Q E hr h => ⟨_,
    (pss_cons (ps_set (i := 2) sc_holders.nd rfl (Or.inl rfl) pe_int)
      (pss_cons (ps_for PassesOwn.never rfl (pi_range2 (by rfl) X.range (pa_cons pe_int (pa_cons (pe_op op_shl pe_int (pv 0)) pa_nil))) (pg_name (i := 3) sc_holders.nd rfl (Or.inl rfl)) (pss_one (ps_if (pt_cmpR op_eq (pe_op op_mod (pe_op op_shr (pv 3) (pv 1)) pe_int) pe_int (nomark _)) (pss_one (ps_aug (i := 2) sc_holders.nd rfl (Or.inl rfl) (pe_op op_shl pe_int (pv 3)) ip_add)) pss_nil)))
      (pss_one (ps_ret (pv 2))))),
    sp2_go (fun W v1 v2 a1 a2 d i1 i2 hp Q k => ?_) h⟩
  have h16 := pow_le16 hp
  refine r_asg (T := T) d (ev_cn 0 rfl) fun u W1 s1 j1 => ?_
  rw [is_nat j1]
  have d1 := d.step s1
  refine r_forR2 (lo := 1) (hi := 2 ^ a1) d1 (ea_cons (ev_cn 1 rfl) (ea_cons ((ev_shl (ev_cn 1 rfl) (ev_var rfl (i1.step s1)) ⟨by omega, by decide⟩).is (by omega)) ea_nil)) (by omega) (fun i σ' W' => Step T W W' ∧ ∃ x, σ' = [some v1, some v2, some (.int (((List.range' 1 i).foldl (fun a r => if r / 2 ^ a2 % 2 = 1 then a + 2 ^ r else a) 0 : Nat) : Int)), x]) (fun W2 s2 => ⟨s1.trans s2, none, rfl⟩) (fun i σ' W' hi ⟨s2, x, e⟩ => ?_) fun σ' W' ⟨s2, x, e⟩ => ?_
  · subst e
    have d2 := d.step s2
    have er : (List.range' 1 (i + 1)).foldl (fun a r => if r / 2 ^ a2 % 2 = 1 then a + 2 ^ r else a) 0 = if (1 + i) / 2 ^ a2 % 2 = 1 then (List.range' 1 i).foldl (fun a r => if r / 2 ^ a2 % 2 = 1 then a + 2 ^ r else a) 0 + 2 ^ (1 + i) else (List.range' 1 i).foldl (fun a r => if r / 2 ^ a2 % 2 = 1 then a + 2 ^ r else a) 0 := by
      rw [List.range'_1_concat, List.foldl_append]; rfl
    refine r_if (T := T) d2 (et_test (ev_eq (ev_mod (ev_shr (ev_var rfl (nat_is (n := 1 + i) rfl)) (ev_var rfl (i2.step s2))) (ev_cn 2 rfl) (by decide)) (ev_cn 1 rfl))) (fun hb W3 s3 => ?_) fun hb W3 s3 => ?_
    · have hc : (1 + i) / 2 ^ a2 % 2 = 1 := of_decide_eq_true hb
      rw [if_pos hc] at er
      refine r_aug (T := T) (d2.step s3) rfl ((ev_shl (ev_cn 1 rfl) (ev_var rfl (nat_is (n := 1 + i) rfl)) ⟨by omega, by decide⟩).is (Nat.one_mul _)) fun W4 s4 => ⟨W4, rfl, (s2.trans s3).trans s4, some (.int ((1 + i : Nat) : Int)), ?_⟩
      rw [er]
      rfl
    · have hc : ¬ (1 + i) / 2 ^ a2 % 2 = 1 := of_decide_eq_false hb
      rw [if_neg hc] at er
      exact ⟨W3, rfl, s2.trans s3, some (.int ((1 + i : Nat) : Int)), by rw [er]; rfl⟩
  · subst e
    exact r_ret (T := T) (d.step s2) (ev_var rfl (nat_is rfl)) fun u W3 s3 i3 => k u W3 (s2.trans s3) i3
abbrev s_venn : Stmt := topS 13
theorem sc_venn : FnScope ["many", "found", "within", "half", "one", "regions"] ["many"] (defScope s_venn) := ⟨rfl, rfl, rfl, by decide +kernel, rfl, by decide +kernel, by decide +kernel⟩
theorem c_venn (F : Fn K mg "venn" s_venn ["many"]) (X : Txt mg) (C_holders : Cal P w K mg base L2.CX0 1 "holders" (sp_holders T)) : Cal P w K mg base L2.CX0 2 "venn" (sp_venn T) := by
  refine F.cal sc_venn sp1_len fun f cdv A outer s H vs Q E hr h => ⟨_,
    (pss_cons (ps_par (i := 1) (j := 2) (by rfl) sc_venn.nd rfl rfl (by decide) rfl rfl (pa_cons (pe_lst pa_nil) (pa_cons (pe_lc (own := [("one", 4)]) (by rfl) sc_venn.nd (pi_range1 (by rfl) X.range (pa_cons (pv 0) pa_nil)) (blkOk_by (own := [("one", 4)]) (N := ["many", "found", "within", "half", "one", "regions"]) (sc := defScope s_venn) (by decide +kernel)) (fun _ _ _ _ _ => pg_name (i := 4) sc_venn.nd rfl (Or.inl rfl)) (fun _ _ _ _ _ => pts_nil) (fun _ _ _ _ _ => (pe_c C_holders hr (pa_cons (pv 0) (pa_cons (pv 4) pa_nil))))) pa_nil)) (by rfl))
      (pss_cons (ps_for PassesOwn.never rfl (pi_range1 (by rfl) X.range (pa_cons (pe_op op_shl pe_int (pe_op op_sub (pe_op op_shl pe_int (pv 0)) pe_int)) pa_nil)) (pg_name (i := 3) sc_venn.nd rfl (Or.inr rfl)) (pss_one (ps_if (pt_val (pe_callB (cr_all rfl) (by rfl) X.all (by decide +kernel) (pa_cons (pe_lc (own := [("regions", 5)]) (by rfl) sc_venn.nd (pi_list (pv 2)) (blkOk_by (own := [("regions", 5)]) (N := ["many", "found", "within", "half", "one", "regions"]) (sc := defScope s_venn) (by decide +kernel)) (fun _ _ _ _ _ => pg_name (i := 5) sc_venn.nd rfl (Or.inl rfl)) (fun _ _ _ _ _ => pts_nil) (fun _ _ _ _ _ => (pe_cmpR op_ne (pe_op op_and (pe_op op_mul pe_int (pv 3)) (pv 5)) pe_int (nomark _)))) pa_nil))) (pss_one (ps_expr (pe_bm PySem.F.plainAttrs_list PySem.F.slot_list_append PySem.F.type_list_append mt_append (pv 1) (pa_cons (pe_op op_mul pe_int (pv 3)) pa_nil)))) pss_nil)))
      (pss_one (ps_ret (pv 1))))),
    sp1_go (fun W v1 a1 d i1 hp Q k => ?_) h⟩
  have hpos : 0 < 2 ^ a1 := Nat.pow_pos (by decide)
  have h16 := pow_le16 hp
  have h15 : 2 ^ (2 ^ a1 - 1) ≤ 2 ^ 15 := Nat.pow_le_pow_right (by decide) (by omega)
  refine r_parNew (β := Nat) (T := T) d (fun p H' c => ev_mapR (SC.holders a1) (ea_cons (ev_var rfl (i1.mono c.le)) ea_nil) (by omega) (fun _ => rfl) fun x hx W1 e => ev_call2 (ea_cons (ev_var rfl ((i1.mono c.le).mono e)) (ea_cons (ev_var rfl (nat_is rfl)) ea_nil)) hp) fun p v H2 c2 iv => ?_
  have e1 : ∀ {W'}, Is W' v1 a1 → EvA T (tCons (tOp (rI CPow fun i j => .int (i * 2 ^ j.toNat)) (tC (.int 1)) (tOp (rI0 fun i j => .int (i - j)) (tOp (rI CPow fun i j => .int (i * 2 ^ j.toNat)) (tC (.int 1)) (tVar 0)) (tC (.int 1)))) tNil) [some v1, some (.ref p), some v, none, none, none] W' [Enc.enc (2 ^ (2 ^ a1 - 1))] := fun i1' =>
    ea_cons ((ev_shl (ev_cn 1 rfl) (ev_sub (ev_shl (ev_cn 1 rfl) (ev_var rfl i1') ⟨by omega, by decide⟩) (ev_cn 1 rfl) (by omega)) ⟨by omega, by decide⟩).is (by rw [Nat.one_mul, Nat.one_mul])) ea_nil
  refine r_forR (W := wov W p H2) (T := T) c2.dm (e1 (i1.mono c2.le)) (by omega) (fun i σ' W' => Le T (wov W p H2) W' ∧ ∃ H' x, W' = wov W p H' ∧ σ' = [some v1, some (.ref p), some v, x, none, none] ∧ Cw T W p (((List.range i).filter (SC.inAll a1)).map fun h => 2 * h) H') (fun W3 s3 => ⟨s3.le, W3.H, none, ?_, rfl, c2.step s3⟩) (fun i σ' W' hi ⟨le, H', x, e2, e3, c'⟩ => ?_) fun σ' W' ⟨le, H', x, e2, e3, c'⟩ => ?_
  · obtain ⟨S3, H3⟩ := W3
    have es : S3 = p :: W.S := s3.s
    subst es
    rfl
  · subst e2 e3
    have hln : (((List.range i).filter (SC.inAll a1)).map fun h => 2 * h).length ≤ i := by
      rw [List.length_map]
      exact Nat.le_trans (List.length_filter_le _ _) (by simp)
    have er : ((List.range (i + 1)).filter (SC.inAll a1)).map (fun h => 2 * h) = ((List.range i).filter (SC.inAll a1)).map (fun h => 2 * h) ++ (if SC.inAll a1 i = true then [2 * i] else []) := by
      rw [List.range_succ, List.filter_append, List.map_append]
      by_cases hb : SC.inAll a1 i = true
      · simp [hb]
      · simp [hb]
    have e2i : ∀ {σ' W'}, σ'[3]? = some (some (.int (i : Int))) → Ev T (tOp (rI CMul fun i j => .int (i * j)) (tC (.int 2)) (tVar 3)) σ' W' (2 * i) := fun hq => ev_mul (ev_cn 2 rfl) (ev_var hq (nat_is rfl)) (by decide)
    refine r_if (W := wov W p H') (T := T) c'.dm (et_B (ev_all (ev_map (fun r => decide ((2 * i) &&& r ≠ 0)) (ev_var rfl (iv.mono le)) (by simp; omega) (fun _ => rfl) fun r hr v' W1 e4 ir => ev_ne (ev_and (e2i rfl) (ev_var rfl ir)) (ev_cn 0 rfl)))) (fun hb W6 s6 => ?_) fun hb W6 s6 => ?_
    · have hin : SC.inAll a1 i = true := by simpa [SC.inAll, List.all_map] using hb
      have c6 := c'.step s6
      have es : W6.S = p :: W.S := s6.s
      have le6 := s6.le
      obtain ⟨S6, H6⟩ := W6
      subst es
      refine r_append c6 rfl (e2i rfl) (by omega) fun H7 le7 c7 => ⟨wov W p H7, rfl, (le.trans le6).trans le7, H7, _, rfl, rfl, ?_⟩
      rw [er, if_pos hin]
      exact c7
    · have hin : ¬ SC.inAll a1 i = true := by
        intro z
        have : SC.inAll a1 i = false := by simpa [SC.inAll, List.all_map] using hb
        rw [this] at z; cases z
      have c6 := c'.step s6
      have es : W6.S = p :: W.S := s6.s
      have le6 := s6.le
      obtain ⟨S6, H6⟩ := W6
      subst es
      refine ⟨wov W p H6, rfl, le.trans le6, H6, _, rfl, rfl, ?_⟩
      rw [er, if_neg hin, List.append_nil]
      exact c6
  · subst e2 e3
    obtain ⟨s4, i4⟩ := c'.end
    exact r_ret (W := ⟨W.S, H'⟩) (T := T) (d.step s4) (ev_var rfl i4) fun u W5 s5 i5 => k u W5 (s4.trans s5) i5
end
end PC

/-! ## PA4 -/
set_option Elab.async false
set_option linter.all false
set_option maxRecDepth 100000
set_option maxHeartbeats 2000000
namespace SD
open PySem PySem.Spec PyProof.Rows L2
section
variable {α β γ δ ε ζ : Type} [Enc α] [Enc β] [Enc γ] [Enc δ] [Enc ε] [Enc ζ] {T : List (Addr × Str)} {W W' W1 W2 : Wo} {σ : L2.St} {tA : TA} {E : XK}
def sp5 (T : List (Addr × Str)) (Pre : α → β → γ → δ → ε → Prop) (f : α → β → γ → δ → ε → ζ) : Sp := fun vs H Q _ => ∃ S a b c d e, Wo.Dom ⟨S, H⟩ ∧ Iss ⟨S, H⟩ vs [Enc.enc a, Enc.enc b, Enc.enc c, Enc.enc d, Enc.enc e] ∧ Pre a b c d e ∧ ∀ u W2, Step T ⟨S, H⟩ W2 → Is W2 u (f a b c d e) → Q u W2.H
theorem ev_call5 {Pre : α → β → γ → δ → ε → Prop} {f : α → β → γ → δ → ε → ζ} {a : α} {b : β} {c : γ} {d : δ} {x : ε} (ha : EvA T tA σ W [Enc.enc a, Enc.enc b, Enc.enc c, Enc.enc d, Enc.enc x]) (hp : Pre a b c d x) : Ev T (tCall (sp5 T Pre f) [] E tA) σ W (f a b c d x) := fun W1 e dm Q q =>
  ha W1 e dm _ fun vs W2 e2 is => ⟨W2.S, a, b, c, d, x, dm.step e2, by rw [List.append_nil]; exact is, hp, fun u W3 e3 i => q u W3 (e2.trans e3) i⟩
theorem sp5_len {Pre : α → β → γ → δ → ε → Prop} {f : α → β → γ → δ → ε → ζ} (vs : List V) (H : Hp) (Q : VK) (E : XK) (h : sp5 T Pre f vs H Q E) : vs.length = 5 := by
  obtain ⟨S, a, b, c, d, e, _, is, _⟩ := h
  exact is.len
theorem sp5_go {Pre : α → β → γ → δ → ε → Prop} {f : α → β → γ → δ → ε → ζ} {N : List Str} {t : TS} (k : ∀ (W : Wo) (v1 v2 v3 v4 v5 : V) (a : α) (b : β) (c : γ) (e : δ) (g : ε), W.Dom → Is W v1 a → Is W v2 b → Is W v3 c → Is W v4 e → Is W v5 g → Pre a b c e g → ∀ Q : VK, (∀ u W2, Step T W W2 → Is W2 u (f a b c e g) → Q u W2.H) → t (EndsOf Q) (start N [v1, v2, v3, v4, v5]) W.H)
    {vs : List V} {H : Hp} {Q : VK} {E : XK} (h : sp5 T Pre f vs H Q E) : t (EndsOf Q) (start N vs) H := by
  obtain ⟨S, a, b, c, e, g, d, is, hp, q⟩ := h
  obtain ⟨v, u, w, x, y, rfl, i1, i2, i3, i4, i5⟩ := iss5 is
  exact k ⟨S, H⟩ v u w x y a b c e g d i1 i2 i3 i4 i5 hp Q q
end
theorem enc_ranks (l : List (List Nat)) : Enc.enc l = Enc.enc (l.map SC.Wd.ranks) := by
  show D.lst _ = D.lst _
  rw [List.map_map]
  rfl
theorem enc_regions (l : List Nat) : Enc.enc l = Enc.enc (l.map SC.Wd.regions) := by
  show D.lst _ = D.lst _
  rw [List.map_map]
  rfl
end SD
namespace PC
open PySem PySem.Spec PyProof.Rows L2 SD
section
variable {P : Program} {w : World} {K : PySem.W.Frag} {mg : Str → Option Value} {base : Heap} {T : List (Addr × Str)}
theorem worlds0 (n : Nat) : SC.worlds 0 n = (SC.orders n).map .ranks := rfl
theorem worlds1 (n : Nat) : SC.worlds 1 n = (SC.intervalOrders n).map .ranks := rfl
theorem worlds2 (n : Nat) : SC.worlds 2 n = (SC.venn n).map .regions := rfl
theorem worlds3 {k n : Nat} (h0 : k ≠ 0) (h1 : k ≠ 1) (h2 : k ≠ 2) : SC.worlds k n = (SC.orders n).flatMap fun a => (SC.orders n).map (SC.Wd.two a) := by
  unfold SC.worlds
  rw [if_neg h0, if_neg h1, if_neg h2]
theorem ors4 {n : Nat} (h : n ≤ 4) : (SC.orders n).length ≤ 75 := by
  have : n = 0 ∨ n = 1 ∨ n = 2 ∨ n = 3 ∨ n = 4 := by omega
  rcases this with rfl | rfl | rfl | rfl | rfl <;> decide +kernel
abbrev s_worlds : Stmt := topS 14
theorem sc_worlds : FnScope ["kind", "many", "one", "found", "first", "second"] ["kind", "many"] (defScope s_worlds) := ⟨rfl, rfl, rfl, by decide +kernel, rfl, by decide +kernel, by decide +kernel⟩
theorem c_worlds (F : Fn K mg "worlds" s_worlds ["kind", "many"]) (X : Txt mg) (C_orders : Cal P w K mg base L2.CX0 4 "orders" (sp_orders T)) (C_interval_orders : Cal P w K mg base L2.CX0 5 "interval_orders" (sp_interval_orders T)) (C_venn : Cal P w K mg base L2.CX0 2 "venn" (sp_venn T)) : Cal P w K mg base L2.CX0 6 "worlds" (sp_worlds T) := by
  refine F.cal sc_worlds sp2_len fun f cdv A outer s H vs Q E hr h => ⟨_,
    (pss_cons (ps_if (pt_cmpR op_eq (pv 0) (pe_gc X.points) (nomark _)) (pss_one (ps_ret (pe_c C_orders hr (pa_cons (pv 1) pa_nil)))) pss_nil)
      (pss_cons (ps_if (pt_cmpR op_eq (pv 0) (pe_gc X.intervals) (nomark _)) (pss_one (ps_ret (pe_c C_interval_orders hr (pa_cons (pv 1) pa_nil)))) pss_nil)
      (pss_cons (ps_if (pt_cmpR op_eq (pv 0) (pe_gc X.sets) (nomark _)) (pss_one (ps_ret (pe_c C_venn hr (pa_cons (pv 1) pa_nil)))) pss_nil)
      (pss_cons (ps_set (i := 2) sc_worlds.nd rfl (Or.inl rfl) (pe_c C_orders hr (pa_cons (pv 1) pa_nil)))
      (pss_cons (ps_set (i := 3) sc_worlds.nd rfl (Or.inl rfl) (pe_lst pa_nil))
      (pss_cons (ps_for PassesOwn.never rfl (pi_list (pv 2)) (pg_name (i := 4) sc_worlds.nd rfl (Or.inl rfl)) (pss_one (ps_for PassesOwn.never rfl (pi_list (pv 2)) (pg_name (i := 5) sc_worlds.nd rfl (Or.inl rfl)) (pss_one (ps_expr (pe_bm PySem.F.plainAttrs_list PySem.F.slot_list_append PySem.F.type_list_append mt_append (pv 3) (pa_cons (pe_tup (pa_cons (pv 4) (pa_cons (pv 5) pa_nil))) pa_nil)))))))
      (pss_one (ps_ret (pv 3))))))))),
    sp2_go (fun W v1 v2 a1 a2 d i1 i2 hp Q k => ?_) h⟩
  refine r_when (T := T) d (et_test (ev_eq (ev_var rfl i1) (ev_cn 0 rfl))) (fun hb W1 s1 => ?_) fun hb W1 s1 => ?_
  · obtain rfl : a1 = 0 := of_decide_eq_true hb
    exact r_ret (T := T) (d.step s1) ((ev_call1 (ea_cons (ev_var rfl (i2.step s1)) ea_nil) hp).to (enc_ranks _)) fun u W2 s2 i => k u W2 (s1.trans s2) (worlds0 a2 ▸ i)
  have n0 : a1 ≠ 0 := of_decide_eq_false hb
  refine r_when (T := T) (d.step s1) (et_test (ev_eq (ev_var rfl (i1.step s1)) (ev_cn 1 rfl))) (fun hb W2 s2 => ?_) fun hb W2 s2 => ?_
  · obtain rfl : a1 = 1 := of_decide_eq_true hb
    have s := s1.trans s2
    exact r_ret (T := T) (d.step s) ((ev_call1 (ea_cons (ev_var rfl (i2.step s)) ea_nil) hp).to (enc_ranks _)) fun u W2 s2 i => k u W2 (s.trans s2) (worlds1 a2 ▸ i)
  have n1 : a1 ≠ 1 := of_decide_eq_false hb
  have s2' := s1.trans s2
  refine r_when (T := T) (d.step s2') (et_test (ev_eq (ev_var rfl (i1.step s2')) (ev_cn 2 rfl))) (fun hb W3 s3 => ?_) fun hb W3 s3 => ?_
  · obtain rfl : a1 = 2 := of_decide_eq_true hb
    have s := s2'.trans s3
    exact r_ret (T := T) (d.step s) ((ev_call1 (ea_cons (ev_var rfl (i2.step s)) ea_nil) hp).to (enc_regions _)) fun u W2 s2 i => k u W2 (s.trans s2) (worlds2 a2 ▸ i)
  have n2 : a1 ≠ 2 := of_decide_eq_false hb
  have s3' := s2'.trans s3
  refine r_asg (T := T) (d.step s3') (ev_call1 (ea_cons (ev_var rfl (i2.step s3')) ea_nil) hp) fun u W4 s4 j4 => ?_
  have s4' := s3'.trans s4
  have hlen := ors4 hp
  have dd := d.step s4'
  refine r_new (β := SC.Wd) (T := T) dd fun p c => ?_
  refine r_forL (W := wov W4 p _) (T := T) c.dm (ev_var rfl (j4.mono c.le)) (fun j σ2 W2 => ∃ H2 x z, W2 = wov W4 p H2 ∧ σ2 = [some v1, some v2, some u, some (.ref p), x, z] ∧ Cw T W4 p (((SC.orders a2).take j).flatMap fun a => (SC.orders a2).map (SC.Wd.two a)) H2) (fun W3 s3 => ?_) (fun W3 s3 j f u2 σ2 W2 hj ⟨H2, x2, z2, e1, e2, c2⟩ le iu => ?_) fun σ2 W2 ⟨H2, x2, z2, e1, e2, c2⟩ le => ?_
  · refine ⟨W3.H, none, none, ?_, rfl, c.step s3⟩
    obtain ⟨S3, H3⟩ := W3
    have es : S3 = p :: W4.S := s3.s
    subst es
    rfl
  · subst e1 e2
    have e3 : ((SC.orders a2).take (j + 1)).flatMap (fun a => (SC.orders a2).map (SC.Wd.two a)) = ((SC.orders a2).take j).flatMap (fun a => (SC.orders a2).map (SC.Wd.two a)) ++ (SC.orders a2).map (SC.Wd.two f) := by rw [take_succ_of hj, List.flatMap_append]; simp
    have ht := SC.flat_take (fun a => (SC.orders a2).map (SC.Wd.two a)) (SC.orders a2) j
    have hall : ((SC.orders a2).flatMap fun a => (SC.orders a2).map (SC.Wd.two a)).length ≤ 75 * 75 := by
      simp only [List.length_flatMap, List.length_map, List.map_const', List.sum_replicate_nat]
      exact Nat.mul_le_mul hlen hlen
    refine r_forL' (W := wov W4 p H2) (T := T) c2.dm (ev_var rfl (j4.mono c2.le)) (fun m σ4 W5 => ∃ H4 z, W5 = wov W4 p H4 ∧ σ4 = [some v1, some v2, some u, some (.ref p), some u2, z] ∧ Cw T W4 p (((SC.orders a2).take j).flatMap (fun a => (SC.orders a2).map (SC.Wd.two a)) ++ ((SC.orders a2).take m).map (SC.Wd.two f)) H4) (fun W4' s4 => ?_) (fun W4' s4 m x u5 σ5 W5 hx ⟨H5, z5, e1, e2, c5⟩ le5 iu5 => ?_) fun σ5 W5 ⟨H5, z5, e1, e2, c5⟩ le5 => ?_
    · refine ⟨W4'.H, z2, ?_, rfl, ?_⟩
      · obtain ⟨S4, H4⟩ := W4'
        have es : S4 = p :: W4.S := s4.s
        subst es
        rfl
      · simpa using c2.step s4
    · subst e1 e2
      refine r_append c5 rfl (Ev.to (ev_tup2 (ea_cons (ev_var rfl (iu.mono (s4.le.trans le5))) (ea_cons (ev_var rfl iu5) ea_nil))) (show Enc.enc (f, x) = Enc.enc (SC.Wd.two f x) from rfl)) ?_ fun H7 le7 c7 => ⟨wov W4 p H7, rfl, le5.trans le7, H7, _, rfl, rfl, ?_⟩
      · have hmm : (((SC.orders a2).take m).map (SC.Wd.two f)).length ≤ 75 := by
          rw [List.length_map, List.length_take]
          omega
        rw [List.length_append]
        omega
      · rw [take_succ_of hx, List.map_append, ← List.append_assoc]
        exact c7
    · subst e1 e2
      rw [List.take_length] at c5
      refine ⟨wov W4 p H5, rfl, le.trans le5, H5, _, _, rfl, rfl, ?_⟩
      rw [e3]
      exact c5
  · subst e1 e2
    rw [List.take_length] at c2
    obtain ⟨s5, i5⟩ := c2.end
    refine r_ret (W := ⟨W4.S, H2⟩) (T := T) (dd.step s5) (ev_var rfl i5) fun u W6 s6 i6 => k u W6 ((s4'.trans s5).trans s6) ?_
    rw [worlds3 n0 n1 n2]
    exact i6
abbrev sp_compared (T : List (Addr × Str)) : Sp := sp2 T (fun _ _ : Nat => True) SC.cmp
abbrev sp_interval_inner (T : List (Addr × Str)) : Sp := sp4 T (fun _ _ _ _ : Nat => True) SC.inner
abbrev sp_interval_relation (T : List (Addr × Str)) : Sp := sp4 T (fun _ _ _ _ : Nat => True) SC.intervalRel
abbrev sp_set_relation (T : List (Addr × Str)) : Sp := sp3 T (fun _ _ _ : Nat => True) SC.setRel
abbrev s_compared : Stmt := topS 16
theorem sc_compared : FnScope ["one", "other"] ["one", "other"] (defScope s_compared) := ⟨rfl, rfl, rfl, by decide +kernel, rfl, by decide +kernel, by decide +kernel⟩
theorem c_compared (F : Fn K mg "compared" s_compared ["one", "other"]) (X : Txt mg)  : Cal P w K mg base L2.CX0 1 "compared" (sp_compared T) := by
  refine F.cal sc_compared sp2_len fun f cdv A outer s H vs Q E hr h => ⟨_,
    (pss_cons (ps_if (pt_cmpR op_lt (pv 0) (pv 1) (nomark _)) (pss_one (ps_ret pe_int)) pss_nil)
      (pss_one (ps_ret (pe_ifExp (pt_cmpR op_eq (pv 0) (pv 1) (nomark _)) pe_int pe_int)))),
    sp2_go (fun W v1 v2 a1 a2 d i1 i2 hp Q k => ?_) h⟩
  refine r_when (T := T) d (et_test (ev_lt (ev_var rfl i1) (ev_var rfl i2))) (fun hb W1 s1 => ?_) fun hb W1 s1 => ?_
  · have hc : a1 < a2 := of_decide_eq_true hb
    refine r_ret (T := T) (d.step s1) (ev_cn 0 rfl) fun u W2 s2 i => k u W2 (s1.trans s2) ?_
    rw [show SC.cmp a1 a2 = 0 from if_pos hc]
    exact i
  · have hc : ¬ a1 < a2 := of_decide_eq_false hb
    refine r_ret (T := T) (d.step s1) (ev_if (et_test (ev_eq (ev_var rfl (i1.step s1)) (ev_var rfl (i2.step s1)))) (fun _ => ev_cn 1 rfl) fun _ => ev_cn 2 rfl) fun u W2 s2 i => k u W2 (s1.trans s2) ?_
    have e : SC.cmp a1 a2 = if decide (a1 = a2) = true then 1 else 2 := by
      unfold SC.cmp
      rw [if_neg hc]
      simp
    rw [e]
    exact i
theorem cmp_le (a b : Nat) : SC.cmp a b ≤ 2 := by
  unfold SC.cmp
  split
  · omega
  · split <;> omega
theorem ev_pick {σ : L2.St} {W : Wo} {tb : TE} {i a b c : Nat} (h : Ev T tb σ W i) (hi : i ≤ 2) : Ev T (tOp (rIxT K) (tTup (tCons (tC (.int (a : Int))) (tCons (tC (.int (b : Int))) (tCons (tC (.int (c : Int))) tNil)))) tb) σ W ([a, b, c].getD i 0) :=
  ev_ixT (ev_tupD (ea_cons (ev_cn a rfl) (ea_cons (ev_cn b rfl) (ea_cons (ev_cn c rfl) ea_nil))) (by simp)) h (by
    have : i = 0 ∨ i = 1 ∨ i = 2 := by omega
    rcases this with rfl | rfl | rfl <;> rfl)
abbrev s_interval_inner : Stmt := topS 17
theorem sc_interval_inner : FnScope ["start", "end", "other", "last", "first", "second"] ["start", "end", "other", "last"] (defScope s_interval_inner) := ⟨rfl, rfl, rfl, by decide +kernel, rfl, by decide +kernel, by decide +kernel⟩
theorem c_interval_inner (F : Fn K mg "interval_inner" s_interval_inner ["start", "end", "other", "last"]) (X : Txt mg) (C_compared : Cal P w K mg base L2.CX0 1 "compared" (sp_compared T)) : Cal P w K mg base L2.CX0 2 "interval_inner" (sp_interval_inner T) := by
  refine F.cal sc_interval_inner sp4_len fun f cdv A outer s H vs Q E hr h => ⟨_,
    (pss_cons (ps_par (i := 4) (j := 5) (by rfl) sc_interval_inner.nd rfl rfl (by decide) rfl rfl (pa_cons (pe_c C_compared hr (pa_cons (pv 0) (pa_cons (pv 2) pa_nil))) (pa_cons (pe_c C_compared hr (pa_cons (pv 1) (pa_cons (pv 3) pa_nil))) pa_nil)) (by rfl))
      (pss_cons (ps_if (pt_cmpR op_eq (pv 4) pe_int (nomark _)) (pss_one (ps_ret (pe_ix ix_tup (pe_tup (pa_cons pe_int (pa_cons pe_int (pa_cons pe_int pa_nil)))) (pv 5) (fun _ _ => rfl)))) pss_nil)
      (pss_cons (ps_if (pt_cmpR op_eq (pv 4) pe_int (nomark _)) (pss_one (ps_ret (pe_ix ix_tup (pe_tup (pa_cons pe_int (pa_cons pe_int (pa_cons pe_int pa_nil)))) (pv 5) (fun _ _ => rfl)))) pss_nil)
      (pss_one (ps_ret (pe_ix ix_tup (pe_tup (pa_cons pe_int (pa_cons pe_int (pa_cons pe_int pa_nil)))) (pv 5) (fun _ _ => rfl))))))),
    sp4_go (fun W v1 v2 v3 v4 a1 a2 a3 a4 d i1 i2 i3 i4 hp Q k => ?_) h⟩
  refine r_par (T := T) d (ea_cons (ev_call2 (ea_cons (ev_var rfl i1) (ea_cons (ev_var rfl i3) ea_nil)) trivial) (ea_cons (ev_call2 (ea_cons (ev_var rfl i2) (ea_cons (ev_var rfl i4) ea_nil)) trivial) ea_nil)) fun u v W1 s1 j1 j2 => ?_
  refine r_when (T := T) (d.step s1) (et_test (ev_eq (ev_var rfl j1) (ev_cn 1 rfl))) (fun hb W2 s2 => ?_) fun hb W2 s2 => ?_
  · have hc : SC.cmp a1 a3 = 1 := of_decide_eq_true hb
    refine r_ret (T := T) ((d.step s1).step s2) (ev_pick (a := 3) (b := 6) (c := 9) (ev_var rfl (j2.step s2)) (cmp_le _ _)) fun u W3 s3 i => k u W3 ((s1.trans s2).trans s3) ?_
    unfold SC.inner
    rw [if_pos hc]
    exact i
  have hc : ¬ SC.cmp a1 a3 = 1 := of_decide_eq_false hb
  have s2' := s1.trans s2
  refine r_when (T := T) (d.step s2') (et_test (ev_eq (ev_var rfl (j1.step s2)) (ev_cn 0 rfl))) (fun hb W3 s3 => ?_) fun hb W3 s3 => ?_
  · have hc2 : SC.cmp a1 a3 = 0 := of_decide_eq_true hb
    refine r_ret (T := T) ((d.step s2').step s3) (ev_pick (a := 2) (b := 7) (c := 8) (ev_var rfl ((j2.step s2).step s3)) (cmp_le _ _)) fun u W4 s4 i => k u W4 ((s2'.trans s3).trans s4) ?_
    unfold SC.inner
    rw [if_neg hc, if_pos hc2]
    exact i
  · have hc2 : ¬ SC.cmp a1 a3 = 0 := of_decide_eq_false hb
    refine r_ret (T := T) ((d.step s2').step s3) (ev_pick (a := 4) (b := 5) (c := 10) (ev_var rfl ((j2.step s2).step s3)) (cmp_le _ _)) fun u W4 s4 i => k u W4 ((s2'.trans s3).trans s4) ?_
    unfold SC.inner
    rw [if_neg hc, if_neg hc2]
    exact i
theorem ite_dec {p : Prop} [Decidable p] {α : Type} (a b : α) : (if decide p = true then a else b) = if p then a else b := by simp
abbrev s_interval_relation : Stmt := topS 18
theorem sc_interval_relation : FnScope ["start", "end", "other", "last"] ["start", "end", "other", "last"] (defScope s_interval_relation) := ⟨rfl, rfl, rfl, by decide +kernel, rfl, by decide +kernel, by decide +kernel⟩
theorem c_interval_relation (F : Fn K mg "interval_relation" s_interval_relation ["start", "end", "other", "last"]) (X : Txt mg) (C_interval_inner : Cal P w K mg base L2.CX0 2 "interval_inner" (sp_interval_inner T)) : Cal P w K mg base L2.CX0 3 "interval_relation" (sp_interval_relation T) := by
  refine F.cal sc_interval_relation sp4_len fun f cdv A outer s H vs Q E hr h => ⟨_,
    (pss_cons (ps_if (pt_cmpR op_le (pv 1) (pv 2) (nomark _)) (pss_one (ps_ret (pe_ifExp (pt_cmpR op_lt (pv 1) (pv 2) (nomark _)) pe_int pe_int))) pss_nil)
      (pss_cons (ps_if (pt_cmpR op_ge (pv 0) (pv 3) (nomark _)) (pss_one (ps_ret (pe_ifExp (pt_cmpR op_gt (pv 0) (pv 3) (nomark _)) pe_int pe_int))) pss_nil)
      (pss_one (ps_ret (pe_c C_interval_inner hr (pa_cons (pv 0) (pa_cons (pv 1) (pa_cons (pv 2) (pa_cons (pv 3) pa_nil))))))))),
    sp4_go (fun W v1 v2 v3 v4 a1 a2 a3 a4 d i1 i2 i3 i4 hp Q k => ?_) h⟩
  refine r_when (T := T) d (et_test (ev_le (ev_var rfl i2) (ev_var rfl i3))) (fun hb W1 s1 => ?_) fun hb W1 s1 => ?_
  · have hc : a2 ≤ a3 := of_decide_eq_true hb
    refine r_ret (T := T) (d.step s1) (ev_if (et_test (ev_lt (ev_var rfl (i2.step s1)) (ev_var rfl (i3.step s1)))) (fun _ => ev_cn 0 rfl) fun _ => ev_cn 1 rfl) fun u W2 s2 i => k u W2 (s1.trans s2) ?_
    unfold SC.intervalRel
    rw [if_pos hc, ← ite_dec]
    exact i
  have hc : ¬ a2 ≤ a3 := of_decide_eq_false hb
  refine r_when (T := T) (d.step s1) (et_test (ev_ge (ev_var rfl (i1.step s1)) (ev_var rfl (i4.step s1)))) (fun hb W2 s2 => ?_) fun hb W2 s2 => ?_
  · have hc2 : a4 ≤ a1 := of_decide_eq_true hb
    have s2' := s1.trans s2
    refine r_ret (T := T) (d.step s2') (ev_if (et_test (ev_gt (ev_var rfl (i1.step s2')) (ev_var rfl (i4.step s2')))) (fun _ => ev_cn 12 rfl) fun _ => ev_cn 11 rfl) fun u W3 s3 i => k u W3 (s2'.trans s3) ?_
    unfold SC.intervalRel
    rw [if_neg hc, if_pos hc2, ← ite_dec]
    exact i
  · have hc2 : ¬ a4 ≤ a1 := of_decide_eq_false hb
    have s2' := s1.trans s2
    refine r_ret (T := T) (d.step s2') (ev_call4 (ea_cons (ev_var rfl (i1.step s2')) (ea_cons (ev_var rfl (i2.step s2')) (ea_cons (ev_var rfl (i3.step s2')) (ea_cons (ev_var rfl (i4.step s2')) ea_nil)))) trivial) fun u W3 s3 i => k u W3 (s2'.trans s3) ?_
    unfold SC.intervalRel
    rw [if_neg hc, if_neg hc2]
    exact i
abbrev s_set_relation : Stmt := topS 19
theorem sc_set_relation : FnScope ["regions", "mine", "theirs", "only", "others"] ["regions", "mine", "theirs"] (defScope s_set_relation) := ⟨rfl, rfl, rfl, by decide +kernel, rfl, by decide +kernel, by decide +kernel⟩
theorem c_set_relation (F : Fn K mg "set_relation" s_set_relation ["regions", "mine", "theirs"]) (X : Txt mg)  : Cal P w K mg base L2.CX0 1 "set_relation" (sp_set_relation T) := by
  refine F.cal sc_set_relation sp3_len fun f cdv A outer s H vs Q E hr h => ⟨_,
    (pss_cons (ps_if (pt_cmpR op_eq (pe_op op_and (pe_op op_and (pv 0) (pv 1)) (pv 2)) pe_int (nomark _)) (pss_one (ps_ret pe_int)) pss_nil)
      (pss_cons (ps_par (i := 3) (j := 4) (by rfl) sc_set_relation.nd rfl rfl (by decide) rfl rfl (pa_cons (pe_op op_and (pe_op op_and (pv 0) (pv 1)) (pe_un un_inv (pv 2))) (pa_cons (pe_op op_and (pe_op op_and (pv 0) (pv 2)) (pe_un un_inv (pv 1))) pa_nil)) (by rfl))
      (pss_cons (ps_if (pt_cmpR op_ne (pv 3) pe_int (nomark _)) (pss_one (ps_ret (pe_ifExp (pt_cmpR op_ne (pv 4) pe_int (nomark _)) pe_int pe_int))) pss_nil)
      (pss_one (ps_ret (pe_ifExp (pt_cmpR op_ne (pv 4) pe_int (nomark _)) pe_int pe_int)))))),
    sp3_go (fun W v1 v2 v3 a1 a2 a3 d i1 i2 i3 hp Q k => ?_) h⟩
  refine r_when (T := T) d (et_test (ev_eq (ev_and (ev_and (ev_var rfl i1) (ev_var rfl i2)) (ev_var rfl i3)) (ev_cn 0 rfl))) (fun hb W1 s1 => ?_) fun hb W1 s1 => ?_
  · have hc : ((a1 &&& a2) &&& a3) = 0 := of_decide_eq_true hb
    refine r_ret (T := T) (d.step s1) (ev_cn 0 rfl) fun u W2 s2 i => k u W2 (s1.trans s2) ?_
    unfold SC.setRel
    rw [if_pos hc]
    exact i
  have hc : ¬ ((a1 &&& a2) &&& a3) = 0 := of_decide_eq_false hb
  refine r_par (T := T) (d.step s1) (ea_cons (ev_andn (ev_and (ev_var rfl (i1.step s1)) (ev_var rfl (i2.step s1))) (ev_var rfl (i3.step s1))) (ea_cons (ev_andn (ev_and (ev_var rfl (i1.step s1)) (ev_var rfl (i3.step s1))) (ev_var rfl (i2.step s1))) ea_nil)) fun u v W2 s2 j1 j2 => ?_
  have s2' := s1.trans s2
  refine r_when (T := T) (d.step s2') (et_test (ev_ne (ev_var rfl j1) (ev_cn 0 rfl))) (fun hb W3 s3 => ?_) fun hb W3 s3 => ?_
  · have hc2 : (a1 &&& a2) - ((a1 &&& a2) &&& a3) ≠ 0 := of_decide_eq_true hb
    have s3' := s2'.trans s3
    refine r_ret (T := T) (d.step s3') (ev_if (et_test (ev_ne (ev_var rfl (j2.step s3)) (ev_cn 0 rfl))) (fun _ => ev_cn 1 rfl) fun _ => ev_cn 4 rfl) fun u W3 s4 i => k u W3 (s3'.trans s4) ?_
    unfold SC.setRel
    rw [if_neg hc, if_pos hc2, ← ite_dec]
    exact i
  · have hc2 : ¬ (a1 &&& a2) - ((a1 &&& a2) &&& a3) ≠ 0 := of_decide_eq_false hb
    have s3' := s2'.trans s3
    refine r_ret (T := T) (d.step s3') (ev_if (et_test (ev_ne (ev_var rfl (j2.step s3)) (ev_cn 0 rfl))) (fun _ => ev_cn 2 rfl) fun _ => ev_cn 3 rfl) fun u W3 s4 i => k u W3 (s3'.trans s4) ?_
    unfold SC.setRel
    rw [if_neg hc, if_neg hc2, ← ite_dec]
    exact i
end
end PC

/-! ## SD6 -/
set_option Elab.async false
set_option linter.all false
set_option maxRecDepth 100000
set_option maxHeartbeats 2000000
/-! triples unpacked, enumerate, dicts with keys that are numbers -/
namespace SC
def put (l : List Nat) (m : Nat) : List Nat := if m ∈ l then l else l ++ [m]
def putAll (ms : List Nat) : List Nat := ms.foldl put []
def rising (l : List Nat) : List Nat := l.mergeSort fun a b => decide (a ≤ b)
theorem put_len (l : List Nat) (m : Nat) : (put l m).length ≤ l.length + 1 := by
  unfold put
  split
  · omega
  · simp
theorem mem_put {l : List Nat} {m x : Nat} : x ∈ put l m ↔ x ∈ l ∨ x = m := by
  unfold put
  split
  · rename_i h
    constructor
    · exact .inl
    · rintro (h1 | rfl)
      · exact h1
      · exact h
  · simp
theorem mem_foldl_put {x : Nat} : ∀ (ms l : List Nat), x ∈ ms.foldl put l ↔ x ∈ l ∨ x ∈ ms
  | [], l => by simp
  | m :: ms, l => by
    rw [List.foldl_cons, mem_foldl_put ms, mem_put]
    simp [or_assoc]
theorem mem_putAll {ms : List Nat} {x : Nat} : x ∈ putAll ms ↔ x ∈ ms := by
  unfold putAll
  rw [mem_foldl_put]
  simp
theorem mem_rising {l : List Nat} {x : Nat} : x ∈ rising l ↔ x ∈ l := List.mem_mergeSort
theorem put_nodup {l : List Nat} {m : Nat} (h : l.Nodup) : (put l m).Nodup := by
  unfold put
  split
  · exact h
  · rename_i hm
    rw [List.nodup_append]
    refine ⟨h, by simp, ?_⟩
    intro a ha b hb e
    simp at hb
    subst e hb
    exact hm ha
theorem foldl_put_nodup : ∀ (ms l : List Nat), l.Nodup → (ms.foldl put l).Nodup
  | [], _, h => h
  | _ :: ms, _, h => foldl_put_nodup ms _ (put_nodup h)
theorem nodup_len : ∀ (n : Nat) (l : List Nat), l.Nodup → (∀ x ∈ l, x < n) → l.length ≤ n
  | 0, l, _, h => by
    cases l with
    | nil => exact Nat.le_refl _
    | cons x l => exact absurd (h x (List.mem_cons_self ..)) (Nat.not_lt_zero _)
  | n + 1, l, hn, h => by
    have h1 := nodup_len n (l.erase n) (hn.erase n) fun x hx => by
      have h2 := (hn.mem_erase_iff).mp hx
      have := h x h2.2
      omega
    have h3 := List.length_erase (a := n) (l := l)
    split at h3 <;> omega
theorem putAll_len {ms : List Nat} {n : Nat} (h : ∀ m ∈ ms, m < n) : (putAll ms).length ≤ n :=
  nodup_len n _ (foldl_put_nodup ms [] List.nodup_nil) fun x hx => h x (mem_putAll.mp hx)
end SC
namespace SD
open PySem PySem.Spec PyProof.Rows L2
section
variable {α β γ δ ε : Type} [Enc α] [Enc β] [Enc γ] [Enc δ] [Enc ε] {T : List (Addr × Str)} {W W' W0 W1 W2 : Wo} {σ σ2 : L2.St} {te ta tb tl : TE} {t u : TT} {tA : TA} {K : PySem.W.Frag} {Dn : Ends} {tu tw tz : TS} {p : Addr} {l : List Nat} {H H' : Hp}
theorem ev_gcn (n : Nat) : Ev T (tC (.int (n : Int))) σ W n := ev_cn n rfl
theorem r_tup3 {i j m : Nat} {x : α} {y : β} {z : γ} (d : W.Dom) (h : Ev T te σ W (D.tup [Enc.enc x, Enc.enc y, Enc.enc z])) (k : ∀ v1 v2 v3 W1, Step T W W1 → Is W1 v1 x → Is W1 v2 y → Is W1 v3 z → tz Dn (((σ.set i (some v1)).set j (some v2)).set m (some v3)) W1.H) :
    tSeq (tAsg te (gTup K 3 (gCons (gName i) (gCons (gName j) (gCons (gName m) gNil))))) tz Dn σ W.H := h W (.refl _) d _ fun v W1 s1 i1 => by
  obtain ⟨a, vs, rfl, _, h1, h2⟩ := is_tup i1
  obtain ⟨v1, v2, v3, rfl, j1, j2, j3⟩ := iss3 h2
  exact ⟨a, _, rfl, SqT.of h1, rfl, _, _, rfl, _, _, rfl, _, _, rfl, rfl, k v1 v2 v3 W1 s1 j1 j2 j3⟩
theorem ev_mapU {xs : List α} {i j m : Nat} {vs : List Nat} (f : α → β) (g1 : α → γ) (g2 : α → δ) (g3 : α → ε) (h : Ev T tl σ W xs) (hx : ∀ x : α, Enc.enc x = D.tup [Enc.enc (g1 x), Enc.enc (g2 x), Enc.enc (g3 x)]) (hz : xs.length ≤ 10000000) (hw : ∀ x y z, wipe ((((wipe σ vs).set i (some x)).set j (some y)).set m (some z)) vs = wipe σ vs)
    (he : ∀ x, x ∈ xs → ∀ v1 v2 v3 W1, Le T W W1 → Is W1 v1 (g1 x) → Is W1 v2 (g2 x) → Is W1 v3 (g3 x) → Ev T te ((((wipe σ vs).set i (some v1)).set j (some v2)).set m (some v3)) W1 (f x)) :
    Ev T (tLc (iList K tl) (gTup K 3 (gCons (gName i) (gCons (gName j) (gCons (gName m) gNil)))) tYes te vs) σ W (xs.map f) := fun W0 e0 d0 Q q => h W0 e0 d0 _ fun v W1 s1 i1 => by
  obtain ⟨a, ws, rfl, ha, hl, is⟩ := is_lst i1
  have el := is.len
  rw [List.length_map] at el
  refine ⟨a, rfl, ⟨ws, SqL.of hl⟩, fun Dl hD => lc_list (xs := ws) (fun i H' => Cw T W1 Dl ((xs.take i).map f) H') (.start hD (d0.step s1)) (fun i H' _ c => SqL.of (c.ex.lst hl)) (fun i v H' hi c => ?_) fun H' c => ?_⟩
  · obtain ⟨x, hxi, ix⟩ := iss_at is hi
    have hlt := (List.getElem?_eq_some_iff.mp hxi).1
    have hm := List.mem_of_getElem? hxi
    have le : Le T W (wov W1 Dl H') := (e0.trans s1.le).trans c.le
    have ixx : Is W1 v (D.tup [Enc.enc (g1 x), Enc.enc (g2 x), Enc.enc (g3 x)]) := show IsD _ v _ from hx x ▸ ix
    obtain ⟨b, bs, rfl, _, h1, h2⟩ := is_tup ixx
    obtain ⟨v1, v2, v3, rfl, j1, j2, j3⟩ := iss3 h2
    refine ⟨b, _, rfl, SqT.of (c.ex.tup h1), rfl, _, _, rfl, _, _, rfl, _, _, rfl, rfl, hw _ _ _, ?_⟩
    refine c.turn (b := true) (y := f x) ?_ et_yes (fun _ => he x hm v1 v2 v3 _ le (j1.mono c.le) (j2.mono c.le) (j3.mono c.le)) fun H4 c4 => ?_
    · rw [List.length_map, List.length_take]; omega
    · rw [take_succ_of hxi, List.map_append]
      exact c4
  · rw [el, List.take_length] at c
    obtain ⟨s2, i2⟩ := c.end
    exact q _ _ (s1.trans s2) i2
/-- for i, x in enumerate(xs) -/
theorem r_forE {xs : List α} {j m : Nat} (d : W.Dom) (h : Ev T tl σ W xs) (Pv : Nat → L2.St → Wo → Prop) (h0 : ∀ W1, Step T W W1 → Pv 0 σ W1)
    (hs : ∀ W1, Step T W W1 → ∀ (i : Nat) x u σ' W', xs[i]? = some x → Pv i σ' W' → Le T W1 W' → ∀ W2, Step T W' W2 → Is W2 u x → tu { nx := fun σ2 H2 => ∃ W2, W2.H = H2 ∧ Le T W1 W2 ∧ Pv (i + 1) σ2 W2, rt := Dn.rt, bk := tz Dn, ct := fun σ2 H2 => ∃ W2, W2.H = H2 ∧ Le T W1 W2 ∧ Pv (i + 1) σ2 W2 } ((σ'.set j (some (.int (i : Int)))).set m (some u)) W2.H)
    (hd : ∀ σ' W', Pv xs.length σ' W' → Le T W W' → tz Dn σ' W'.H) : tSeq (tFor (iEnum K (tCons tl tNil)) (gTup K 2 (gCons (gName j) (gCons (gName m) gNil))) tu) tz Dn σ W.H := h W (.refl _) d _ fun v W1 s1 i1 => by
  obtain ⟨a, ws, rfl, ha, hl, is⟩ := is_lst i1
  have el := is.len
  rw [List.length_map] at el
  refine ⟨a, ws, rfl, SqL.of hl, for_it (walk_enum (K := K) (a := a) (xs := ws)) (D := { Dn with nx := tz Dn }) (fun i σ' H' => ∃ W', W'.H = H' ∧ Le T W1 W' ∧ Pv i σ' W') ⟨W1, rfl, .refl _, h0 W1 s1⟩ (fun i σ' H' _ ⟨W', e, le, _⟩ => ?_) (fun i v σ' H' H'' hi ⟨W', e, le, hp⟩ hy => ?_) fun σ' H' ⟨W', e, le, hp⟩ => ?_⟩
  · subst e
    exact SqL.of (le.keep a _ ha hl fun _ z => by cases z)
  · subst e
    obtain ⟨Tp, y1, y2, rfl, hT, rfl, h1, h2⟩ := hy
    cases h1
    have h2 : ws[i]? = some y2 := h2
    obtain ⟨x, hx, ix⟩ := iss_at is h2
    have sT : Step T W' ⟨W'.S, upd W'.H Tp (.tup [.int (i : Int), y2])⟩ := step_of (.new hT)
    refine ⟨Tp, _, rfl, SqT.of upd_same, rfl, _, _, rfl, _, _, rfl, rfl, ?_⟩
    exact hs W1 s1 i x y2 σ' W' hx hp le _ sT ((ix.mono le).step sT)
  · subst e
    rw [el] at hp
    exact hd σ' W' hp (s1.le.trans le)
theorem pg_tupK {X : Cx} {pos : Pos} {es : List Expr} {k : Nat} {t : TGs} {n : Nat} (hc : X.calm = true) (hK : X.K = K) (h : PGs X es t)
    (hn : (assignEach es X.env).length = n := by rfl) (hst : (assignEach es X.env).findIdx? (·.1) = none := by rfl) : PG X (.Tuple es k pos) (gTup K n t) := hK ▸ pg_tup hc h hn hst
/-! ### a dict that grows -/
structure Dw (T : List (Addr × Str)) (W1 : Wo) (Dl : Addr) (l : List Nat) (H' : Hp) : Prop where
  new : W1.H Dl = none
  dom : W1.Dom
  ex : Ex T W1.H H'
  is : ∃ kvs : List (Key × V), H' Dl = some (.dK kvs) ∧ kvs.map (·.1) = l.map fun n : Nat => (Sum.inl (n : Int) : Key)
theorem Dw.start (hD : W1.H p = none) (d : W1.Dom) : Dw T W1 p [] (upd W1.H p (.dK [])) := ⟨hD, d, .new hD, [], upd_same, rfl⟩
theorem Dw.le (c : Dw T W1 p l H') : Le T W1 (wov W1 p H') := .of c.ex fun s hs => by
  rcases List.mem_cons.mp hs with rfl | h
  · exact .inr (.of c.new)
  · exact .inl h
theorem Dw.dm (c : Dw T W1 p l H') : (wov W1 p H').Dom := fun s hs => by
  rcases List.mem_cons.mp hs with rfl | h
  · obtain ⟨kvs, e, _⟩ := c.is
    exact ⟨_, e, fun _ z => by cases z⟩
  · obtain ⟨o, h1, h2⟩ := c.dom s h
    exact ⟨o, c.ex.keep s o h1 h2, h2⟩
theorem Dw.step (c : Dw T W1 p l H') {W3 : Wo} (s : Step T (wov W1 p H') W3) : Dw T W1 p l W3.H := by
  obtain ⟨kvs, e, is⟩ := c.is
  exact ⟨c.new, c.dom, c.ex.trans s.ex, kvs, s.ex.dK e, is⟩
theorem putK_keys (kvs : List (Key × V)) (l : List Nat) (m : Nat) (v : V) (h : kvs.map (·.1) = l.map fun n : Nat => (Sum.inl (n : Int) : Key)) :
    (putK kvs (Sum.inl (m : Int)) v).map (·.1) = (SC.put l m).map fun n : Nat => (Sum.inl (n : Int) : Key) := by
  have hany : (kvs.any fun kv => decide (kv.1 = (Sum.inl (m : Int) : Key))) = decide (m ∈ l) := by
    rw [Bool.eq_iff_iff, List.any_eq_true, decide_eq_true_iff]
    constructor
    · rintro ⟨kv, hkv, he⟩
      have he := of_decide_eq_true he
      have : kv.1 ∈ kvs.map (·.1) := List.mem_map_of_mem hkv
      rw [h, he] at this
      obtain ⟨n, hn, e⟩ := List.mem_map.mp this
      have e2 : (n : Int) = (m : Int) := Sum.inl.inj e
      have : n = m := by omega
      exact this ▸ hn
    · intro hm
      have : (Sum.inl (m : Int) : Key) ∈ kvs.map (·.1) := by rw [h]; exact List.mem_map.mpr ⟨m, hm, rfl⟩
      obtain ⟨kv, hkv, e⟩ := List.mem_map.mp this
      exact ⟨kv, hkv, decide_eq_true e⟩
  unfold putK SC.put
  rw [hany]
  by_cases hm : m ∈ l
  · rw [if_pos (decide_eq_true hm), if_pos hm, ← h, List.map_map]
    refine List.map_congr_left fun kv _ => ?_
    show (if kv.1 = _ then (kv.1, v) else kv).1 = kv.1
    split <;> rfl
  · rw [if_neg (by simpa using hm), if_neg hm, List.map_append, List.map_append, h]
    rfl
/-- x = {} -/
theorem r_dnew {i : Nat} (d : W.Dom) (k : ∀ p, Dw T W p [] (upd W.H p (.dK [])) → tz Dn (σ.set i (some (.ref p))) (upd W.H p (.dK []))) : tSeq (tAsg tDNewK (gName i)) tz Dn σ W.H :=
  fun p hp => k p (.start hp d)
/-- d[m] = True -/
theorem r_dput {i m : Nat} (c : Dw T W0 p l H') (hi : σ[i]? = some (some (.ref p))) (h : Ev T te σ (wov W0 p H') m) (hz : l.length < 10000000)
    (k : ∀ H2, Le T (wov W0 p H') (wov W0 p H2) → Dw T W0 p (SC.put l m) H2 → Dn.nx σ H2) : sDPut (tVar i) te (tC (.bl true)) Dn σ H' := by
  refine ⟨_, hi, h (wov W0 p H') (.refl _) c.dm _ fun v W2 s2 i2 => ?_⟩
  have c2 := c.step s2
  have es : W2.S = p :: W0.S := s2.s
  have le := s2.le
  obtain ⟨S2, H2⟩ := W2
  cases es
  rw [is_nat i2]
  obtain ⟨kvs, e, hk⟩ := c2.is
  have hl : kvs.length = l.length := by
    have := congrArg List.length hk
    rwa [List.length_map, List.length_map] at this
  refine ⟨p, upd H2 p (.dK (putK kvs (Sum.inl (m : Int)) (.bl true))), rfl, DPut.k (k := Sum.inl (m : Int)) e (big7 (by omega)), k _ (le.trans (.chgK (List.mem_cons_self ..) e)) ?_⟩
  exact ⟨c2.new, c2.dom, c2.ex.mutK c2.new e, _, upd_same, putK_keys kvs l m _ hk⟩
theorem perm_rising {ys : List Int} {l : List Nat} (hp : ys.Perm (l.map fun n : Nat => (n : Int))) (hs : ys.Pairwise (· ≤ ·)) : ys = (SC.rising l).map fun n : Nat => (n : Int) := by
  have h1 : ((SC.rising l).map fun n : Nat => (n : Int)).Pairwise (· ≤ ·) := by
    rw [List.pairwise_map]
    refine (List.pairwise_mergeSort (le := fun a b => decide (a ≤ b)) (fun a b c h1 h2 => by simp at *; omega) (fun a b => by simp; omega) l).imp fun {a b} h => ?_
    have : a ≤ b := of_decide_eq_true h
    omega
  have h2 : ys.Perm ((SC.rising l).map fun n : Nat => (n : Int)) := hp.trans ((List.mergeSort_perm l _).symm.map _)
  exact h2.eq_of_pairwise (fun a b _ _ h1 h2 => Int.le_antisymm h1 h2) hs h1
/-- return sorted(d) -/
theorem r_dret {i : Nat} (c : Dw T W0 p l H') (hi : σ[i]? = some (some (.ref p))) (k : ∀ u W2, Step T W0 W2 → Is W2 u (SC.rising l) → Dn.rt u W2.H) : tRet (tCB RS.rSortedDict (tCons (tVar i) tNil)) Dn σ H' := by
  refine ⟨_, hi, ?_⟩
  obtain ⟨kvs, e, hk⟩ := c.is
  refine ⟨p, kvs, l.map fun n : Nat => (n : Int), rfl, e, by rw [hk, List.map_map]; rfl, fun ys q hp hs hq => ?_⟩
  have hy := perm_rising hp hs
  subst hy
  have s : Step T W0 ⟨W0.S, H'⟩ := step_of c.ex
  refine k (.ref q) ⟨W0.S, upd H' q (.lst (((SC.rising l).map fun n : Nat => (n : Int)).map V.int))⟩ (s.trans (step_of (W := ⟨W0.S, H'⟩) (.new hq))) ?_
  exact is_new_lst (W := ⟨W0.S, H'⟩) (c.dom.step s) hq (nats_isds (SC.rising l))
end
end SD

/-! ## PA5 -/
set_option Elab.async false
set_option linter.all false
set_option maxRecDepth 100000
set_option maxHeartbeats 2000000
namespace SC
def masks (k n : Nat) (sts : List Said) : List Nat := if n = 0 then [0] else rising (putAll ((worlds k n).map fun w => maskOf (holdsIn k n w) sts))
theorem fits_worlds {k n : Nat} {w : Wd} (h : w ∈ worlds k n) : Fits k n w := by
  unfold worlds at h
  split at h
  · obtain ⟨l, hl, rfl⟩ := List.mem_map.mp h
    exact .inl ⟨‹k = 0›, orders_length hl⟩
  split at h
  · obtain ⟨l, hl, rfl⟩ := List.mem_map.mp h
    exact .inr ⟨‹k = 1›, (intervals_is hl).1⟩
  split at h
  · obtain ⟨l, hl, rfl⟩ := List.mem_map.mp h
    exact ‹k = 2›
  · obtain ⟨a, ha, h⟩ := List.mem_flatMap.mp h
    obtain ⟨b, hb, rfl⟩ := List.mem_map.mp h
    exact ⟨‹¬ k = 0›, ‹¬ k = 1›, ‹¬ k = 2›, orders_length ha, orders_length hb⟩
theorem worlds_len {k n : Nat} (h : n ≤ 4) : (worlds k n).length ≤ 3000000 := by
  unfold worlds
  split
  · rw [List.length_map]
    exact Nat.le_trans (orders_small h) (by decide)
  split
  · rw [List.length_map]
    exact intervals_small h
  split
  · rw [List.length_map]
    unfold venn
    rw [List.length_map]
    refine Nat.le_trans (List.length_filter_le _ _) ?_
    rw [List.length_range]
    have : 2 ^ n ≤ 16 := Nat.le_trans (Nat.pow_le_pow_right (by decide) h) (by decide : 2 ^ 4 ≤ 16)
    exact Nat.le_trans (Nat.pow_le_pow_right (by decide) (show 2 ^ n - 1 ≤ 15 by omega)) (by decide)
  · have h0 := PC.ors4 h
    simp only [List.length_flatMap, List.length_map, List.map_const', List.sum_replicate_nat]
    exact Nat.le_trans (Nat.mul_le_mul h0 h0) (by decide)
theorem put_foldl_len : ∀ (ms l : List Nat), (ms.foldl put l).length ≤ l.length + ms.length
  | [], l => by simp
  | m :: ms, l => by
    rw [List.foldl_cons, List.length_cons]
    have := put_foldl_len ms (put l m)
    have := put_len l m
    omega
theorem putAll_len2 (ms : List Nat) : (putAll ms).length ≤ ms.length := by
  have := put_foldl_len ms []
  simpa [putAll] using this
end SC
namespace PC
open PySem PySem.Spec PyProof.Rows L2 SD
section
variable {P : Program} {w : World} {K : PySem.W.Frag} {mg : Str → Option Value} {base : Heap} {T : List (Addr × Str)}
abbrev sp_relation_in (T : List (Addr × Str)) : Sp := sp5 T (fun (k n : Nat) (w : SC.Wd) (i j : Nat) => n ≤ 4 ∧ SC.Fits k n w ∧ i < n ∧ j < n) SC.relIn
abbrev sp_set_reader (T : List (Addr × Str)) : Sp := sp3 T (fun (n _ _ : Nat) => n ≤ 4) (fun n i j => (SC.holders n i, SC.holders n j))
abbrev sp_holds_in (T : List (Addr × Str)) : Sp := sp4 T (fun (k n : Nat) (w : SC.Wd) (s : SC.Said) => n ≤ 4 ∧ SC.Fits k n w ∧ s.one < n ∧ s.other < n) SC.holdsIn
abbrev GoodSts (n : Nat) (sts : List SC.Said) : Prop := n ≤ 4 ∧ sts.length ≤ 6 ∧ ∀ s ∈ sts, s.one < n ∧ s.other < n
abbrev sp_set_masks (T : List (Addr × Str)) : Sp := sp2 T GoodSts fun (n : Nat) sts => SC.rising (SC.putAll ((SC.worlds 2 n).map fun w => SC.maskOf (SC.holdsIn 2 n w) sts))
abbrev sp_masks (T : List (Addr × Str)) : Sp := sp3 T (fun (_ : Nat) n sts => GoodSts n sts) SC.masks
abbrev s_relation_in : Stmt := topS 20
theorem sc_relation_in : FnScope ["kind", "many", "world", "one", "other"] ["kind", "many", "world", "one", "other"] (defScope s_relation_in) := ⟨rfl, rfl, rfl, by decide +kernel, rfl, by decide +kernel, by decide +kernel⟩
theorem c_relation_in (F : Fn K mg "relation_in" s_relation_in ["kind", "many", "world", "one", "other"]) (X : Txt mg) (C_compared : Cal P w K mg base L2.CX0 1 "compared" (sp_compared T)) (C_interval_relation : Cal P w K mg base L2.CX0 3 "interval_relation" (sp_interval_relation T)) (C_set_relation : Cal P w K mg base L2.CX0 1 "set_relation" (sp_set_relation T)) (C_holders : Cal P w K mg base L2.CX0 1 "holders" (sp_holders T)) : Cal P w K mg base L2.CX0 5 "relation_in" (sp_relation_in T) := by
  refine F.cal sc_relation_in sp5_len fun f cdv A outer s H vs Q E hr h => ⟨_,
    (pss_cons (ps_if (pt_cmpR op_eq (pv 0) (pe_gc X.points) (nomark _)) (pss_one (ps_ret (pe_c C_compared hr (pa_cons (pe_ix ix_list (pv 2) (pv 3) (fun _ _ => rfl)) (pa_cons (pe_ix ix_list (pv 2) (pv 4) (fun _ _ => rfl)) pa_nil))))) pss_nil)
      (pss_cons (ps_if (pt_cmpR op_eq (pv 0) (pe_gc X.intervals) (nomark _)) (pss_one (ps_ret (pe_c C_interval_relation hr (pa_cons (pe_ix ix_list (pv 2) (pe_op op_mul pe_int (pv 3)) (fun _ _ => rfl)) (pa_cons (pe_ix ix_list (pv 2) (pe_op op_add (pe_op op_mul pe_int (pv 3)) pe_int) (fun _ _ => rfl)) (pa_cons (pe_ix ix_list (pv 2) (pe_op op_mul pe_int (pv 4)) (fun _ _ => rfl)) (pa_cons (pe_ix ix_list (pv 2) (pe_op op_add (pe_op op_mul pe_int (pv 4)) pe_int) (fun _ _ => rfl)) pa_nil))))))) pss_nil)
      (pss_cons (ps_if (pt_cmpR op_eq (pv 0) (pe_gc X.sets) (nomark _)) (pss_one (ps_ret (pe_c C_set_relation hr (pa_cons (pv 2) (pa_cons (pe_c C_holders hr (pa_cons (pv 1) (pa_cons (pv 3) pa_nil))) (pa_cons (pe_c C_holders hr (pa_cons (pv 1) (pa_cons (pv 4) pa_nil))) pa_nil)))))) pss_nil)
      (pss_one (ps_ret (pe_op op_add (pe_op op_mul pe_int (pe_c C_compared hr (pa_cons (pe_ix ix_list (pe_ix ix_tup (pv 2) pe_int (fun _ _ => rfl)) (pv 3) (fun _ _ => rfl)) (pa_cons (pe_ix ix_list (pe_ix ix_tup (pv 2) pe_int (fun _ _ => rfl)) (pv 4) (fun _ _ => rfl)) pa_nil)))) (pe_c C_compared hr (pa_cons (pe_ix ix_list (pe_ix ix_tup (pv 2) pe_int (fun _ _ => rfl)) (pv 3) (fun _ _ => rfl)) (pa_cons (pe_ix ix_list (pe_ix ix_tup (pv 2) pe_int (fun _ _ => rfl)) (pv 4) (fun _ _ => rfl)) pa_nil))))))))),
    sp5_go (fun W v1 v2 v3 v4 v5 a1 a2 a3 a4 a5 d i1 i2 i3 i4 i5 hp Q k => ?_) h⟩
  obtain ⟨h4, hf, hi, hj⟩ := hp
  refine r_when (T := T) d (et_test (ev_eq (ev_var rfl i1) (ev_cn 0 rfl))) (fun hb W1 s1 => ?_) fun hb W1 s1 => ?_
  · obtain rfl : a1 = 0 := of_decide_eq_true hb
    cases a3 with
    | regions m => exact absurd (show (0 : Nat) = 2 from hf) (by decide)
    | two a b => exact absurd rfl hf.1
    | ranks l =>
      have hl : l.length = a2 := by
        rcases hf with ⟨_, e⟩ | ⟨e, _⟩
        · exact e
        · cases e
      have i3' : Is W1 v3 l := i3.step s1
      exact r_ret (T := T) (d.step s1) (ev_call2 (ea_cons (ev_ixL (ev_var rfl i3') (ev_var rfl (i4.step s1)) (getD_at (by omega))) (ea_cons (ev_ixL (ev_var rfl i3') (ev_var rfl (i5.step s1)) (getD_at (by omega))) ea_nil)) trivial) fun u W2 s2 i => k u W2 (s1.trans s2) i
  have n0 : a1 ≠ 0 := of_decide_eq_false hb
  refine r_when (T := T) (d.step s1) (et_test (ev_eq (ev_var rfl (i1.step s1)) (ev_cn 1 rfl))) (fun hb W2 s2 => ?_) fun hb W2 s2 => ?_
  · obtain rfl : a1 = 1 := of_decide_eq_true hb
    have s := s1.trans s2
    cases a3 with
    | regions m => exact absurd (show (1 : Nat) = 2 from hf) (by decide)
    | two a b => exact absurd rfl hf.2.1
    | ranks l =>
      have hl : l.length = 2 * a2 := by
        rcases hf with ⟨e, _⟩ | ⟨_, e⟩
        · cases e
        · exact e
      have i3' : Is W2 v3 l := i3.step s
      have e2 : ∀ {x : V} {m q : Nat}, Is W2 x m → m < a2 → (some (some x) = [some v1, some v2, some v3, some v4, some v5][q]?) → Ev T (tOp (rI CMul fun i j => .int (i * j)) (tC (.int 2)) (tVar q)) [some v1, some v2, some v3, some v4, some v5] W2 (2 * m) := fun ix _ hq => ev_mul (ev_cn 2 rfl) (ev_var hq.symm ix) (by decide)
      have j4 := i4.step s
      have j5 := i5.step s
      exact r_ret (T := T) (d.step s) (ev_call4 (ea_cons (ev_ixL (ev_var rfl i3') (e2 j4 hi rfl) (getD_at (by omega))) (ea_cons (ev_ixL (ev_var rfl i3') (ev_add (e2 j4 hi rfl) (ev_cn 1 rfl)) (getD_at (by omega)))
        (ea_cons (ev_ixL (ev_var rfl i3') (e2 j5 hj rfl) (getD_at (by omega))) (ea_cons (ev_ixL (ev_var rfl i3') (ev_add (e2 j5 hj rfl) (ev_cn 1 rfl)) (getD_at (by omega))) ea_nil)))) trivial) fun u W3 s3 i => k u W3 (s.trans s3) i
  have n1 : a1 ≠ 1 := of_decide_eq_false hb
  have s2' := s1.trans s2
  refine r_when (T := T) (d.step s2') (et_test (ev_eq (ev_var rfl (i1.step s2')) (ev_cn 2 rfl))) (fun hb W3 s3 => ?_) fun hb W3 s3 => ?_
  · obtain rfl : a1 = 2 := of_decide_eq_true hb
    have s := s2'.trans s3
    cases a3 with
    | ranks l =>
      rcases hf with ⟨e, _⟩ | ⟨e, _⟩ <;> cases e
    | two a b => exact absurd rfl hf.2.2.1
    | regions m =>
      have i3' : Is W3 v3 m := i3.step s
      exact r_ret (T := T) (d.step s) (ev_call3 (ea_cons (ev_var rfl i3') (ea_cons (ev_call2 (ea_cons (ev_var rfl (i2.step s)) (ea_cons (ev_var rfl (i4.step s)) ea_nil)) h4) (ea_cons (ev_call2 (ea_cons (ev_var rfl (i2.step s)) (ea_cons (ev_var rfl (i5.step s)) ea_nil)) h4) ea_nil))) trivial) fun u W4 s4 i => k u W4 (s.trans s4) i
  have n2 : a1 ≠ 2 := of_decide_eq_false hb
  have s := s2'.trans s3
  cases a3 with
  | ranks l => rcases hf with ⟨e, _⟩ | ⟨e, _⟩ <;> contradiction
  | regions m => exact absurd hf n2
  | two a b =>
    obtain ⟨_, _, _, ha, hb2⟩ := hf
    have i3' : Is W3 v3 (D.tup [Enc.enc a, Enc.enc b]) := i3.step s
    have j4 := i4.step s
    have j5 := i5.step s
    have ea : Ev T (tOp (rIxT K) (tVar 2) (tC (.int 0))) [some v1, some v2, some v3, some v4, some v5] W3 a := ev_ixT (ev_var rfl i3') (ev_cn 0 rfl) rfl
    have eb : Ev T (tOp (rIxT K) (tVar 2) (tC (.int 1))) [some v1, some v2, some v3, some v4, some v5] W3 b := ev_ixT (ev_var rfl i3') (ev_cn 1 rfl) rfl
    exact r_ret (T := T) (d.step s) (ev_add (ev_mul (ev_cn 3 rfl) (ev_call2 (ea_cons (ev_ixL ea (ev_var rfl j4) (getD_at (by omega))) (ea_cons (ev_ixL ea (ev_var rfl j5) (getD_at (by omega))) ea_nil)) trivial) (by decide))
      (ev_call2 (ea_cons (ev_ixL eb (ev_var rfl j4) (getD_at (by omega))) (ea_cons (ev_ixL eb (ev_var rfl j5) (getD_at (by omega))) ea_nil)) trivial)) fun u W4 s4 i => k u W4 (s.trans s4) i
abbrev s_set_reader : Stmt := topS 22
theorem sc_set_reader : FnScope ["many", "one", "other"] ["many", "one", "other"] (defScope s_set_reader) := ⟨rfl, rfl, rfl, by decide +kernel, rfl, by decide +kernel, by decide +kernel⟩
theorem c_set_reader (F : Fn K mg "set_reader" s_set_reader ["many", "one", "other"]) (X : Txt mg) (C_holders : Cal P w K mg base L2.CX0 1 "holders" (sp_holders T)) : Cal P w K mg base L2.CX0 2 "set_reader" (sp_set_reader T) := by
  refine F.cal sc_set_reader sp3_len fun f cdv A outer s H vs Q E hr h => ⟨_,
    (pss_one (ps_ret (pe_tup (pa_cons (pe_c C_holders hr (pa_cons (pv 0) (pa_cons (pv 1) pa_nil))) (pa_cons (pe_c C_holders hr (pa_cons (pv 0) (pa_cons (pv 2) pa_nil))) pa_nil))))),
    sp3_go (fun W v1 v2 v3 a1 a2 a3 d i1 i2 i3 hp Q k => ?_) h⟩
  exact r_ret (T := T) d (ev_tup2 (ea_cons (ev_call2 (ea_cons (ev_var rfl i1) (ea_cons (ev_var rfl i2) ea_nil)) hp) (ea_cons (ev_call2 (ea_cons (ev_var rfl i1) (ea_cons (ev_var rfl i3) ea_nil)) hp) ea_nil))) fun u W1 s1 i => k u W1 s1 i
abbrev s_holds_in : Stmt := topS 23
theorem sc_holds_in : FnScope ["kind", "many", "world", "statement", "one", "other", "relations"] ["kind", "many", "world", "statement"] (defScope s_holds_in) := ⟨rfl, rfl, rfl, by decide +kernel, rfl, by decide +kernel, by decide +kernel⟩
theorem c_holds_in (F : Fn K mg "holds_in" s_holds_in ["kind", "many", "world", "statement"]) (X : Txt mg) (C_relation_in : Cal P w K mg base L2.CX0 5 "relation_in" (sp_relation_in T)) : Cal P w K mg base L2.CX0 6 "holds_in" (sp_holds_in T) := by
  refine F.cal sc_holds_in sp4_len fun f cdv A outer s H vs Q E hr h => ⟨_,
    (pss_cons (ps_asg (pv 3) (SD.pg_tupK (K := K) (n := 3) (by rfl) (by rfl) (pgs_cons (pg_name (i := 4) sc_holds_in.nd rfl (Or.inl rfl)) (pgs_cons (pg_name (i := 5) sc_holds_in.nd rfl (Or.inl rfl)) (pgs_cons (pg_name (i := 6) sc_holds_in.nd rfl (Or.inl rfl)) pgs_nil)))))
      (pss_one (ps_ret (pe_cmpR op_eq (pe_op op_mod (pe_op op_shr (pv 6) (pe_c C_relation_in hr (pa_cons (pv 0) (pa_cons (pv 1) (pa_cons (pv 2) (pa_cons (pv 4) (pa_cons (pv 5) pa_nil))))))) pe_int) pe_int (nomark _))))),
    sp4_go (fun W v1 v2 v3 v4 a1 a2 a3 a4 d i1 i2 i3 i4 hp Q k => ?_) h⟩
  refine r_tup3 (T := T) (x := a4.one) (y := a4.other) (z := a4.rel) d (Ev.to (ev_var rfl i4) rfl) fun x y z W1 s1 j1 j2 j3 => ?_
  exact r_ret (T := T) (d.step s1) (ev_eq (ev_mod (ev_shr (ev_var rfl j3) (ev_call5 (ea_cons (ev_var rfl (i1.step s1)) (ea_cons (ev_var rfl (i2.step s1)) (ea_cons (ev_var rfl (i3.step s1)) (ea_cons (ev_var rfl j1) (ea_cons (ev_var rfl j2) ea_nil))))) hp)) (ev_cn 2 rfl) (by decide)) (ev_cn 1 rfl)) fun u W2 s2 i => k u W2 (s1.trans s2) i
theorem zip_at {α : Type} {xs : List α} {i : Nat} {x : α} (h : xs[i]? = some x) : ((List.range xs.length).zip xs)[i]? = some (i, x) := by
  have hlt := (List.getElem?_eq_some_iff.mp h).1
  rw [List.getElem?_zip_eq_some]
  exact ⟨by simp [hlt], h⟩
abbrev partMask (p : SC.Said → Bool) (sts : List SC.Said) (i : Nat) : Nat := (((List.range sts.length).zip sts).take i).foldl (SC.maskStep p) 0
theorem partMask_next {p : SC.Said → Bool} {sts : List SC.Said} {i : Nat} {x : SC.Said} (h : sts[i]? = some x) : partMask p sts (i + 1) = if p x = true then partMask p sts i + 2 ^ i else partMask p sts i := by
  unfold partMask
  rw [take_succ_of (zip_at h), List.foldl_append]
  rfl
theorem partMask_all {p : SC.Said → Bool} {sts : List SC.Said} : partMask p sts sts.length = SC.maskOf p sts := by
  unfold partMask SC.maskOf
  rw [List.take_of_length_le (by simp)]
theorem put_next {f : SC.Wd → Nat} {ws : List SC.Wd} {i : Nat} {x : SC.Wd} (h : ws[i]? = some x) : SC.putAll ((ws.take (i + 1)).map f) = SC.put (SC.putAll ((ws.take i).map f)) (f x) := by
  unfold SC.putAll
  rw [take_succ_of h, List.map_append, List.foldl_append]
  rfl
abbrev s_set_masks : Stmt := topS 24
theorem sc_set_masks : FnScope ["many", "statements", "pairs", "found", "world", "mask", "at", "statement", "one", "other", "relations"] ["many", "statements"] (defScope s_set_masks) := ⟨rfl, rfl, rfl, by decide +kernel, rfl, by decide +kernel, by decide +kernel⟩
theorem c_set_masks (F : Fn K mg "set_masks" s_set_masks ["many", "statements"]) (X : Txt mg) (C_set_reader : Cal P w K mg base L2.CX0 2 "set_reader" (sp_set_reader T)) (C_worlds : Cal P w K mg base L2.CX0 6 "worlds" (sp_worlds T)) (C_set_relation : Cal P w K mg base L2.CX0 1 "set_relation" (sp_set_relation T)) : Cal P w K mg base L2.CX0 7 "set_masks" (sp_set_masks T) := by
  refine F.cal sc_set_masks sp2_len fun f cdv A outer s H vs Q E hr h => ⟨_,
    (pss_cons (ps_setLc (i := 2) (own := [("one", 8), ("other", 9), ("relations", 10)]) rfl sc_set_masks.nd rfl rfl (sw_true rfl rfl rfl (by decide +kernel)) (pi_list (pv 1)) (blkOk_by (own := [("one", 8), ("other", 9), ("relations", 10)]) (N := ["many", "statements", "pairs", "found", "world", "mask", "at", "statement", "one", "other", "relations"]) (sc := defScope s_set_masks) (by decide +kernel)) (fun _ _ _ _ _ => SD.pg_tupK (K := K) (n := 3) (by rfl) (by rfl) (pgs_cons (pg_name (i := 8) sc_set_masks.nd rfl (Or.inl rfl)) (pgs_cons (pg_name (i := 9) sc_set_masks.nd rfl (Or.inl rfl)) (pgs_cons (pg_name (i := 10) sc_set_masks.nd rfl (Or.inl rfl)) pgs_nil)))) (fun _ _ _ _ _ => pts_nil) (fun _ _ _ _ _ => (pe_c C_set_reader hr (pa_cons (pv 0) (pa_cons (pv 8) (pa_cons (pv 9) pa_nil))))))
      (pss_cons (ps_set (i := 3) sc_set_masks.nd rfl (Or.inl rfl) pe_dnewK)
      (pss_cons (ps_for PassesOwn.never rfl (pi_list (pe_c C_worlds hr (pa_cons (pe_gc X.sets) (pa_cons (pv 0) pa_nil)))) (pg_name (i := 4) sc_set_masks.nd rfl (Or.inl rfl)) (pss_cons (ps_set (i := 5) sc_set_masks.nd rfl (Or.inl rfl) pe_int)
      (pss_cons (ps_for PassesOwn.never rfl (pi_enum (by rfl) X.enumerate (pa_cons (pv 1) pa_nil)) (SD.pg_tupK (K := K) (n := 2) (by rfl) (by rfl) (pgs_cons (pg_name (i := 6) sc_set_masks.nd rfl (Or.inl rfl)) (pgs_cons (pg_name (i := 7) sc_set_masks.nd rfl (Or.inl rfl)) pgs_nil))) (pss_one (ps_if (pt_cmpR op_eq (pe_op op_mod (pe_op op_shr (pe_ix ix_tup (pv 7) pe_int (fun _ _ => rfl)) (pe_c C_set_relation hr (pa_cons (pv 4) (pa_cons (pe_ix ix_tup (pe_ix ix_list (pv 2) (pv 6) (fun _ _ => rfl)) pe_int (fun _ _ => rfl)) (pa_cons (pe_ix ix_tup (pe_ix ix_list (pv 2) (pv 6) (fun _ _ => rfl)) pe_int (fun _ _ => rfl)) pa_nil))))) pe_int) pe_int (nomark _)) (pss_one (ps_aug (i := 5) sc_set_masks.nd rfl (Or.inl rfl) (pe_op op_shl pe_int (pv 6)) ip_add)) pss_nil)))
      (pss_one (ps_dput (hu_of hr) (pv 3) (pv 5) pe_bl rfl)))))
      (pss_one (ps_ret (pe_callB (RS.cr_sortedDict rfl) (by rfl) X.sorted (by decide +kernel) (pa_cons (pv 3) pa_nil))))))),
    sp2_go (fun W v1 v2 a1 a2 d i1 i2 hp Q k => ?_) h⟩
  obtain ⟨h4, h6, hs⟩ := hp
  refine r_asg (T := T) d (ev_mapU (fun s : SC.Said => (SC.holders a1 s.one, SC.holders a1 s.other)) SC.Said.one SC.Said.other SC.Said.rel (ev_var rfl i2) (fun _ => rfl) (by omega) (fun _ _ _ => rfl) fun x hx w1 w2 w3 W1 e1 j1 j2 j3 => ev_call3 (ea_cons (ev_var rfl (i1.mono e1)) (ea_cons (ev_var rfl j1) (ea_cons (ev_var rfl j2) ea_nil))) h4) fun u W1 s1 iu => ?_
  have d1 := d.step s1
  have j1 := i1.step s1
  have j2 := i2.step s1
  have hwl := SC.worlds_len (k := 2) h4
  refine r_dnew (T := T) d1 fun p c => ?_
  refine r_forL (W := wov W1 p _) (T := T) c.dm (ev_call2 (ea_cons (ev_gcn 2) (ea_cons (ev_var rfl (j1.mono c.le)) ea_nil)) h4) (fun j σ2 W2 => ∃ H2 x y z t, W2 = wov W1 p H2 ∧ σ2 = [some v1, some v2, some u, some (.ref p), x, y, z, t, none, none, none] ∧ Dw T W1 p (SC.putAll (((SC.worlds 2 a1).take j).map fun w => SC.maskOf (SC.holdsIn 2 a1 w) a2)) H2) (fun W3 s3 => ?_) (fun W3 s3 j wd u2 σ2 W2 hj ⟨H2, x, y, z, t, e1, e2, c2⟩ le iw => ?_) fun σ2 W2 ⟨H2, x, y, z, t, e1, e2, c2⟩ le => ?_
  · refine ⟨W3.H, none, none, none, none, ?_, rfl, c.step s3⟩
    obtain ⟨S3, H3⟩ := W3
    have es : S3 = p :: W1.S := s3.s
    subst es
    rfl
  · subst e1 e2
    have hjl := (List.getElem?_eq_some_iff.mp hj).1
    have hfit := SC.fits_worlds (List.mem_of_getElem? hj)
    obtain ⟨m, rfl⟩ : ∃ m, wd = .regions m := by
      cases wd with
      | regions m => exact ⟨m, rfl⟩
      | ranks l => rcases hfit with ⟨e, _⟩ | ⟨e, _⟩ <;> cases e
      | two a b => exact absurd rfl hfit.2.2.1
    have iw : Is (wov W1 p H2) u2 m := iw
    refine r_asg (W := wov W1 p H2) (T := T) c2.dm (ev_cn 0 rfl) fun w0 W4 s4 k4 => ?_
    rw [is_nat k4]
    have c4 := c2.step s4
    have es4 : W4.S = p :: W1.S := s4.s
    have le4 := s4.le
    obtain ⟨S4, H4⟩ := W4
    subst es4
    refine r_forE (W := wov W1 p H4) (T := T) c4.dm (ev_var rfl (j2.mono c4.le)) (fun i σ5 W5 => ∃ H5 z t, W5 = wov W1 p H5 ∧ σ5 = [some v1, some v2, some u, some (.ref p), some u2, some (.int (partMask (SC.holdsIn 2 a1 (.regions m)) a2 i : Nat)), z, t, none, none, none] ∧ Dw T W1 p (SC.putAll (((SC.worlds 2 a1).take j).map fun w => SC.maskOf (SC.holdsIn 2 a1 w) a2)) H5) (fun W5 s5 => ?_) (fun W5 s5 i st u5 σ6 W6 hi ⟨H6, z6, t6, e1, e2, c6⟩ le6 W7 s7 i7 => ?_) fun σ6 W6 ⟨H6, z6, t6, e1, e2, c6⟩ le6 => ?_
    · refine ⟨W5.H, z, t, ?_, rfl, c4.step s5⟩
      obtain ⟨S3, H3⟩ := W5
      have es : S3 = p :: W1.S := s5.s
      subst es
      rfl
    · subst e1 e2
      have hil := (List.getElem?_eq_some_iff.mp hi).1
      have c7 := c6.step s7
      have es7 : W7.S = p :: W1.S := s7.s
      have le7 := s7.le
      obtain ⟨S7, H7⟩ := W7
      subst es7
      have le57 := le6.trans le7
      have le17 : Le T W1 (wov W1 p H7) := c7.le
      have iw7 : Is (wov W1 p H7) u2 m := iw.mono ((le4.trans s5.le).trans le57)
      have i7' : Is (wov W1 p H7) u5 (D.tup [Enc.enc st.one, Enc.enc st.other, Enc.enc st.rel]) := i7
      have eix : ∀ {σ' : L2.St} {x : V} {nm : Nat}, σ'[2]? = some (some u) → σ'[6]? = some (some (.int (i : Int))) → (nm = 0 ∨ nm = 1) → Ev T (tOp (rIxT K) (tOp (rIxL K) (tVar 2) (tVar 6)) (tC (.int (nm : Int)))) σ' (wov W1 p H7) (if nm = 0 then SC.holders a1 st.one else SC.holders a1 st.other) := by
        intro σ' x nm hu hi6 hnm
        refine ev_ixT (ds := [Enc.enc (SC.holders a1 st.one), Enc.enc (SC.holders a1 st.other)]) (Ev.to (ev_ixL (x := (SC.holders a1 st.one, SC.holders a1 st.other)) (ev_var hu (iu.mono le17)) (ev_var hi6 (nat_is rfl)) ?_) rfl) (ev_cn nm rfl) ?_
        · rw [List.getElem?_map, hi]
          rfl
        · rcases hnm with rfl | rfl <;> rfl
      refine r_if (W := wov W1 p H7) (T := T) c7.dm (et_test (ev_eq (ev_mod (ev_shr (ev_ixT (x := st.rel) (ev_var rfl i7') (ev_cn 2 rfl) rfl) (ev_call3 (ea_cons (ev_var rfl iw7) (ea_cons (eix (x := u5) (nm := 0) rfl rfl (.inl rfl)) (ea_cons (eix (x := u5) (nm := 1) rfl rfl (.inr rfl)) ea_nil))) trivial)) (ev_cn 2 rfl) (by decide)) (ev_cn 1 rfl))) (fun hb W8 s8 => ?_) fun hb W8 s8 => ?_
      · have c8 := c7.step s8
        have es8 : W8.S = p :: W1.S := s8.s
        have le8 := s8.le
        obtain ⟨S8, H8⟩ := W8
        subst es8
        refine r_aug (W := wov W1 p H8) (T := T) c8.dm rfl (ev_shl (ev_cn 1 rfl) (ev_var rfl (nat_is rfl)) ⟨by omega, by decide⟩) fun W9 s9 => ⟨W9, rfl, (le57.trans le8).trans s9.le, W9.H, some (.int (i : Int)), some u5, ?_, ?_, c8.step s9⟩
        · obtain ⟨S9, H9⟩ := W9
          have es9 : S9 = p :: W1.S := s9.s
          subst es9
          rfl
        · rw [partMask_next hi, if_pos (show SC.holdsIn 2 a1 (.regions m) st = true from hb), Nat.one_mul]
          rfl
      · have c8 := c7.step s8
        have es8 : W8.S = p :: W1.S := s8.s
        have le8 := s8.le
        obtain ⟨S8, H8⟩ := W8
        subst es8
        refine ⟨wov W1 p H8, rfl, le57.trans le8, H8, some (.int (i : Int)), some u5, rfl, ?_, c8⟩
        rw [partMask_next hi, if_neg (show ¬ SC.holdsIn 2 a1 (.regions m) st = true by rw [show SC.holdsIn 2 a1 (.regions m) st = false from hb]; decide)]
        rfl
    · subst e1 e2
      rw [partMask_all]
      refine r_dput c6 rfl (ev_var rfl (nat_is rfl)) ?_ fun H7 le7 c7 => ⟨wov W1 p H7, rfl, (le.trans le4).trans (le6.trans le7), H7, _, _, _, _, rfl, rfl, ?_⟩
      · refine Nat.lt_of_le_of_lt (SC.putAll_len2 _) ?_
        rw [List.length_map, List.length_take]
        omega
      · rw [put_next hj]
        exact c7
  · subst e1 e2
    rw [List.take_length] at c2
    exact r_dret c2 rfl fun u W5 s5 i5 => k u W5 (s1.trans s5) i5
theorem masks_is {k n : Nat} (h : n ≠ 0) (sts : List SC.Said) : SC.masks k n sts = SC.rising (SC.putAll ((SC.worlds k n).map fun w => SC.maskOf (SC.holdsIn k n w) sts)) := if_neg h
abbrev s_masks : Stmt := topS 25
theorem sc_masks : FnScope ["kind", "many", "statements", "found", "world", "mask", "at", "statement"] ["kind", "many", "statements"] (defScope s_masks) := ⟨rfl, rfl, rfl, by decide +kernel, rfl, by decide +kernel, by decide +kernel⟩
theorem c_masks (F : Fn K mg "masks" s_masks ["kind", "many", "statements"]) (X : Txt mg) (C_set_masks : Cal P w K mg base L2.CX0 7 "set_masks" (sp_set_masks T)) (C_worlds : Cal P w K mg base L2.CX0 6 "worlds" (sp_worlds T)) (C_holds_in : Cal P w K mg base L2.CX0 6 "holds_in" (sp_holds_in T)) : Cal P w K mg base L2.CX0 8 "masks" (sp_masks T) := by
  refine F.cal sc_masks sp3_len fun f cdv A outer s H vs Q E hr h => ⟨_,
    (pss_cons (ps_if (pt_cmpR op_eq (pv 1) pe_int (nomark _)) (pss_one (ps_ret (pe_lst (pa_cons pe_int pa_nil)))) pss_nil)
      (pss_cons (ps_if (pt_cmpR op_eq (pv 0) (pe_gc X.sets) (nomark _)) (pss_one (ps_ret (pe_c C_set_masks hr (pa_cons (pv 1) (pa_cons (pv 2) pa_nil))))) pss_nil)
      (pss_cons (ps_set (i := 3) sc_masks.nd rfl (Or.inl rfl) pe_dnewK)
      (pss_cons (ps_for PassesOwn.never rfl (pi_list (pe_c C_worlds hr (pa_cons (pv 0) (pa_cons (pv 1) pa_nil)))) (pg_name (i := 4) sc_masks.nd rfl (Or.inl rfl)) (pss_cons (ps_set (i := 5) sc_masks.nd rfl (Or.inl rfl) pe_int)
      (pss_cons (ps_for PassesOwn.never rfl (pi_enum (by rfl) X.enumerate (pa_cons (pv 2) pa_nil)) (SD.pg_tupK (K := K) (n := 2) (by rfl) (by rfl) (pgs_cons (pg_name (i := 6) sc_masks.nd rfl (Or.inl rfl)) (pgs_cons (pg_name (i := 7) sc_masks.nd rfl (Or.inl rfl)) pgs_nil))) (pss_one (ps_if (pt_val (pe_c C_holds_in hr (pa_cons (pv 0) (pa_cons (pv 1) (pa_cons (pv 4) (pa_cons (pv 7) pa_nil)))))) (pss_one (ps_aug (i := 5) sc_masks.nd rfl (Or.inl rfl) (pe_op op_shl pe_int (pv 6)) ip_add)) pss_nil)))
      (pss_one (ps_dput (hu_of hr) (pv 3) (pv 5) pe_bl rfl)))))
      (pss_one (ps_ret (pe_callB (RS.cr_sortedDict rfl) (by rfl) X.sorted (by decide +kernel) (pa_cons (pv 3) pa_nil)))))))),
    sp3_go (fun W v1 v2 v3 a1 a2 a3 d i1 i2 i3 hp Q k => ?_) h⟩
  obtain ⟨h4, h6, hs⟩ := hp
  refine r_when (T := T) d (et_test (ev_eq (ev_var rfl i2) (ev_cn 0 rfl))) (fun hb W1 s1 => ?_) fun hb W1 s1 => ?_
  · obtain rfl : a2 = 0 := of_decide_eq_true hb
    exact r_ret (T := T) (d.step s1) (ev_lst (l := [0]) (ea_cons (ev_cn 0 rfl) ea_nil) (by simp)) fun u W2 s2 i => k u W2 (s1.trans s2) i
  have n0 : a2 ≠ 0 := of_decide_eq_false hb
  refine r_when (T := T) (d.step s1) (et_test (ev_eq (ev_var rfl (i1.step s1)) (ev_cn 2 rfl))) (fun hb W2 s2 => ?_) fun hb W2 s2 => ?_
  · obtain rfl : a1 = 2 := of_decide_eq_true hb
    have s := s1.trans s2
    refine r_ret (T := T) (d.step s) (ev_call2 (ea_cons (ev_var rfl (i2.step s)) (ea_cons (ev_var rfl (i3.step s)) ea_nil)) ⟨h4, h6, hs⟩) fun u W3 s3 i => k u W3 (s.trans s3) ?_
    rw [masks_is n0]
    exact i
  have s' := s1.trans s2
  rw [masks_is n0] at k
  have j1 := i1.step s'
  have j2 := i2.step s'
  have j3 := i3.step s'
  have hwl := SC.worlds_len (k := a1) h4
  refine r_dnew (W := W2) (T := T) (d.step s') fun p c => ?_
  refine r_forL (W := wov W2 p _) (T := T) c.dm (ev_call2 (ea_cons (ev_var rfl (j1.mono c.le)) (ea_cons (ev_var rfl (j2.mono c.le)) ea_nil)) h4) (fun j σ2 W3 => ∃ H2 x y z t, W3 = wov W2 p H2 ∧ σ2 = [some v1, some v2, some v3, some (.ref p), x, y, z, t] ∧ Dw T W2 p (SC.putAll (((SC.worlds a1 a2).take j).map fun w => SC.maskOf (SC.holdsIn a1 a2 w) a3)) H2) (fun W3 s3 => ?_) (fun W3 s3 j wd u2 σ2 W4 hj ⟨H2, x, y, z, t, e1, e2, c2⟩ le iw => ?_) fun σ2 W4 ⟨H2, x, y, z, t, e1, e2, c2⟩ le => ?_
  · refine ⟨W3.H, none, none, none, none, ?_, rfl, c.step s3⟩
    obtain ⟨S3, H3⟩ := W3
    have es : S3 = p :: W2.S := s3.s
    subst es
    rfl
  · subst e1 e2
    have hjl := (List.getElem?_eq_some_iff.mp hj).1
    have hfit := SC.fits_worlds (List.mem_of_getElem? hj)
    refine r_asg (W := wov W2 p H2) (T := T) c2.dm (ev_cn 0 rfl) fun w0 W4 s4 k4 => ?_
    rw [is_nat k4]
    have c4 := c2.step s4
    have es4 : W4.S = p :: W2.S := s4.s
    have le4 := s4.le
    obtain ⟨S4, H4⟩ := W4
    subst es4
    refine r_forE (W := wov W2 p H4) (T := T) c4.dm (ev_var rfl (j3.mono c4.le)) (fun i σ5 W5 => ∃ H5 z t, W5 = wov W2 p H5 ∧ σ5 = [some v1, some v2, some v3, some (.ref p), some u2, some (.int (partMask (SC.holdsIn a1 a2 wd) a3 i : Nat)), z, t] ∧ Dw T W2 p (SC.putAll (((SC.worlds a1 a2).take j).map fun w => SC.maskOf (SC.holdsIn a1 a2 w) a3)) H5) (fun W5 s5 => ?_) (fun W5 s5 i st u5 σ6 W6 hi ⟨H6, z6, t6, e1, e2, c6⟩ le6 W7 s7 i7 => ?_) fun σ6 W6 ⟨H6, z6, t6, e1, e2, c6⟩ le6 => ?_
    · refine ⟨W5.H, z, t, ?_, rfl, c4.step s5⟩
      obtain ⟨S3, H3⟩ := W5
      have es : S3 = p :: W2.S := s5.s
      subst es
      rfl
    · subst e1 e2
      have hil := (List.getElem?_eq_some_iff.mp hi).1
      have hst := hs st (List.mem_of_getElem? hi)
      have c7 := c6.step s7
      have es7 : W7.S = p :: W2.S := s7.s
      have le7 := s7.le
      obtain ⟨S7, H7⟩ := W7
      subst es7
      have le57 := le6.trans le7
      have le17 : Le T W2 (wov W2 p H7) := c7.le
      have iw7 := iw.mono ((le4.trans s5.le).trans le57)
      refine r_if (W := wov W2 p H7) (T := T) c7.dm (et_B (ev_call4 (ea_cons (ev_var rfl (j1.mono le17)) (ea_cons (ev_var rfl (j2.mono le17)) (ea_cons (ev_var rfl iw7) (ea_cons (ev_var rfl i7) ea_nil)))) ⟨h4, hfit, hst.1, hst.2⟩)) (fun hb W8 s8 => ?_) fun hb W8 s8 => ?_
      · have c8 := c7.step s8
        have es8 : W8.S = p :: W2.S := s8.s
        have le8 := s8.le
        obtain ⟨S8, H8⟩ := W8
        subst es8
        refine r_aug (W := wov W2 p H8) (T := T) c8.dm rfl (ev_shl (ev_cn 1 rfl) (ev_var rfl (nat_is rfl)) ⟨by omega, by decide⟩) fun W9 s9 => ⟨W9, rfl, (le57.trans le8).trans s9.le, W9.H, some (.int (i : Int)), some u5, ?_, ?_, c8.step s9⟩
        · obtain ⟨S9, H9⟩ := W9
          have es9 : S9 = p :: W2.S := s9.s
          subst es9
          rfl
        · rw [partMask_next hi, if_pos hb, Nat.one_mul]
          rfl
      · have c8 := c7.step s8
        have es8 : W8.S = p :: W2.S := s8.s
        have le8 := s8.le
        obtain ⟨S8, H8⟩ := W8
        subst es8
        refine ⟨wov W2 p H8, rfl, le57.trans le8, H8, some (.int (i : Int)), some u5, rfl, ?_, c8⟩
        rw [partMask_next hi, if_neg (by rw [hb]; decide)]
        rfl
    · subst e1 e2
      rw [partMask_all]
      refine r_dput c6 rfl (ev_var rfl (nat_is rfl)) ?_ fun H7 le7 c7 => ⟨wov W2 p H7, rfl, (le.trans le4).trans (le6.trans le7), H7, _, _, _, _, rfl, rfl, ?_⟩
      · refine Nat.lt_of_le_of_lt (SC.putAll_len2 _) ?_
        rw [List.length_map, List.length_take]
        omega
      · rw [put_next hj]
        exact c7
  · subst e1 e2
    rw [List.take_length] at c2
    exact r_dret c2 rfl fun u W5 s5 i5 => k u W5 (s'.trans s5) i5
end
end PC

/-! ## SD7 -/
set_option Elab.async false
set_option linter.all false
set_option maxRecDepth 100000
set_option maxHeartbeats 2000000
/-! promises that want the tables of code; a def whose code object is told -/
namespace SD
open PySem PySem.Spec PyProof.Rows L2
section
variable {α β γ δ ε : Type} [Enc α] [Enc β] [Enc γ] [Enc δ] [Enc ε] {T : List (Addr × Str)} {W W' W1 W2 : Wo} {σ : L2.St} {tA : TA} {E : XK}
def sp2t (T : List (Addr × Str)) (Pre : α → β → Prop) (f : α → β → γ) : Sp := fun vs H Q E => LamX.Tabs T H ∧ sp2 T Pre f vs H Q E
theorem ev_call2t {Pre : α → β → Prop} {f : α → β → γ} {a : α} {b : β} (ha : EvA T tA σ W [Enc.enc a, Enc.enc b]) (hp : Pre a b) (ht : LamX.Tabs T W.H) : Ev T (tCall (sp2t T Pre f) [] E tA) σ W (f a b) := fun W1 e d Q q =>
  ha W1 e d _ fun vs W2 e2 is => ⟨e2.ex.tabs (e.tabs ht), W2.S, a, b, d.step e2, by rw [List.append_nil]; exact is, hp, fun u W3 e3 i => q u W3 (e2.trans e3) i⟩
theorem sp2t_len {Pre : α → β → Prop} {f : α → β → γ} (vs : List V) (H : Hp) (Q : VK) (E : XK) (h : sp2t T Pre f vs H Q E) : vs.length = 2 := sp2_len vs H Q E h.2
theorem sp2t_go {Pre : α → β → Prop} {f : α → β → γ} {N : List Str} {t : TS} (k : ∀ (W : Wo), LamX.Tabs T W.H → ∀ (v u : V) (a : α) (b : β), W.Dom → Is W v a → Is W u b → Pre a b → ∀ Q : VK, (∀ u W2, Step T W W2 → Is W2 u (f a b) → Q u W2.H) → t (EndsOf Q) (start N [v, u]) W.H)
    {vs : List V} {H : Hp} {Q : VK} {E : XK} (h : sp2t T Pre f vs H Q E) : t (EndsOf Q) (start N vs) H := by
  obtain ⟨ht, S, a, b, d, is, hp, q⟩ := h
  obtain ⟨v, u, rfl, i1, i2⟩ := iss2 is
  exact k ⟨S, H⟩ ht v u a b d i1 i2 hp Q q
end
/-- a def as it stands behind the top, with its code object -/
structure FnC (K : PySem.W.Frag) (mg : Str → Option Value) (x : Str) (st : Stmt) (ps : List Str) (c : Addr) : Prop where
  ex : ∃ (f : Addr) (oc : Value) (od : Option Addr) (kV doc pm : Value) (an : Option Addr) (ct : Value) (osl : Array (Option Value)),
    K.lookup f = some ⟨oc, od, .func (PySem.W.fnOf x x (defArgs st) (defBody st) (defScope st) .none kV doc pm an (.ref c) ct), osl⟩ ∧ PySem.W.codeIn K (.ref c) x = true ∧ PySem.W.keepIn K (.ref f) = true ∧ mg x = some (.ref f) ∧
    Binds K (PySem.W.fnOf x x (defArgs st) (defBody st) (defScope st) .none kV doc pm an (.ref c) ct) ps []
section
variable {P : Program} {w : World} {K : PySem.W.Frag} {mg : Str → Option Value} {base : Heap}
theorem FnC.cal {x : Str} {st : Stmt} {N ps : List Str} {k : Nat} {sp : Sp} {c : Addr} (F : FnC K mg x st ps c) (S : FnScope N ps (defScope st)) (len : ∀ vs H Q E, sp vs H Q E → vs.length = ps.length)
    (hbody : ∀ (f : Addr) (A : Around) (outer : List Env) (s : Shared) (H : Hp) (vs : List V) (Q : VK) (E : XK), Room k (A.deeper (envOfC x (defScope st) s.heap.objs.size f (.ref c))) → sp vs H Q E →
      ∃ t, PSs (cxOf L2.CX0 P w K mg base N x (defScope st) f (.ref c) A outer s H E).nox (defBody st) t ∧ t { nx := fun _ H' => Q .non H', rt := Q } (start N vs) H) : Cal P w K mg base L2.CX0 (k + 1) x sp := by
  obtain ⟨f, oc, od, kV, doc, pm, an, ct, osl, lk, hcd, kp, hm, b⟩ := F.ex
  refine ⟨f, _, ps, fn_of lk hcd S len fun A outer s H vs Q E hr hsp => ?_, hm, kp, b⟩
  obtain ⟨t, h, q⟩ := hbody f A outer s H vs Q E hr hsp
  exact ⟨t, h.nox, q⟩
end
end SD

/-! ## PA6 -/
set_option Elab.async false
set_option linter.all false
set_option maxRecDepth 100000
set_option maxHeartbeats 2000000
namespace PC
open PySem PySem.Spec PyProof.Rows L2 SD
section
variable {P : Program} {w : World} {K : PySem.W.Frag} {mg : Str → Option Value} {base : Heap} {T : List (Addr × Str)}
abbrev sp_is_within (T : List (Addr × Str)) : Sp := sp2 T (fun _ _ : Nat => True) SC.isWithin
abbrev sp_is_consistent (T : List (Addr × Str)) : Sp := sp2 T (fun (l : List Nat) (_ : Nat) => l.length ≤ 1000) SC.isConsistent
abbrev sp_numbers_of (T : List (Addr × Str)) : Sp := sp2 T (fun (_ n : Nat) => n ≤ 100) SC.numbersOf
abbrev sp_minimal (T : List (Addr × Str)) : Sp := sp1 T (fun (l : List Nat) => l.length ≤ 1000) SC.minimal
abbrev sp_ordered (T : List (Addr × Str)) : Sp := sp2t T (fun (l : List Nat) (n : Nat) => l.length ≤ 1000 ∧ n ≤ 100) SC.ordered
abbrev sp_conflicts (T : List (Addr × Str)) : Sp := sp2t T (fun (l : List Nat) (n : Nat) => l.length ≤ 1000 ∧ n ≤ 6) SC.conflicts
abbrev sp_cures (T : List (Addr × Str)) : Sp := sp2t T (fun (l : List Nat) (n : Nat) => l.length ≤ 1000 ∧ n ≤ 6) SC.cures
abbrev sp_does_imply (T : List (Addr × Str)) : Sp := sp3 T (fun (l : List Nat) (_ _ : Nat) => l.length ≤ 1000) SC.doesImply
abbrev sp_reasons (T : List (Addr × Str)) : Sp := sp2t T (fun (l : List Nat) (n : Nat) => l.length ≤ 1000 ∧ n ≤ 6) SC.reasons
abbrev s_is_within : Stmt := topS 26
theorem sc_is_within : FnScope ["part", "whole"] ["part", "whole"] (defScope s_is_within) := ⟨rfl, rfl, rfl, by decide +kernel, rfl, by decide +kernel, by decide +kernel⟩
theorem c_is_within (F : Fn K mg "is_within" s_is_within ["part", "whole"]) (X : Txt mg)  : Cal P w K mg base L2.CX0 1 "is_within" (sp_is_within T) := by
  refine F.cal sc_is_within sp2_len fun f cdv A outer s H vs Q E hr h => ⟨_,
    (pss_one (ps_ret (pe_cmpR op_eq (pe_op op_and (pv 0) (pe_un un_inv (pv 1))) pe_int (nomark _)))),
    sp2_go (fun W v1 v2 a1 a2 d i1 i2 hp Q k => ?_) h⟩
  exact r_ret (T := T) d (ev_eq (ev_andn (ev_var rfl i1) (ev_var rfl i2)) (ev_cn 0 rfl)) fun u W1 s1 i => k u W1 s1 i
abbrev s_is_consistent : Stmt := topS 27
theorem sc_is_consistent : FnScope ["known", "part", "mask"] ["known", "part"] (defScope s_is_consistent) := ⟨rfl, rfl, rfl, by decide +kernel, rfl, by decide +kernel, by decide +kernel⟩
theorem c_is_consistent (F : Fn K mg "is_consistent" s_is_consistent ["known", "part"]) (X : Txt mg) (C_is_within : Cal P w K mg base L2.CX0 1 "is_within" (sp_is_within T)) : Cal P w K mg base L2.CX0 2 "is_consistent" (sp_is_consistent T) := by
  refine F.cal sc_is_consistent sp2_len fun f cdv A outer s H vs Q E hr h => ⟨_,
    (pss_one (ps_ret (pe_callB (cr_any rfl) (by rfl) X.any (by decide +kernel) (pa_cons (pe_lc (own := [("mask", 2)]) (by rfl) sc_is_consistent.nd (pi_list (pv 0)) (blkOk_by (own := [("mask", 2)]) (N := ["known", "part", "mask"]) (sc := defScope s_is_consistent) (by decide +kernel)) (fun _ _ _ _ _ => pg_name (i := 2) sc_is_consistent.nd rfl (Or.inl rfl)) (fun _ _ _ _ _ => pts_nil) (fun _ _ _ _ _ => (pe_c C_is_within hr (pa_cons (pv 1) (pa_cons (pv 2) pa_nil))))) pa_nil)))),
    sp2_go (fun W v1 v2 a1 a2 d i1 i2 hp Q k => ?_) h⟩
  refine r_ret (T := T) d (ev_any (ev_map (fun m => SC.isWithin a2 m) (ev_var rfl i1) (by omega) (fun _ => rfl) fun m hm v W1 e i => ev_call2 (ea_cons (ev_var rfl (i2.mono e)) (ea_cons (ev_var rfl i) ea_nil)) trivial)) fun u W1 s1 i => k u W1 s1 ?_
  rw [List.any_map] at i
  exact i
abbrev s_numbers_of : Stmt := topS 28
theorem sc_numbers_of : FnScope ["part", "many", "number"] ["part", "many"] (defScope s_numbers_of) := ⟨rfl, rfl, rfl, by decide +kernel, rfl, by decide +kernel, by decide +kernel⟩
theorem c_numbers_of (F : Fn K mg "numbers_of" s_numbers_of ["part", "many"]) (X : Txt mg)  : Cal P w K mg base L2.CX0 1 "numbers_of" (sp_numbers_of T) := by
  refine F.cal sc_numbers_of sp2_len fun f cdv A outer s H vs Q E hr h => ⟨_,
    (pss_one (ps_ret (pe_lc (own := [("number", 2)]) (by rfl) sc_numbers_of.nd (pi_range1 (by rfl) X.range (pa_cons (pv 1) pa_nil)) (blkOk_by (own := [("number", 2)]) (N := ["part", "many", "number"]) (sc := defScope s_numbers_of) (by decide +kernel)) (fun _ _ _ _ _ => pg_name (i := 2) sc_numbers_of.nd rfl (Or.inl rfl)) (fun _ _ _ _ _ => pts_one (pt_cmpR op_eq (pe_op op_mod (pe_op op_shr (pv 0) (pv 2)) pe_int) pe_int (nomark _))) (fun _ _ _ _ _ => (pv 2))))),
    sp2_go (fun W v1 v2 a1 a2 d i1 i2 hp Q k => ?_) h⟩
  refine r_ret (T := T) d (ev_lcR (fun i => decide (a1 / 2 ^ i % 2 = 1)) (fun i => i) (ea_cons (ev_var rfl i2) ea_nil) (by omega) (fun _ => rfl) (fun x hx W1 e => et_test (ev_eq (ev_mod (ev_shr (ev_var rfl (i1.mono e)) (ev_var rfl (nat_is rfl))) (ev_cn 2 rfl) (by decide)) (ev_cn 1 rfl))) fun x hx _ W1 e => ev_var rfl (nat_is rfl)) fun u W1 s1 i => k u W1 s1 ?_
  rw [List.map_id'] at i
  exact i
theorem minimal_next {l : List Nat} {i x : Nat} (h : l[i]? = some x) (p : Nat → Bool) : (l.take (i + 1)).filter p = if p x = true then (l.take i).filter p ++ [x] else (l.take i).filter p := by
  rw [take_succ_of h, List.filter_append]
  by_cases hb : p x = true
  · rw [if_pos hb, List.filter_cons_of_pos hb, List.filter_nil]
  · rw [if_neg hb, List.filter_cons_of_neg hb, List.filter_nil, List.append_nil]
abbrev s_minimal : Stmt := topS 29
theorem sc_minimal : FnScope ["parts", "found", "part", "other"] ["parts"] (defScope s_minimal) := ⟨rfl, rfl, rfl, by decide +kernel, rfl, by decide +kernel, by decide +kernel⟩
theorem c_minimal (F : Fn K mg "minimal" s_minimal ["parts"]) (X : Txt mg) (C_is_within : Cal P w K mg base L2.CX0 1 "is_within" (sp_is_within T)) : Cal P w K mg base L2.CX0 2 "minimal" (sp_minimal T) := by
  refine F.cal sc_minimal sp1_len fun f cdv A outer s H vs Q E hr h => ⟨_,
    (pss_cons (ps_set (i := 1) sc_minimal.nd rfl (Or.inl rfl) (pe_lst pa_nil))
      (pss_cons (ps_for PassesOwn.never rfl (pi_list (pv 0)) (pg_name (i := 2) sc_minimal.nd rfl (Or.inr rfl)) (pss_one (ps_if (pt_not (pt_val (pe_callB (cr_any rfl) (by rfl) X.any (by decide +kernel) (pa_cons (pe_lc (own := [("other", 3)]) (by rfl) sc_minimal.nd (pi_list (pv 0)) (blkOk_by (own := [("other", 3)]) (N := ["parts", "found", "part", "other"]) (sc := defScope s_minimal) (by decide +kernel)) (fun _ _ _ _ _ => pg_name (i := 3) sc_minimal.nd rfl (Or.inl rfl)) (fun _ _ _ _ _ => pts_nil) (fun _ _ _ _ _ => (pe_and (pe_cmpR op_ne (pv 3) (pv 2) (nomark _)) (pe_one (pe_c C_is_within hr (pa_cons (pv 3) (pa_cons (pv 2) pa_nil))))))) pa_nil)))) (pss_one (ps_expr (pe_bm PySem.F.plainAttrs_list PySem.F.slot_list_append PySem.F.type_list_append mt_append (pv 1) (pa_cons (pv 2) pa_nil)))) pss_nil)))
      (pss_one (ps_ret (pv 1))))),
    sp1_go (fun W v1 a1 d i1 hp Q k => ?_) h⟩
  refine r_new (β := Nat) (T := T) d fun p c => ?_
  refine r_forL (W := wov W p _) (T := T) c.dm (ev_var rfl (i1.mono c.le)) (fun j σ2 W2 => ∃ H2 x, W2 = wov W p H2 ∧ σ2 = [some v1, some (.ref p), x, none] ∧ Cw T W p ((a1.take j).filter fun part => !(a1.any fun o => decide (o ≠ part) && SC.isWithin o part)) H2) (fun W3 s3 => ?_) (fun W3 s3 j x u2 σ2 W2 hj ⟨H2, x2, e1, e2, c2⟩ le iu => ?_) fun σ2 W2 ⟨H2, x2, e1, e2, c2⟩ le => ?_
  · refine ⟨W3.H, none, ?_, rfl, c.step s3⟩
    obtain ⟨S3, H3⟩ := W3
    have es : S3 = p :: W.S := s3.s
    subst es
    rfl
  · subst e1 e2
    have hjl := (List.getElem?_eq_some_iff.mp hj).1
    have le2 : Le T W (wov W p H2) := c2.le
    have hml : ((a1.take j).filter fun part => !(a1.any fun o => decide (o ≠ part) && SC.isWithin o part)).length ≤ 1000 := by
      refine Nat.le_trans (List.length_filter_le _ _) ?_
      rw [List.length_take]
      omega
    refine r_if (W := wov W p H2) (T := T) c2.dm (et_not (et_B (ev_any (ev_map (fun o => decide (o ≠ x) && SC.isWithin o x) (ev_var rfl (i1.mono le2)) (by omega) (fun _ => rfl) fun m hm v W1 e i => ev_andV (ev_ne (ev_var rfl i) (ev_var rfl (iu.mono e))) fun _ => ev_call2 (ea_cons (ev_var rfl i) (ea_cons (ev_var rfl (iu.mono e)) ea_nil)) trivial)))) (fun hb W6 s6 => ?_) fun hb W6 s6 => ?_
    · rw [List.any_map] at hb
      have hb : (!(a1.any fun o => decide (o ≠ x) && SC.isWithin o x)) = true := hb
      have c6 := c2.step s6
      have es : W6.S = p :: W.S := s6.s
      have le6 := s6.le
      obtain ⟨S6, H6⟩ := W6
      subst es
      refine r_append c6 rfl (ev_var rfl (iu.mono le6)) (by omega) fun H7 le7 c7 => ⟨wov W p H7, rfl, (le.trans le6).trans le7, H7, some u2, rfl, rfl, ?_⟩
      rw [minimal_next hj, if_pos hb]
      exact c7
    · rw [List.any_map] at hb
      have c6 := c2.step s6
      have es : W6.S = p :: W.S := s6.s
      have le6 := s6.le
      obtain ⟨S6, H6⟩ := W6
      subst es
      refine ⟨wov W p H6, rfl, le.trans le6, H6, some u2, rfl, rfl, ?_⟩
      have hb' : ¬ (!(a1.any fun o => decide (o ≠ x) && SC.isWithin o x)) = true := fun z => absurd (hb.symm.trans z) (by decide)
      rw [minimal_next hj, if_neg hb']
      exact c6
  · subst e1 e2
    rw [List.take_length] at c2
    obtain ⟨s4, i4⟩ := c2.end
    exact r_ret (W := ⟨W.S, H2⟩) (T := T) (d.step s4) (ev_var rfl i4) fun u W5 s5 i5 => k u W5 (s4.trans s5) i5
theorem numbers_len (p n : Nat) : (SC.numbersOf p n).length ≤ n := Nat.le_trans (List.length_filter_le _ _) (by simp)
abbrev s_ordered : Stmt := topS 30
theorem sc_ordered : FnScope ["parts", "many", "rows", "part"] ["parts", "many"] (defScope s_ordered) := ⟨rfl, rfl, rfl, by decide +kernel, rfl, by decide +kernel, by decide +kernel⟩
theorem c_ordered {c PT : Addr} (F : FnC K mg "ordered" s_ordered ["parts", "many"] c) (X : Txt mg) (TB : LamX.TabB base mg c PT) (hm : (PT, RS.lamQ) ∈ T) (hu : ∀ p ∈ T, p.1 = PT → p.2 = RS.lamQ) (C_numbers_of : Cal P w K mg base L2.CX0 1 "numbers_of" (sp_numbers_of T)) : Cal P w K mg base L2.CX0 4 "ordered" (sp_ordered T) := by
  refine F.cal sc_ordered sp2t_len fun f A outer s H vs Q E hr h => ⟨_,
    (pss_cons (ps_setLc (i := 2) (own := [("part", 3)]) rfl sc_ordered.nd rfl rfl (sw_true rfl rfl rfl (by decide +kernel)) (pi_list (pv 0)) (blkOk_by (own := [("part", 3)]) (N := ["parts", "many", "rows", "part"]) (sc := defScope s_ordered) (by decide +kernel)) (fun _ _ _ _ _ => pg_name (i := 3) sc_ordered.nd rfl (Or.inl rfl)) (fun _ _ _ _ _ => pts_nil) (fun _ _ _ _ _ => (pe_c C_numbers_of hr (pa_cons (pv 3) (pa_cons (pv 1) pa_nil)))))
      (pss_one (ps_ret (RS.pe_sortRows hr TB rfl (by rfl) hm hu X.sorted X.len (pv 2))))),
    sp2t_go (fun W ht v1 v2 a1 a2 d i1 i2 hp Q k => ?_) h⟩
  refine r_asg (T := T) d (ev_map (fun m => SC.numbersOf m a2) (ev_var rfl i1) (by omega) (fun _ => rfl) fun m hm v W1 e i => ev_call2 (ea_cons (ev_var rfl i) (ea_cons (ev_var rfl (i2.mono e)) ea_nil)) hp.2) fun u W1 s1 j1 => ?_
  refine r_ret (T := T) (d.step s1) (RS.ev_sortRows (ev_var rfl j1) (fun r hr => ?_) (by rw [List.length_map]; exact hp.1) (s1.ex.tabs ht)) fun u W2 s2 i => k u W2 (s1.trans s2) i
  obtain ⟨m, _, rfl⟩ := List.mem_map.mp hr
  have := numbers_len m a2
  omega
theorem pow6 {n : Nat} (h : n ≤ 6) : 2 ^ n ≤ 64 := Nat.le_trans (Nat.pow_le_pow_right (by decide) h) (by decide)
theorem filt_len {n : Nat} (h : n ≤ 6) (p : Nat → Bool) : ((List.range (2 ^ n)).filter p).length ≤ 1000 := Nat.le_trans (List.length_filter_le _ _) (by have := pow6 h; rw [List.length_range]; omega)
theorem min_len {l : List Nat} (h : l.length ≤ 1000) : (SC.minimal l).length ≤ 1000 := Nat.le_trans (List.length_filter_le _ _) h
abbrev s_conflicts : Stmt := topS 31
theorem sc_conflicts : FnScope ["known", "many", "parts", "part"] ["known", "many"] (defScope s_conflicts) := ⟨rfl, rfl, rfl, by decide +kernel, rfl, by decide +kernel, by decide +kernel⟩
theorem c_conflicts (F : Fn K mg "conflicts" s_conflicts ["known", "many"]) (X : Txt mg) (C_is_consistent : Cal P w K mg base L2.CX0 2 "is_consistent" (sp_is_consistent T)) (C_minimal : Cal P w K mg base L2.CX0 2 "minimal" (sp_minimal T)) (C_ordered : Cal P w K mg base L2.CX0 4 "ordered" (sp_ordered T)) : Cal P w K mg base L2.CX0 5 "conflicts" (sp_conflicts T) := by
  refine F.cal sc_conflicts sp2t_len fun f cdv A outer s H vs Q E hr h => ⟨_,
    (pss_cons (ps_setLc (i := 2) (own := [("part", 3)]) rfl sc_conflicts.nd rfl rfl (sw_true rfl rfl rfl (by decide +kernel)) (pi_range1 (by rfl) X.range (pa_cons (pe_op op_shl pe_int (pv 1)) pa_nil)) (blkOk_by (own := [("part", 3)]) (N := ["known", "many", "parts", "part"]) (sc := defScope s_conflicts) (by decide +kernel)) (fun _ _ _ _ _ => pg_name (i := 3) sc_conflicts.nd rfl (Or.inl rfl)) (fun _ _ _ _ _ => pts_one (pt_not (pt_val (pe_c C_is_consistent hr (pa_cons (pv 0) (pa_cons (pv 3) pa_nil)))))) (fun _ _ _ _ _ => (pv 3)))
      (pss_one (ps_ret (pe_c C_ordered hr (pa_cons (pe_c C_minimal hr (pa_cons (pv 2) pa_nil)) (pa_cons (pv 1) pa_nil)))))),
    sp2t_go (fun W ht v1 v2 a1 a2 d i1 i2 hp Q k => ?_) h⟩
  have h6 := pow6 hp.2
  have hz := hp.2
  refine r_asg (T := T) d (ev_lcR (fun i => !SC.isConsistent a1 i) (fun i => i) (ea_cons ((ev_shl (ev_cn 1 rfl) (ev_var rfl i2) ⟨by omega, by decide⟩).is (Nat.one_mul _)) ea_nil) (by omega) (fun _ => rfl) (fun x hx W1 e => et_not (et_B (ev_call2 (ea_cons (ev_var rfl (i1.mono e)) (ea_cons (ev_var rfl (nat_is rfl)) ea_nil)) hp.1))) fun x hx _ W1 e => ev_var rfl (nat_is rfl)) fun u W1 s1 j1 => ?_
  rw [List.map_id'] at j1
  exact r_ret (T := T) (d.step s1) (ev_call2t (ea_cons (ev_call1 (ea_cons (ev_var rfl j1) ea_nil) (filt_len hp.2 _)) (ea_cons (ev_var rfl (i2.step s1)) ea_nil)) ⟨min_len (filt_len hp.2 _), by omega⟩ (s1.ex.tabs ht)) fun u W2 s2 i => k u W2 (s1.trans s2) i
abbrev s_cures : Stmt := topS 32
theorem sc_cures : FnScope ["known", "many", "whole", "parts", "part"] ["known", "many"] (defScope s_cures) := ⟨rfl, rfl, rfl, by decide +kernel, rfl, by decide +kernel, by decide +kernel⟩
theorem c_cures (F : Fn K mg "cures" s_cures ["known", "many"]) (X : Txt mg) (C_is_consistent : Cal P w K mg base L2.CX0 2 "is_consistent" (sp_is_consistent T)) (C_minimal : Cal P w K mg base L2.CX0 2 "minimal" (sp_minimal T)) (C_ordered : Cal P w K mg base L2.CX0 4 "ordered" (sp_ordered T)) : Cal P w K mg base L2.CX0 5 "cures" (sp_cures T) := by
  refine F.cal sc_cures sp2t_len fun f cdv A outer s H vs Q E hr h => ⟨_,
    (pss_cons (ps_set (i := 2) sc_cures.nd rfl (Or.inr rfl) (pe_op op_sub (pe_op op_shl pe_int (pv 1)) pe_int))
      (pss_cons (ps_setLc (i := 3) (own := [("part", 4)]) rfl sc_cures.nd rfl rfl (sw_true rfl rfl rfl (by decide +kernel)) (pi_range1 (by rfl) X.range (pa_cons (pe_op op_shl pe_int (pv 1)) pa_nil)) (blkOk_by (own := [("part", 4)]) (N := ["known", "many", "whole", "parts", "part"]) (sc := defScope s_cures) (by decide +kernel)) (fun _ _ _ _ _ => pg_name (i := 4) sc_cures.nd rfl (Or.inl rfl)) (fun _ _ _ _ _ => pts_one (pt_val (pe_c C_is_consistent hr (pa_cons (pv 0) (pa_cons (pe_op op_sub (pv 2) (pv 4)) pa_nil))))) (fun _ _ _ _ _ => (pv 4)))
      (pss_one (ps_ret (pe_c C_ordered hr (pa_cons (pe_c C_minimal hr (pa_cons (pv 3) pa_nil)) (pa_cons (pv 1) pa_nil))))))),
    sp2t_go (fun W ht v1 v2 a1 a2 d i1 i2 hp Q k => ?_) h⟩
  have h6 := pow6 hp.2
  have hz := hp.2
  have hpos : 0 < 2 ^ a2 := Nat.pow_pos (by decide)
  have esh : ∀ {σ' W'}, Is W' v2 a2 → σ'[1]? = some (some v2) → Ev T (tOp (rI CPow fun i j => .int (i * 2 ^ j.toNat)) (tC (.int 1)) (tVar 1)) σ' W' (2 ^ a2) := fun i2' h2 => (ev_shl (ev_cn 1 rfl) (ev_var h2 i2') ⟨by omega, by decide⟩).is (Nat.one_mul _)
  refine r_asg (T := T) d (ev_sub (esh i2 rfl) (ev_cn 1 rfl) hpos) fun w0 W0 s0 j0 => ?_
  refine r_asg (T := T) (d.step s0) (ev_lcR (fun i => SC.isConsistent a1 (2 ^ a2 - 1 - i)) (fun i => i) (ea_cons (esh (i2.step s0) rfl) ea_nil) (by omega) (fun _ => rfl) (fun x hx W1 e => et_B (ev_call2 (ea_cons (ev_var rfl ((i1.step s0).mono e)) (ea_cons (ev_sub (ev_var rfl (j0.mono e)) (ev_var rfl (nat_is rfl)) (by omega)) ea_nil)) hp.1)) fun x hx _ W1 e => ev_var rfl (nat_is rfl)) fun u W1 s1 j1 => ?_
  rw [List.map_id'] at j1
  have s1' := s0.trans s1
  exact r_ret (T := T) (d.step s1') (ev_call2t (ea_cons (ev_call1 (ea_cons (ev_var rfl j1) ea_nil) (filt_len hp.2 _)) (ea_cons (ev_var rfl (i2.step s1')) ea_nil)) ⟨min_len (filt_len hp.2 _), by omega⟩ (s1'.ex.tabs ht)) fun u W2 s2 i => k u W2 (s1'.trans s2) i
abbrev s_does_imply : Stmt := topS 33
theorem sc_does_imply : FnScope ["known", "part", "many", "mask"] ["known", "part", "many"] (defScope s_does_imply) := ⟨rfl, rfl, rfl, by decide +kernel, rfl, by decide +kernel, by decide +kernel⟩
theorem c_does_imply (F : Fn K mg "does_imply" s_does_imply ["known", "part", "many"]) (X : Txt mg) (C_is_within : Cal P w K mg base L2.CX0 1 "is_within" (sp_is_within T)) : Cal P w K mg base L2.CX0 2 "does_imply" (sp_does_imply T) := by
  refine F.cal sc_does_imply sp3_len fun f cdv A outer s H vs Q E hr h => ⟨_,
    (pss_one (ps_ret (pe_not (pe_callB (cr_any rfl) (by rfl) X.any (by decide +kernel) (pa_cons (pe_lc (own := [("mask", 3)]) (by rfl) sc_does_imply.nd (pi_list (pv 0)) (blkOk_by (own := [("mask", 3)]) (N := ["known", "part", "many", "mask"]) (sc := defScope s_does_imply) (by decide +kernel)) (fun _ _ _ _ _ => pg_name (i := 3) sc_does_imply.nd rfl (Or.inl rfl)) (fun _ _ _ _ _ => pts_nil) (fun _ _ _ _ _ => (pe_and (pe_c C_is_within hr (pa_cons (pv 1) (pa_cons (pv 3) pa_nil))) (pe_one (pe_cmpR op_eq (pe_op op_mod (pe_op op_shr (pv 3) (pv 2)) pe_int) pe_int (nomark _)))))) pa_nil))))),
    sp3_go (fun W v1 v2 v3 a1 a2 a3 d i1 i2 i3 hp Q k => ?_) h⟩
  refine r_ret (T := T) d (ev_notV (ev_any (ev_map (fun m => SC.isWithin a2 m && decide (m / 2 ^ a3 % 2 = 0)) (ev_var rfl i1) (by omega) (fun _ => rfl) fun m hm v W1 e i => ev_andV (ev_call2 (ea_cons (ev_var rfl (i2.mono e)) (ea_cons (ev_var rfl i) ea_nil)) trivial) fun _ => ev_eq (ev_mod (ev_shr (ev_var rfl i) (ev_var rfl (i3.mono e))) (ev_cn 2 rfl) (by decide)) (ev_cn 0 rfl)))) fun u W1 s1 i => k u W1 s1 ?_
  rw [List.any_map] at i
  exact i
abbrev s_reasons : Stmt := topS 34
theorem sc_reasons : FnScope ["known", "many", "parts", "part"] ["known", "many"] (defScope s_reasons) := ⟨rfl, rfl, rfl, by decide +kernel, rfl, by decide +kernel, by decide +kernel⟩
theorem c_reasons (F : Fn K mg "reasons" s_reasons ["known", "many"]) (X : Txt mg) (C_does_imply : Cal P w K mg base L2.CX0 2 "does_imply" (sp_does_imply T)) (C_minimal : Cal P w K mg base L2.CX0 2 "minimal" (sp_minimal T)) (C_ordered : Cal P w K mg base L2.CX0 4 "ordered" (sp_ordered T)) : Cal P w K mg base L2.CX0 5 "reasons" (sp_reasons T) := by
  refine F.cal sc_reasons sp2t_len fun f cdv A outer s H vs Q E hr h => ⟨_,
    (pss_cons (ps_setLc (i := 2) (own := [("part", 3)]) rfl sc_reasons.nd rfl rfl (sw_true rfl rfl rfl (by decide +kernel)) (pi_range1 (by rfl) X.range (pa_cons (pe_op op_shl pe_int (pv 1)) pa_nil)) (blkOk_by (own := [("part", 3)]) (N := ["known", "many", "parts", "part"]) (sc := defScope s_reasons) (by decide +kernel)) (fun _ _ _ _ _ => pg_name (i := 3) sc_reasons.nd rfl (Or.inl rfl)) (fun _ _ _ _ _ => pts_one (pt_val (pe_c C_does_imply hr (pa_cons (pv 0) (pa_cons (pv 3) (pa_cons (pv 1) pa_nil)))))) (fun _ _ _ _ _ => (pv 3)))
      (pss_one (ps_ret (pe_c C_ordered hr (pa_cons (pe_c C_minimal hr (pa_cons (pv 2) pa_nil)) (pa_cons (pv 1) pa_nil)))))),
    sp2t_go (fun W ht v1 v2 a1 a2 d i1 i2 hp Q k => ?_) h⟩
  have h6 := pow6 hp.2
  have hz := hp.2
  refine r_asg (T := T) d (ev_lcR (fun i => SC.doesImply a1 i a2) (fun i => i) (ea_cons ((ev_shl (ev_cn 1 rfl) (ev_var rfl i2) ⟨by omega, by decide⟩).is (Nat.one_mul _)) ea_nil) (by omega) (fun _ => rfl) (fun x hx W1 e => et_B (ev_call3 (ea_cons (ev_var rfl (i1.mono e)) (ea_cons (ev_var rfl (nat_is rfl)) (ea_cons (ev_var rfl (i2.mono e)) ea_nil))) hp.1)) fun x hx _ W1 e => ev_var rfl (nat_is rfl)) fun u W1 s1 j1 => ?_
  rw [List.map_id'] at j1
  exact r_ret (T := T) (d.step s1) (ev_call2t (ea_cons (ev_call1 (ea_cons (ev_var rfl j1) ea_nil) (filt_len hp.2 _)) (ea_cons (ev_var rfl (i2.step s1)) ea_nil)) ⟨min_len (filt_len hp.2 _), by omega⟩ (s1.ex.tabs ht)) fun u W2 s2 i => k u W2 (s1.trans s2) i
end
end PC

/-! ## SD8 -/
set_option Elab.async false
set_option linter.all false
set_option maxRecDepth 100000
set_option maxHeartbeats 2000000
/-! the package's own error (after the worked proof of an own error) -/
namespace PySem
namespace RefX
open PySem.W PySem.Calls PyProof.Rows PySem.HandSPX
/-! ### the text of __init__ -/
def iA (p1 p2 : Pos) : Arguments := { posonlyargs := [], args := [{ arg := "self", annotation := none, pos := p1 }, { arg := "number", annotation := none, pos := p2 }], vararg := none, kwonlyargs := [], kw_defaults := [], kwarg := none, defaults := [] }
def iB (q1 q2 q3 q4 : Pos) : List Stmt := [.Assign [.Attribute (.Name "self" q1) "number" q2] (.Name "number" q3) q4]
def iS : Scope := { kind := .function, names := [(PySem.Str.ofString "self", .local), (PySem.Str.ofString "number", .local)], isGenerator := false, isCoroutine := false, more := [] }
/-- what the written part says of Refused, at C, and of its __init__, at fI -/
structure RefTxt (K : Frag) (mg : Str → Option Value) (C fI : Addr) : Prop where
  gC : mg "Refused" = some (.ref C)
  cls : ∃ nm q N bs bm sn sub ab col dd k0 k1 k2 k3 k5, K.lookup C = some (excClassObj nm q C N bs bm true sn sub ab col dd k0 k1 k2 k3 k5 "ValueError.__new__") ∧ refsVE bm = true
  sa : findIn K (.ref C) "__setattr__" = some (some (.builtin "object.__setattr__"))
  ga : findIn K (.ref C) "__getattribute__" = some (some (.builtin "BaseException.__getattribute__"))
  gg : findIn K (.ref C) "__getattr__" = some none
  noN : findIn K (.ref C) "number" = some none
  iC : findIn K (.ref C) "__init__" = some (some (.ref fI))
  tC : typeIn K (.ref fI) = some (.type "function")
  kC : keepIn K (.ref C) = true
  exC : subIn K (.ref C) (.type "BaseException") = some true
  tyC : typeIn K (.ref C) = some (.type "type")
  hdC : hasDictIn K C = true
  te : exmOne K (.ref C) (.ref C) = some true
  fn : ∃ (oc : Value) (od : Option Addr) (doc pm : Value) (an : Option Addr) (cdv ct : Value) (osl : Array (Option Value)) (p1 p2 q1 q2 q3 q4 : Pos),
    K.lookup fI = some ⟨oc, od, .func (fnOf "__init__" "Refused.__init__" (iA p1 p2) (iB q1 q2 q3 q4) iS .none .none doc pm an cdv ct), osl⟩ ∧ codeIn K cdv "Refused.__init__" = true
theorem one_size (v : Value) : [v].length ≤ sizeLine := by
  rw [sizeLine_eq]
  exact (by decide : 1 ≤ 16777216)
theorem kept_but {K : Frag} {h h' : Heap} {x : Addr} (X : K.In h) (hx : K.lookup x = none) (k : ∀ b o, b ≠ x → h.get? b = some o → h'.get? b = some o) : K.In h' := fun a o e =>
  k a o (fun z => by rw [z, hx] at e; cases e) (X a o e)
theorem ldC {M : Model} {s : Shared} {name : Str} {scope : Scope} {L a : Addr} {cd : Value} {m : Str → Option Value} {x : Str} {pos : Pos} {v : Value} {Q : Value → Shared → Prop} {A : Around} {E : Value → Shared → Prop} (hn : s.heap.Ns L m) (hv : m x = some v) (h : Q v s)
    (hk : scope.kind = .function := by rfl) (hl : (envOfC name scope L a cd).kindOf x = some .local := by rfl) (hd : (x == ("__debug__" : Str)) = false := by decide) :
    wpAny M A (eval (.Name x pos) (envOfC name scope L a cd)) Q E s := wpAny_Name (wpAny_loadName_local hk hl hn hv h) hd
/-- what __init__ leaves of a fresh exception at x -/
structure InitEnd (h h' : Heap) (x C dx t1 : Addr) (v : Value) : Prop where
  keep : ∀ b o, b ≠ x → h.get? b = some o → h'.get? b = some o
  obj : h'.get? x = some { cls := .ref C, dict := some dx, data := .fields #[.ref t1, .none, .none, .none, .bool false, .none] }
  dbig : h.objs.size ≤ dx
  dne : dx ≠ x
  ns : h'.Ns1 dx (fun y => if y = "number" then some v else none)
/-- a made Refused -/
structure OwnMade (h h' : Heap) (e C d : Addr) (v : Value) : Prop where
  keep : ∀ b o, h.get? b = some o → h'.get? b = some o
  new : h.objs.size ≤ e
  obj : ∃ oe vs, h'.get? e = some oe ∧ oe.cls = .ref C ∧ oe.dict = some d ∧ oe.data = .fields vs ∧ vs[1]? = some .none
  dbig : h.objs.size ≤ d
  dne : d ≠ e
  ns : h'.Ns1 d (fun y => if y = "number" then some v else none)
section
variable {prog : Program} {w : World} {A : Around} {E : Value → Shared → Prop} {R : Result → Shared → Prop} {s : Shared} {K : Frag} {mg : Str → Option Value} {C fI : Addr}
theorem ref_init (T : RefTxt K mg C fI) {x t0 : Addr} {v : Value} (X : K.In s.heap) (hlim : s.heap.NoLimit) (hx : s.heap.get? x = some (excO C t0)) (hnx : K.lookup x = none) (hroom : A.depth < recursionLimit)
    (hq : ∀ h' tk dx, InitEnd s.heap h' x C dx t0 v → R (.ok (.ret .none)) { s with heap := h', toks := tk }) :
    codeAny (model prog w) A (.call (.ref fI) ⟨[.ref x, v], []⟩) R s := by
  obtain ⟨oc, od, doc, pm, an, cdv, ct, osl, p1, p2, q1, q2, q3, q4, ho, hcd⟩ := T.fn
  obtain ⟨nm, q, N, bs, bm, sn, sub, ab, col, dd, k0, k1, k2, k3, k5, hC, hbm⟩ := T.cls
  have hcl : clsIn K C = some { name := nm, bases := bs, mro := .ref C :: bm, ns := N, qualname := q, hasDict := true, slotNames := sn, subclasses := sub, abstract := ab, collection := col, hasDel := false } := by unfold clsIn; rw [hC] <;> rfl
  refine Att.call_fn (binds := [("self", .ref x), ("number", v)]) X hlim ho hcd hroom (BindsTo.of_eq (by first | rfl | with_unfolding_all rfl)) (by first | rfl | decide | with_unfolding_all rfl) (fun s₁ IC => ?_) rfl rfl rfl
  obtain ⟨h₁, tk₁, rfl⟩ := IC.toInCall.same
  have k : ∀ b o, s.heap.get? b = some o → h₁.get? b = some o := IC.toInCall.keep
  have hn := IC.toInCall.ns
  have hxL : s.heap.objs.size ≠ x := Nat.ne_of_gt (Heap.lt_size hx)
  have X₁ : K.In h₁ := X.keeps k
  have hx₁ := k _ _ hx
  -- self.by = by
  show wpAny _ _ (execs _ _) _ _ _
  refine wpAny_execs_cons (plainObj_wpAny_Assign_Attribute ?_)
  refine ldC (v := v) hn (by first | rfl | with_unfolding_all rfl | kernel_rfl) (ldC (v := .ref x) hn (by first | rfl | with_unfolding_all rfl | kernel_rfl) ?_)
  refine set_plain X₁ (ox := excO C t0) (od := none) ⟨hx₁, rfl, rfl, trivial⟩ T.sa ?_
  refine exc_osa X₁ hx₁ hcl (show refsVE (.ref C :: bm) = true from hbm) rfl T.noN (fun h₃ tk₃ dx k₃ dn dne hx₃ hn₃ => ?_)
  show wpAny _ _ (execs _ _) _ _ _
  have z : s.heap.objs.size < h₁.objs.size := hn.lt
  exact wpAny_execs_nil (hq h₃ tk₃ dx ⟨fun b o hb e => k₃ b o hb (k b o e), hx₃, Nat.le_of_lt (Nat.lt_of_lt_of_le z dn), dne, hn₃⟩)
theorem ref_made (T : RefTxt K mg C fI) {v : Value} (X : K.In s.heap) (hlim : s.heap.NoLimit) (hroom : A.depth + 1 < recursionLimit)
    (hq : ∀ h' tk e d, OwnMade s.heap h' e C d v → R (.ok (.ret (.ref e))) { s with heap := h', toks := tk }) :
    codeAny (model prog w) A (.call (.ref C) ⟨[v], []⟩) R s := by
  obtain ⟨nm, q, N, bs, bm, sn, sub, ab, col, dd, k0, k1, k2, k3, k5, hC, hbm⟩ := T.cls
  obtain ⟨hp, g, dr, tk, os⟩ := s
  have k : ∀ b o, hp.get? b = some o → ((hp.push (kdv_tup [v])).push (excO C hp.objs.size)).get? b = some o := fun b o e => Heap.get?_push_of_some _ (Heap.get?_push_of_some _ e)
  have hget : ((hp.push (kdv_tup [v])).push (excO C hp.objs.size)).get? (hp.objs.size + 1) = some (excO C hp.objs.size) := by heap_get
  have hnx : K.lookup (hp.objs.size + 1) = none := by
    cases e : K.lookup (hp.objs.size + 1) with
    | none => rfl
    | some o =>
      have z : hp.get? (hp.objs.size + 1) = some o := X _ _ e
      exact absurd (Nat.lt_of_succ_lt (Heap.lt_size z)) (Nat.lt_irrefl _)
  refine call_own F.excBase_ValueError (fun X => refsVE_contains X bm hbm) (X _ _ hC) (looks_findIn X T.iC) (fun self => bind_fn X self T.tC) (one_size v) ?_
  refine ref_init (s := ⟨(hp.push (kdv_tup [v])).push (excO C hp.objs.size), g, dr, tk, os⟩) T (X.keeps k) (hlim.keeps k) hget hnx ?_ fun h' tk' dx ⟨k', hx, dn, dne, hns⟩ => ?_
  · show A.depth + 1 < recursionLimit
    exact hroom
  · have old : ∀ b o, hp.get? b = some o → h'.get? b = some o := fun b o e => k' b o (Nat.ne_of_lt (Nat.lt_succ_of_lt (Heap.lt_size e))) (k b o e)
    have z : hp.objs.size + 1 + 1 ≤ dx := by
      first
        | (simpa only [Heap.size_push] using dn)
        | exact dn
        | (have q := dn; rw [Heap.size_push, Heap.size_push] at q; exact q)
    exact ⟨rfl, hq h' tk' (hp.objs.size + 1) dx ⟨old, Nat.le_succ _, ⟨_, _, hx, rfl, rfl, rfl, rfl⟩, Nat.le_trans (Nat.le_trans (Nat.le_succ _) (Nat.le_succ _)) z, dne, hns⟩⟩
end
end RefX
end PySem
namespace L2
open PySem PySem.Spec PyProof.Rows
theorem relO_ref {v : V} {v' : Value} (r : RelV v v') (f : Str) : RelO (List.lookup f [(("number" : Str), v)]) (if f = "number" then some v' else none) := by
  by_cases hw : f = "number"
  · subst hw
    rw [if_pos rfl]
    have q : List.lookup ("number" : Str) [(("number" : Str), v)] = some v := by simp [List.lookup]
    rw [q]
    exact r
  · rw [if_neg hw]
    have qw : (f == ("number" : Str)) = false := by simpa using hw
    have q2 : List.lookup f [(("number" : Str), v)] = none := by simp [List.lookup, qw]
    rw [q2]
    trivial
section
variable {X : Cx} {C fI : Addr}
/-- Refused(e) -/
def tMkRef (C : Addr) (ta : TA) : St → Hp → XK → Prop := fun σ H Q => ta σ H fun vs H1 => ∃ v, vs = [v] ∧ ∀ d, H1 d = none → Q (.ref C) (some d) (upd H1 d (.xd [(("number" : Str), v)]))
theorem pmk_ref {a : Expr} {ta : TA} {p pos : Pos} {k : Nat} (T : PySem.RefX.RefTxt X.K X.mg C fI) (hr : Room k X.A) (ha : PA X [a] ta) (hg : Gl X "Refused" := by rfl)
    (he : starEach (a :: []) X.env = (false, eval a X.env) :: starEach [] X.env := by rfl) (hpl : (backTo pos (starEach [] X.env)).any (·.1) = false := by rfl) :
    PMk X (.Call (.Name "Refused" p) [a] [] pos) (tMkRef C ta) := by
  intro pins s σ H Q I h
  refine wpAny_Call_Name_kw (ld_glob I hg T.gC ?_)
  refine PySem.W.callWith_K (h₀ := X.base) I.ok.mod.kin T.kC (thn (ha.run pos pins s σ H _ I h) fun us s1 hh => ?_) he hpl
  obtain ⟨vs, H1, I1, r1, v, ev, q1⟩ := hh
  subst ev
  refine ⟨I1.kIn, ?_⟩
  cases r1 with
  | cons rv rn =>
    rename_i v' us'
    cases rn
    show wpAny _ _ (call (.ref C) [v']) _ _ _
    have hlim := I1.nolimit
    obtain ⟨hp, g, dr, tk, os⟩ := s1
    refine wpAny_call (PySem.RefX.ref_made T I1.kIn hlim (by have := hr.dp; omega) fun h' tk' e d M => ?_)
    show MkP X pins σ Q (.ref e) ⟨h', g, dr, tk', os⟩
    obtain ⟨oe, fv, hoe, hc, hd, hdat, h1⟩ := M.obj
    have hns := M.ns
    obtain ⟨G', g1, g2⟩ := restrict h' fun b => decide (b ≠ e)
    have gk : ∀ b, b ≠ e → G'.get? b = h'.get? b := fun b hb => g1 b (decide_eq_true hb)
    have ge : G'.get? e = none := g2 e (by simp)
    have old : ∀ b o, hp.get? b = some o → G'.get? b = some o := fun b o q => (gk b (Nat.ne_of_lt (Nat.lt_of_lt_of_le (Heap.lt_size q) M.new))).trans (M.keep b o q)
    have ob : ObjOk X.prog X.w (upd H1 d (.xd [(("number" : Str), v)])) G' d (.xd [(("number" : Str), v)]) :=
      ⟨_, hns.at (fun o q => (gk d M.dne).trans q), fun f => relO_ref rv f⟩
    have J : Inv X pins σ (upd H1 d (.xd [(("number" : Str), v)])) ⟨G', g, dr, tk', os⟩ := I1.laid (t' := tk') old M.dbig ob
    refine ⟨e, oe, fv, ⟨G', g, dr, tk', os⟩, _, .ref C, some d, rfl, J, fun b o q => ?_, ge, hoe, ⟨hc, hd⟩, hdat, h1, ?_, rfl, I1.bare, raises_own T.exC T.tyC, q1 d (I1.hok.fresh M.dbig)⟩
    · by_cases hb : b = e
      · have q' : G'.get? b = some o := q
        rw [hb, ge] at q'; cases q'
      · exact (gk b hb).symm.trans q
    · rw [upd_ne (Ne.symm M.dne)]
      exact I1.hok.fresh M.new
/-- raise Refused(e) -/
def tRaiseRef (C : Addr) (W : WX) (ta : TA) : TS := fun _ σ H => tMkRef C ta σ H fun cls d H' => W cls d σ H'
theorem ps_raiseRef {a : Expr} {ta : TA} {W : WX} {p pos pos2 : Pos} {k : Nat} (hc : X.calm = true) (T : PySem.RefX.RefTxt X.K X.mg C fI) (hr : Room k X.A) (tk : Takes X W) (ha : PA X [a] ta) (hg : Gl X "Refused" := by rfl)
    (he : starEach (a :: []) X.env = (false, eval a X.env) :: starEach [] X.env := by rfl) (hpl : (backTo pos (starEach [] X.env)).any (·.1) = false := by rfl) :
    PS X (.Raise (some (.Call (.Name "Refused" p) [a] [] pos)) none pos2) (tRaiseRef C W ta) := ps_raise hc tk (pmk_ref T hr ha hg he hpl)
/-- e.number, e the exception that the suite holds (at a; its class cls, its dict d) -/
def tByRef (C : Addr) (a : Addr) (cls : Value) (d : Option Addr) (te : TE) : TE := fun σ H Q => te σ H fun x H1 => x = .ref a ∧ cls = .ref C ∧ ∃ (dd : Addr) (v : V), d = some dd ∧ H1 dd = some (.xd [(("number" : Str), v)]) ∧ Q v H1
theorem pe_byRef {a : Addr} {oe : Obj} {cls : Value} {d : Option Addr} {pn : List (Addr × Obj)} {e : Expr} {te : TE} {pos : Pos} (T : PySem.RefX.RefTxt X.K X.mg C fI) (hz : Zc cls d oe) (hf : ∃ vs, oe.data = .fields vs) (he : PE (X.suite a ((a, oe) :: pn)) e te)
    (hb : attributeBase e "number" X.env (eval e X.env) = eval e X.env := by rfl) :
    PE (X.suite a ((a, oe) :: pn)) (.Attribute e "number" pos) (tByRef C a cls d te) := by
  refine ⟨fun pins s σ H Q I h => ?_⟩
  refine attr_of hb (thn (he.run pins s σ H _ I h) fun u s1 hh => ?_)
  obtain ⟨x, H1, I1, rx, ex, ec, dd, v, ed, ea, q⟩ := hh
  subst ex
  obtain rfl : u = Value.ref a := rx
  subst ec
  subst ed
  obtain ⟨ha, _⟩ := I1.pin (a, oe) (List.mem_append_left _ List.mem_cons_self)
  obtain ⟨vs, hd⟩ := hf
  have hx : ObjOk X.prog X.w H1 s1.heap dd (.xd [(("number" : Str), v)]) := I1.hok dd _ ea
  obtain ⟨mA, hns, hr⟩ := hx
  obtain ⟨od, ho, hl⟩ := lookIn_ns hns
  have l : List.lookup ("number" : Str) [(("number" : Str), v)] = some v := by simp [List.lookup]
  obtain ⟨u, hu, ru⟩ := RelO.some_of (v := v) (o := mA "number") (by rw [← l]; exact hr "number")
  have J : PySem.W.InstAt s1.heap a oe C (some od) := ⟨ha, hz.1, by unfold PySem.W.notCls; rw [hd] <;> rfl, by rw [hz.2]; exact ho⟩
  exact HandSPX.exc_get I1.kIn J T.ga T.gg T.exC (PySem.W.findObj_own T.hdC T.noN rfl (by rw [hl, hu])) (handed_of ru) ⟨v, H1, I1.tok _, ru, q⟩
end
end L2

namespace L2
open PySem PySem.Spec PyProof.Rows
theorem exm_self {K : PySem.W.Frag} {S : Addr} (h1 : PySem.W.subIn K (.ref S) (.type "BaseException") = some true) (h2 : PySem.W.isClsIn K S = true) (h3 : PySem.W.typeIn K (.ref S) = some (.type "type")) (h4 : PySem.W.subIn K (.ref S) (.ref S) = some true) :
    PySem.W.exmOne K (.ref S) (.ref S) = some true := by
  have e1 : (PySem.W.subIn K (.ref S) (.type "BaseException") == some true) = true := by rw [h1] <;> rfl
  have e2 : ((PySem.W.clsIn K S).isSome && PySem.W.typeIn K (.ref S) == some (.type "type")) = true := by
    have h2' : (PySem.W.clsIn K S).isSome = true := h2
    rw [h2', h3] <;> rfl
  show (if (PySem.W.subIn K (.ref S) (.type "BaseException") == some true) = true then (if ((PySem.W.clsIn K S).isSome && PySem.W.typeIn K (.ref S) == some (.type "type")) = true then PySem.W.subIn K (.ref S) (.ref S) else none) else none) = some true
  rw [if_pos e1, if_pos e2]
  exact h4
end L2

/-! ## SD9 -/
set_option Elab.async false
set_option linter.all false
set_option maxRecDepth 100000
set_option maxHeartbeats 2000000
/-! the desk: its data, rules, promises -/
namespace SC
structure Dk where
  kind : Nat
  many : Nat
  sts : List Said
  prices : List Nat
end SC
namespace SD
open PySem PySem.Spec PyProof.Rows L2
def dkFs (d : SC.Dk) (sA pA : Addr) : List (Str × V) := [("kind", .int (d.kind : Int)), ("many", .int (d.many : Int)), ("statements", .ref sA), ("prices", .ref pA)]
structure DeskTxt (K : PySem.W.Frag) (C : Addr) : Prop where
  cl : Cls K C
  nk : NoAttr K C "kind"
  nm : NoAttr K C "many"
  ns : NoAttr K C "statements"
  np : NoAttr K C "prices"
structure DkW (C : Addr) (W : Wo) (x sA pA : Addr) (d : SC.Dk) : Prop where
  obj : ∃ dx, W.H x = some (.ins C dx (dkFs d sA pA))
  nx : x ∉ W.S
  sts : Is W (.ref sA) d.sts
  prs : Is W (.ref pA) d.prices
  ne : sA ≠ pA
section
variable {α β γ δ ε : Type} [Enc α] [Enc β] [Enc γ] [Enc δ] [Enc ε] {T : List (Addr × Str)} {W W' W0 W1 W2 : Wo} {σ σ2 : L2.St} {te ta tb tc tl : TE} {t u : TT} {tA : TA} {K : PySem.W.Frag} {Dn : Ends} {tu tw tz : TS} {C CE x sA pA : Addr} {d : SC.Dk} {i : Nat}
theorem DkW.mono (D : DkW C W x sA pA d) (e : Le T W W') : DkW C W' x sA pA d := by
  obtain ⟨dx, h⟩ := D.obj
  exact ⟨⟨dx, e.keep x _ D.nx h (fun _ z => by cases z)⟩, e.out D.nx h (fun _ z => by cases z), D.sts.mono e, D.prs.mono e, D.ne⟩
theorem DkW.step (D : DkW C W x sA pA d) (e : Step T W W') : DkW C W' x sA pA d := D.mono e.le
theorem lk_kind (d : SC.Dk) (sA pA : Addr) : (dkFs d sA pA).lookup ("kind" : Str) = some (.int (d.kind : Int)) := by simp [dkFs, List.lookup]
theorem lk_many (d : SC.Dk) (sA pA : Addr) : (dkFs d sA pA).lookup ("many" : Str) = some (.int (d.many : Int)) := by
  have h1 : (("many" : Str) == ("kind" : Str)) = false := by decide
  simp [dkFs, List.lookup, h1]
theorem lk_sts (d : SC.Dk) (sA pA : Addr) : (dkFs d sA pA).lookup ("statements" : Str) = some (.ref sA) := by
  have h1 : (("statements" : Str) == ("kind" : Str)) = false := by decide
  have h2 : (("statements" : Str) == ("many" : Str)) = false := by decide
  simp [dkFs, List.lookup, h1, h2]
theorem lk_prs (d : SC.Dk) (sA pA : Addr) : (dkFs d sA pA).lookup ("prices" : Str) = some (.ref pA) := by
  have h1 : (("prices" : Str) == ("kind" : Str)) = false := by decide
  have h2 : (("prices" : Str) == ("many" : Str)) = false := by decide
  have h3 : (("prices" : Str) == ("statements" : Str)) = false := by decide
  simp [dkFs, List.lookup, h1, h2, h3]
theorem pf_kind (d : SC.Dk) (sA pA : Addr) (n : Nat) : putF "kind" (.int (n : Int)) (dkFs d sA pA) = dkFs { d with kind := n } sA pA := by
  simp [dkFs, putF]
theorem pf_many (d : SC.Dk) (sA pA : Addr) (n : Nat) : putF "many" (.int (n : Int)) (dkFs d sA pA) = dkFs { d with many := n } sA pA := by
  have h1 : (("kind" : Str) = ("many" : Str)) = False := eq_false (by decide)
  simp [dkFs, putF, h1]
theorem pf_sts (d : SC.Dk) (sA pA q : Addr) (l : List SC.Said) : putF "statements" (.ref q) (dkFs d sA pA) = dkFs { d with sts := l } q pA := by
  have h1 : (("kind" : Str) = ("statements" : Str)) = False := eq_false (by decide)
  have h2 : (("many" : Str) = ("statements" : Str)) = False := eq_false (by decide)
  simp [dkFs, putF, h1, h2]
theorem pf_prs (d : SC.Dk) (sA pA q : Addr) (l : List Nat) : putF "prices" (.ref q) (dkFs d sA pA) = dkFs { d with prices := l } sA q := by
  have h1 : (("kind" : Str) = ("prices" : Str)) = False := eq_false (by decide)
  have h2 : (("many" : Str) = ("prices" : Str)) = False := eq_false (by decide)
  have h3 : (("statements" : Str) = ("prices" : Str)) = False := eq_false (by decide)
  simp [dkFs, putF, h1, h2, h3]
theorem ev_kind (X : DeskTxt K C) (D : DkW C W x sA pA d) (hi : σ[i]? = some (some (.ref x))) : Ev T (tFld K (tVar i) "kind") σ W d.kind := fun W1 e _ Q q => by
  obtain ⟨dx, h⟩ := (D.mono e).obj
  exact ⟨_, hi, x, C, dx, _, _, rfl, h, X.cl, X.nk, lk_kind d sA pA, q _ W1 (.refl _) (nat_is rfl)⟩
theorem ev_many' (X : DeskTxt K C) (D : DkW C W x sA pA d) (hi : σ[i]? = some (some (.ref x))) : Ev T (tFld K (tVar i) "many") σ W d.many := fun W1 e _ Q q => by
  obtain ⟨dx, h⟩ := (D.mono e).obj
  exact ⟨_, hi, x, C, dx, _, _, rfl, h, X.cl, X.nm, lk_many d sA pA, q _ W1 (.refl _) (nat_is rfl)⟩
theorem ev_sts (X : DeskTxt K C) (D : DkW C W x sA pA d) (hi : σ[i]? = some (some (.ref x))) : Ev T (tFld K (tVar i) "statements") σ W d.sts := fun W1 e _ Q q => by
  obtain ⟨dx, h⟩ := (D.mono e).obj
  exact ⟨_, hi, x, C, dx, _, _, rfl, h, X.cl, X.ns, lk_sts d sA pA, q _ W1 (.refl _) (D.mono e).sts⟩
theorem ev_prs (X : DeskTxt K C) (D : DkW C W x sA pA d) (hi : σ[i]? = some (some (.ref x))) : Ev T (tFld K (tVar i) "prices") σ W d.prices := fun W1 e _ Q q => by
  obtain ⟨dx, h⟩ := (D.mono e).obj
  exact ⟨_, hi, x, C, dx, _, _, rfl, h, X.cl, X.np, lk_prs d sA pA, q _ W1 (.refl _) (D.mono e).prs⟩
/-! ### more expressions -/
theorem ev_neg (n : Nat) {j : Int} (h : j = (n : Int)) : Ev T (tUn (rU fun i => .int (-i)) (tC (.int j))) σ W (-(n : Int)) := fun W1 _ _ Q q => ⟨j, rfl, q _ W1 (.refl _) (by rw [h]; exact .int _)⟩
/-- a <= b <= c -/
theorem ev_chain {a b c : Nat} (ha : Ev T ta σ W a) (hb : Ev T tb σ W b) (hc : Ev T tc σ W c) : Ev T (tChain (rI0 fun i j => .bl (decide (i ≤ j))) (rI0 fun i j => .bl (decide (i ≤ j))) ta tb tc) σ W (decide (a ≤ b ∧ b ≤ c)) := fun W1 e dm Q q =>
  ha W1 e dm _ fun v W2 s2 i2 => hb W2 (e.trans s2.le) (dm.step s2) _ fun u W3 s3 i3 => by
    rw [is_nat i2, is_nat i3]
    refine ⟨_, _, rfl, rfl, _, rfl, ?_⟩
    have s23 := s2.trans s3
    by_cases h : a ≤ b
    · rw [if_pos (by simpa using h)]
      refine hc W3 (e.trans s23.le) (dm.step s23) _ fun w W4 s4 i4 => ?_
      rw [is_nat i4]
      exact ⟨_, _, rfl, rfl, q _ W4 (s23.trans s4) (bl_is (by simp [h]))⟩
    · rw [if_neg (by simpa using h)]
      exact q _ W3 s23 (bl_is (by simp [h]))
/-- the least -/
theorem ev_min {l : List Nat} {m : Nat} (ha : Ev T ta σ W l) (hm : m ∈ l) (hl : ∀ y ∈ l, m ≤ y) : Ev T (tCB (rMin K) (tCons ta tNil)) σ W m := fun W1 e d Q q =>
  ha W1 e d _ fun v W2 e2 i => by
    obtain ⟨a, vs, rfl, _, h1, h2⟩ := is_lst i
    rw [iss_nats h2] at h1
    refine ⟨a, _, rfl, SqL.of h1, by rw [List.length_map]; exact List.length_pos_of_mem hm, fun z hz hle => ?_⟩
    obtain ⟨n, hn, rfl⟩ := List.mem_map.mp hz
    have h3 := hl n hn
    have h4 := hle _ (List.mem_map_of_mem hm)
    exact q _ W2 e2 (nat_is (by omega))
/-- the first place -/
theorem ev_index {l : List Nat} {m : Nat} (ha : Ev T ta σ W l) (hb : Ev T tb σ W m) {j : Nat} (hj : l[j]? = some m) (hno : ∀ k n, k < j → l[k]? = some n → n ≠ m) : Ev T (tBM K "list" (rIndex K) ta (tCons tb tNil)) σ W j := fun W1 e d Q q =>
  ha W1 e d _ fun v W2 e2 i2 => by
    obtain ⟨a, vs, rfl, ha2, h1, h2⟩ := is_lst i2
    refine ⟨.inl ⟨rfl, _, SqL.of h1⟩, hb W2 (e.trans e2.le) (d.step e2) _ fun u W3 e3 i3 => ?_⟩
    rw [is_nat i3]
    have hv := iss_nats h2
    refine ⟨a, vs, .int (m : Int), j, .int (m : Int), rfl, rfl, SqL.of (e3.ex.lst h1), rfl, ?_, ?_, ?_, fun k z hk hz => ?_, q _ W3 (e2.trans e3) (nat_is rfl)⟩
    · rw [hv, List.all_eq_true]
      intro z hz
      obtain ⟨n, _, rfl⟩ := List.mem_map.mp hz
      rfl
    · rw [hv, List.getElem?_map, List.getElem?_map, hj]
      rfl
    · show ((m : Int) == (m : Int)) = true
      simp
    · rw [hv, List.getElem?_map, List.getElem?_map] at hz
      cases hn : l[k]? with
      | none => rw [hn] at hz; cases hz
      | some n =>
        rw [hn] at hz
        cases hz
        show ((n : Int) == (m : Int)) = false
        have := hno k n hk hn
        simp only [beq_eq_false_iff_ne]
        omega
/-- n not in l -/
theorem inV_nats (n : Nat) : ∀ l : List Nat, inV (.int (n : Int)) ((l.map fun n : Nat => (n : Int)).map V.int) = decide (n ∈ l) := by
  intro l
  rw [Bool.eq_iff_iff]
  unfold inV
  simp only [List.any_eq_true, List.mem_map, decide_eq_true_eq]
  constructor
  · rintro ⟨z, ⟨i, ⟨m, hm, rfl⟩, rfl⟩, h⟩
    have h : ((m : Int) == (n : Int)) = true := h
    have h := beq_iff_eq.mp h
    have : m = n := by omega
    exact this ▸ hm
  · intro h
    exact ⟨_, ⟨_, ⟨n, h, rfl⟩, rfl⟩, (by show ((n : Int) == (n : Int)) = true; simp)⟩
theorem et_notIn {n : Nat} {l : List Nat} (ha : Ev T ta σ W n) (hb : Ev T tb σ W l) : EvT T (tTest (tOp (rIn K true) ta tb)) σ W (!decide (n ∈ l)) := fun W1 e d Q q =>
  ha W1 e d _ fun v W2 e2 i2 => hb W2 (e.trans e2.le) (d.step e2) _ fun u W3 e3 i3 => by
    rw [is_nat i2]
    obtain ⟨a, vs, rfl, _, h1, h2⟩ := is_lst i3
    have hv := iss_nats h2
    refine ⟨a, vs, rfl, .inl (SqL.of h1), rfl, ?_, _, rfl, ?_⟩
    · rw [hv, List.all_eq_true]
      intro z hz
      obtain ⟨n, _, rfl⟩ := List.mem_map.mp hz
      rfl
    · rw [hv, inV_nats]
      exact q W3 (e2.trans e3)
theorem ev_tup3 {x : α} {y : β} {z : γ} (h : EvA T tA σ W [Enc.enc x, Enc.enc y, Enc.enc z]) : Ev T (tTup tA) σ W (D.tup [Enc.enc x, Enc.enc y, Enc.enc z]) := ev_tupD h (by simp)
theorem ev_lenW {c : Addr} {ns : List V} {n : Nat} (hw : ∀ H, SqT K H c ns) (hn : ns.length = n) : Ev T (tCB (rLenQ K) (tCons (tC (.ref c)) tNil)) σ W n := fun W1 _ _ Q q => ⟨c, ns, rfl, .inr (hw W1.H), q _ W1 (.refl _) (nat_is (by rw [hn]))⟩
/-! ### unpacking -/
theorem r_tup2 {i j : Nat} {x : α} {y : β} (d : W.Dom) (h : Ev T te σ W (x, y)) (k : ∀ v1 v2 W1, Step T W W1 → Is W1 v1 x → Is W1 v2 y → tz Dn ((σ.set i (some v1)).set j (some v2)) W1.H) :
    tSeq (tAsg te (gTup K 2 (gCons (gName i) (gCons (gName j) gNil)))) tz Dn σ W.H := h W (.refl _) d _ fun v W1 s1 i1 => by
  obtain ⟨a, v1, v2, rfl, h1, j1, j2⟩ := is_pair i1
  exact ⟨a, _, rfl, SqT.of h1, rfl, _, _, rfl, _, _, rfl, rfl, k v1 v2 W1 s1 j1 j2⟩
theorem r_lst2 {i j : Nat} {a b : Nat} (d : W.Dom) (h : Ev T te σ W [a, b]) (k : ∀ W1, Step T W W1 → tz Dn ((σ.set i (some (.int (a : Int)))).set j (some (.int (b : Int)))) W1.H) :
    tSeq (tAsg te (gLst K 2 (gCons (gName i) (gCons (gName j) gNil)))) tz Dn σ W.H := h W (.refl _) d _ fun v W1 s1 i1 => by
  obtain ⟨p, vs, rfl, _, h1, h2⟩ := is_lst i1
  have hv := iss_nats h2
  subst hv
  exact ⟨p, _, rfl, SqL.of h1, rfl, _, _, rfl, _, _, rfl, rfl, k W1 s1⟩
theorem r_lst3 {i j m : Nat} {a b c : Nat} (d : W.Dom) (h : Ev T te σ W [a, b, c]) (k : ∀ W1, Step T W W1 → tz Dn (((σ.set i (some (.int (a : Int)))).set j (some (.int (b : Int)))).set m (some (.int (c : Int)))) W1.H) :
    tSeq (tAsg te (gLst K 3 (gCons (gName i) (gCons (gName j) (gCons (gName m) gNil))))) tz Dn σ W.H := h W (.refl _) d _ fun v W1 s1 i1 => by
  obtain ⟨p, vs, rfl, _, h1, h2⟩ := is_lst i1
  have hv := iss_nats h2
  subst hv
  exact ⟨p, _, rfl, SqL.of h1, rfl, _, _, rfl, _, _, rfl, _, _, rfl, rfl, k W1 s1⟩
theorem r_lst4 {i j m n : Nat} {a b c e : Nat} (d : W.Dom) (h : Ev T te σ W [a, b, c, e]) (k : ∀ W1, Step T W W1 → tz Dn ((((σ.set i (some (.int (a : Int)))).set j (some (.int (b : Int)))).set m (some (.int (c : Int)))).set n (some (.int (e : Int)))) W1.H) :
    tSeq (tAsg te (gLst K 4 (gCons (gName i) (gCons (gName j) (gCons (gName m) (gCons (gName n) gNil)))))) tz Dn σ W.H := h W (.refl _) d _ fun v W1 s1 i1 => by
  obtain ⟨p, vs, rfl, _, h1, h2⟩ := is_lst i1
  have hv := iss_nats h2
  subst hv
  exact ⟨p, _, rfl, SqL.of h1, rfl, _, _, rfl, _, _, rfl, _, _, rfl, _, _, rfl, rfl, k W1 s1⟩
/-! ### promises of defs that take the desk first -/
def spK1 (T : List (Addr × Str)) (C : Addr) (Pre : SC.Dk → Prop) (f : SC.Dk → β) : Sp := fun vs H Q _ => LamX.Tabs T H ∧ ∃ S x sA pA d, Wo.Dom ⟨S, H⟩ ∧ vs = [.ref x] ∧ DkW C ⟨S, H⟩ x sA pA d ∧ Pre d ∧ ∀ u W2, Step T ⟨S, H⟩ W2 → Is W2 u (f d) → Q u W2.H
def spK2 (T : List (Addr × Str)) (C : Addr) (Pre : SC.Dk → α → Prop) (f : SC.Dk → α → β) : Sp := fun vs H Q _ => LamX.Tabs T H ∧ ∃ S x sA pA d v a, Wo.Dom ⟨S, H⟩ ∧ vs = [.ref x, v] ∧ Is ⟨S, H⟩ v a ∧ DkW C ⟨S, H⟩ x sA pA d ∧ Pre d a ∧ ∀ u W2, Step T ⟨S, H⟩ W2 → Is W2 u (f d a) → Q u W2.H
def spK4 (T : List (Addr × Str)) (C : Addr) (Pre : SC.Dk → α → β → γ → Prop) (f : SC.Dk → α → β → γ → δ) : Sp := fun vs H Q _ => LamX.Tabs T H ∧ ∃ S x sA pA d v1 v2 v3 a b c, Wo.Dom ⟨S, H⟩ ∧ vs = [.ref x, v1, v2, v3] ∧ Is ⟨S, H⟩ v1 a ∧ Is ⟨S, H⟩ v2 b ∧ Is ⟨S, H⟩ v3 c ∧ DkW C ⟨S, H⟩ x sA pA d ∧ Pre d a b c ∧ ∀ u W2, Step T ⟨S, H⟩ W2 → Is W2 u (f d a b c) → Q u W2.H
variable {E : XK}
theorem ev_callK1 {Pre : SC.Dk → Prop} {f : SC.Dk → β} (D : DkW C W x sA pA d) (hi : σ[i]? = some (some (.ref x))) (hp : Pre d) (ht : LamX.Tabs T W.H) : Ev T (tCall (spK1 T C Pre f) [] E (tCons (tVar i) tNil)) σ W (f d) := fun W1 e dm Q q =>
  ⟨_, hi, e.tabs ht, W1.S, x, sA, pA, d, dm, rfl, D.mono e, hp, q⟩
theorem ev_callK2 {Pre : SC.Dk → α → Prop} {f : SC.Dk → α → β} {a : α} (D : DkW C W x sA pA d) (hi : σ[i]? = some (some (.ref x))) (ha : Ev T ta σ W a) (hp : Pre d a) (ht : LamX.Tabs T W.H) : Ev T (tCall (spK2 T C Pre f) [] E (tCons (tVar i) (tCons ta tNil))) σ W (f d a) := fun W1 e dm Q q =>
  ⟨_, hi, ha W1 e dm _ fun v W2 e2 i2 => ⟨e2.ex.tabs (e.tabs ht), W2.S, x, sA, pA, d, v, a, dm.step e2, rfl, i2, (D.mono e).step e2, hp, fun u W3 e3 i3 => q u W3 (e2.trans e3) i3⟩⟩
theorem ev_callK4 {Pre : SC.Dk → α → β → γ → Prop} {f : SC.Dk → α → β → γ → δ} {a : α} {b : β} {c : γ} (D : DkW C W x sA pA d) (hi : σ[i]? = some (some (.ref x))) (ha : Ev T ta σ W a) (hb : Ev T tb σ W b) (hc : Ev T tc σ W c) (hp : Pre d a b c) (ht : LamX.Tabs T W.H) :
    Ev T (tCall (spK4 T C Pre f) [] E (tCons (tVar i) (tCons ta (tCons tb (tCons tc tNil))))) σ W (f d a b c) := fun W1 e dm Q q =>
  ⟨_, hi, ha W1 e dm _ fun v W2 e2 i2 => hb W2 (e.trans e2.le) (dm.step e2) _ fun v3 W3 e3 i3 => hc W3 ((e.trans e2.le).trans e3.le) ((dm.step e2).step e3) _ fun v4 W4 e4 i4 =>
    have s := (e2.trans e3).trans e4
    ⟨s.ex.tabs (e.tabs ht), W4.S, x, sA, pA, d, v, v3, v4, a, b, c, dm.step s, rfl, (i2.step e3).step e4, i3.step e4, i4, (D.mono e).step s, hp, fun u W5 e5 i5 => q u W5 (s.trans e5) i5⟩⟩
theorem spK1_len {Pre : SC.Dk → Prop} {f : SC.Dk → β} (vs : List V) (H : Hp) (Q : VK) (E : XK) (h : spK1 T C Pre f vs H Q E) : vs.length = 1 := by
  obtain ⟨_, S, x, sA, pA, d, _, rfl, _⟩ := h
  rfl
theorem spK2_len {Pre : SC.Dk → α → Prop} {f : SC.Dk → α → β} (vs : List V) (H : Hp) (Q : VK) (E : XK) (h : spK2 T C Pre f vs H Q E) : vs.length = 2 := by
  obtain ⟨_, S, x, sA, pA, d, v, a, _, rfl, _⟩ := h
  rfl
theorem spK4_len {Pre : SC.Dk → α → β → γ → Prop} {f : SC.Dk → α → β → γ → δ} (vs : List V) (H : Hp) (Q : VK) (E : XK) (h : spK4 T C Pre f vs H Q E) : vs.length = 4 := by
  obtain ⟨_, S, x, sA, pA, d, v1, v2, v3, a, b, c, _, rfl, _⟩ := h
  rfl
theorem spK1_go {Pre : SC.Dk → Prop} {f : SC.Dk → β} {N : List Str} {t : TS} (k : ∀ (W : Wo), LamX.Tabs T W.H → ∀ x sA pA d, W.Dom → DkW C W x sA pA d → Pre d → ∀ Q : VK, (∀ u W2, Step T W W2 → Is W2 u (f d) → Q u W2.H) → t (EndsOf Q) (start N [.ref x]) W.H)
    {vs : List V} {H : Hp} {Q : VK} {E : XK} (h : spK1 T C Pre f vs H Q E) : t (EndsOf Q) (start N vs) H := by
  obtain ⟨ht, S, x, sA, pA, d, dm, rfl, D, hp, q⟩ := h
  exact k ⟨S, H⟩ ht x sA pA d dm D hp Q q
theorem spK2_go {Pre : SC.Dk → α → Prop} {f : SC.Dk → α → β} {N : List Str} {t : TS} (k : ∀ (W : Wo), LamX.Tabs T W.H → ∀ x sA pA d v a, W.Dom → DkW C W x sA pA d → Is W v a → Pre d a → ∀ Q : VK, (∀ u W2, Step T W W2 → Is W2 u (f d a) → Q u W2.H) → t (EndsOf Q) (start N [.ref x, v]) W.H)
    {vs : List V} {H : Hp} {Q : VK} {E : XK} (h : spK2 T C Pre f vs H Q E) : t (EndsOf Q) (start N vs) H := by
  obtain ⟨ht, S, x, sA, pA, d, v, a, dm, rfl, i, D, hp, q⟩ := h
  exact k ⟨S, H⟩ ht x sA pA d v a dm D i hp Q q
theorem spK4_go {Pre : SC.Dk → α → β → γ → Prop} {f : SC.Dk → α → β → γ → δ} {N : List Str} {t : TS} (k : ∀ (W : Wo), LamX.Tabs T W.H → ∀ x sA pA d v1 v2 v3 a b c, W.Dom → DkW C W x sA pA d → Is W v1 a → Is W v2 b → Is W v3 c → Pre d a b c → ∀ Q : VK, (∀ u W2, Step T W W2 → Is W2 u (f d a b c) → Q u W2.H) → t (EndsOf Q) (start N [.ref x, v1, v2, v3]) W.H)
    {vs : List V} {H : Hp} {Q : VK} {E : XK} (h : spK4 T C Pre f vs H Q E) : t (EndsOf Q) (start N vs) H := by
  obtain ⟨ht, S, x, sA, pA, d, v1, v2, v3, a, b, c, dm, rfl, j1, j2, j3, D, hp, q⟩ := h
  exact k ⟨S, H⟩ ht x sA pA d v1 v2 v3 a b c dm D j1 j2 j3 hp Q q
/-! ### raising -/
abbrev numFs (z : Int) : List (Str × V) := [("number", .int z)]
/-- the error with the number z may leave -/
def Err (T : List (Addr × Str)) (CE : Addr) (W : Wo) (z : Int) (E : XK) : Prop := ∀ W1, Step T W W1 → ∀ dd, W1.H dd = none → E (.ref CE) (some dd) (upd W1.H dd (.xd (numFs z)))
theorem Err.step {z : Int} (h : Err T CE W z E) (s : Step T W W1) : Err T CE W1 z E := fun W2 s2 => h W2 (s.trans s2)
def spDemand (CE : Addr) : Sp := fun vs H Q E => ∃ (b : Bool) (z : Int), vs = [.bl b, .int z] ∧ (b = true → Q .non H) ∧ (b = false → ∀ dd, H dd = none → E (.ref CE) (some dd) (upd H dd (.xd (numFs z))))
theorem r_demand {b : Bool} {z : Int} (d : W.Dom) (hb : Ev T ta σ W b) (hz : ∀ W1, Ev T tb σ W1 z) (h1 : b = true → ∀ W1, Step T W W1 → tz Dn σ W1.H) (h2 : b = false → Err T CE W z E) : tSeq (tDrop (tCall (spDemand CE) [] E (tCons ta (tCons tb tNil)))) tz Dn σ W.H :=
  hb W (.refl _) d _ fun v W1 s1 i1 => hz W1 W1 (.refl _) (d.step s1) _ fun u W2 s2 i2 => by
    rw [is_bl i1, is_int i2]
    exact ⟨b, z, rfl, fun e => h1 e W2 (s1.trans s2), fun e => h2 e W2 (s1.trans s2)⟩
/-! ### defs that may raise -/
/-- but for the desk's own, all stays -/
structure Chg (T : List (Addr × Str)) (x sA pA : Addr) (H H' : Hp) : Prop where
  keep : ∀ a o, a ≠ x → a ≠ sA → a ≠ pA → H a = some o → (∀ ps, o ≠ .tbl ps) → H' a = some o
  tabs : LamX.Tabs T H → LamX.Tabs T H'
end
structure CalX (P : Program) (w : World) (K : PySem.W.Frag) (mg : Str → Option Value) (base : Heap) (k : Nat) (x : Str) (sp : Sp) : Prop where
  ex : ∃ (f : Addr) (fd : FuncData) (ps : List Str), FnOk P w K mg base (L2.CX P w) k f fd ps sp ∧ mg x = some (.ref f) ∧ PySem.W.keepIn K (.ref f) = true ∧ Binds K fd ps []
section
variable {X : Cx} {k j : Nat} {x : Str} {sp : Sp} {E : XK} {p pos : Pos} {e : Expr} {es : List Expr} {t : TA}
theorem pe_cx (c : CalX X.prog X.w X.K X.mg X.base k x sp) (hr : Room j X.A) (hx : Passes (L2.CX X.prog X.w) X E) (ha : PA X (e :: es) t) (hk : k ≤ j := by decide) (hg : Gl X x := by rfl)
    (hdb : (x == ("__debug__" : Str)) = false := by decide) (he : starEach (e :: es) X.env = (false, eval e X.env) :: starEach es X.env := by rfl) (hpl : (backTo pos (starEach es X.env)).any (·.1) = false := by rfl) :
    PE X (.Call (.Name x p) (e :: es) [] pos) (tCall sp [] E t) := by
  obtain ⟨f, fd, ps, F, hm, kp, b⟩ := c.ex
  exact pe_call F (hr.mono hk) hg hm kp b .nil hx ha hdb he hpl
end
section
variable {P : Program} {w : World} {K : PySem.W.Frag} {mg : Str → Option Value} {base : Heap}
theorem Fn.calX {x : Str} {st : Stmt} {N ps : List Str} {k : Nat} {sp : Sp} (F : Fn K mg x st ps) (S : FnScope N ps (defScope st)) (len : ∀ vs H Q E, sp vs H Q E → vs.length = ps.length)
    (hbody : ∀ (f : Addr) (cdv : Value) (A : Around) (outer : List Env) (s : Shared) (H : Hp) (vs : List V) (Q : VK) (E : XK), Room k (A.deeper (envOfC x (defScope st) s.heap.objs.size f cdv)) → sp vs H Q E →
      ∃ t, PSs (cxOf (L2.CX P w) P w K mg base N x (defScope st) f cdv A outer s H E) (defBody st) t ∧ t { nx := fun _ H' => Q .non H', rt := Q } (start N vs) H) : CalX P w K mg base (k + 1) x sp := by
  obtain ⟨f, fd, G, hm, b⟩ := F.ex
  exact ⟨f, fd, ps, G.okX S len fun cdv A outer s H vs Q E hr h => hbody f cdv A outer s H vs Q E hr h, hm, G.kp, b⟩
end
end SD

/-! ## PA7 -/
set_option Elab.async false
set_option linter.all false
set_option maxRecDepth 100000
set_option maxHeartbeats 2000000
namespace SC
def relCount (k : Nat) : Nat := [3, 13, 5, 9].getD k 0
def isSt (d : Dk) (i j m : Nat) : Bool := if (decide (d.many ≤ i) || (decide (d.many ≤ j) || decide (i = j))) = true then false else decide (m < 2 ^ relCount d.kind)
def knownOf (d : Dk) (others : List Said) : List Nat := masks d.kind d.many (d.sts ++ others)
def listed (rows : List (List Nat)) : List Nat := rows.foldl (fun a r => a ++ [r.length] ++ r) [rows.length]
/-- what holds of every desk -/
structure Good (d : Dk) : Prop where
  kind : d.kind < 4
  many : d.many ≤ 4
  len : d.sts.length ≤ 5
  lens : d.prices.length = d.sts.length
  ins : ∀ s ∈ d.sts, s.one < d.many ∧ s.other < d.many ∧ s.one ≠ s.other ∧ s.rel < 2 ^ relCount d.kind
  cheap : ∀ p ∈ d.prices, p ≤ 1000
end SC
namespace SD
open PySem PySem.Spec PyProof.Rows L2
/-- a tuple of the module, written out -/
structure ConstT (K : PySem.W.Frag) (mg : Str → Option Value) (x : Str) (c : Addr) (xs : List V) : Prop where
  g : ∃ u, mg x = some u ∧ RelV (.ref c) u
  sq : ∀ H, SqT K H c xs
end SD
namespace PC
open PySem PySem.Spec PyProof.Rows L2 SD
section
variable {P : Program} {w : World} {K : PySem.W.Frag} {mg : Str → Option Value} {base : Heap} {T : List (Addr × Str)} {C CE fE cR : Addr}
abbrev relV : List V := [3, 13, 5, 9].map fun n : Nat => V.int (n : Int)
abbrev s_demand : Stmt := topS 37
theorem sc_demand : FnScope ["is_good", "number"] ["is_good", "number"] (defScope s_demand) := ⟨rfl, rfl, rfl, by decide +kernel, rfl, by decide +kernel, by decide +kernel⟩
theorem c_demand (F : Fn K mg "demand" s_demand ["is_good", "number"]) (X : Txt mg) (RT : PySem.RefX.RefTxt K mg CE fE) : CalX P w K mg base 3 "demand" (spDemand CE) := by
  refine F.calX sc_demand (fun vs H Q E h => ?_) fun f cdv A outer s H vs Q E hr h => ⟨_,
    (pss_one (ps_if (pt_not (pt_val (pv 0))) (pss_one (ps_raiseRef rfl RT hr (takes_of rfl rfl rfl rfl) (pa_cons (pv 1) pa_nil))) pss_nil)),
    ?_⟩
  · obtain ⟨b, z, rfl, _⟩ := h
    rfl
  · obtain ⟨b, z, rfl, h1, h2⟩ := h
    refine ⟨_, rfl, b, rfl, ?_⟩
    cases b with
    | true => exact h1 rfl
    | false => exact ⟨_, rfl, _, rfl, fun dd hd => h2 rfl dd hd⟩
abbrev sp_is_statement (T : List (Addr × Str)) (C : Addr) : Sp := spK4 T C (fun d (_ _ _ : Nat) => d.kind < 4) SC.isSt
abbrev s_is_statement : Stmt := topS 43
theorem sc_is_statement : FnScope ["desk", "one", "other", "relations"] ["desk", "one", "other", "relations"] (defScope s_is_statement) := ⟨rfl, rfl, rfl, by decide +kernel, rfl, by decide +kernel, by decide +kernel⟩
theorem c_is_statement (F : Fn K mg "is_statement" s_is_statement ["desk", "one", "other", "relations"]) (X : Txt mg) (DT : DeskTxt K C) (R : ConstT K mg "RELATIONS" cR relV) : Cal P w K mg base L2.CX0 1 "is_statement" (sp_is_statement T C) := by
  refine F.cal sc_is_statement spK4_len fun f cdv A outer s H vs Q E hr h => ⟨_,
    (pss_cons (ps_if (PW.pt (pw_or (pt_cmpR op_ge (pv 1) (pe_fld (pv 0) rfl) (nomark _)) (pw_or (pt_cmpR op_ge (pv 2) (pe_fld (pv 0) rfl) (nomark _)) (pw_or1 (pt_cmpR op_eq (pv 1) (pv 2) (nomark _)))))) (pss_one (ps_ret pe_bl)) pss_nil)
      (pss_one (ps_ret (pe_cmpR op_lt (pv 3) (pe_op op_shl pe_int (pe_ix ix_tup (pe_gc R.g) (pe_fld (pv 0) rfl) (fun _ _ => rfl))) (nomark _))))),
    spK4_go (fun W ht x sA pA d v1 v2 v3 a b c dm D j1 j2 j3 hp Q k => ?_) h⟩
  refine r_when (T := T) dm (et_or (et_test (ev_ge (ev_var rfl j1) (ev_many' DT D rfl))) fun _ => et_or (et_test (ev_ge (ev_var rfl j2) (ev_many' DT D rfl))) fun _ => et_test (ev_eq (ev_var rfl j1) (ev_var rfl j2))) (fun hb W1 s1 => ?_) fun hb W1 s1 => ?_
  · refine r_ret (T := T) (dm.step s1) (ev_bl false) fun u W2 s2 i => k u W2 (s1.trans s2) ?_
    rw [show SC.isSt d a b c = false from if_pos hb]
    exact i
  · have hb' : ¬ (decide (d.many ≤ a) || (decide (d.many ≤ b) || decide (a = b))) = true := fun z => absurd (hb.symm.trans z) (by decide)
    have hrel : ([3, 13, 5, 9] : List Nat)[d.kind]? = some (SC.relCount d.kind) := by
      have : d.kind = 0 ∨ d.kind = 1 ∨ d.kind = 2 ∨ d.kind = 3 := by omega
      rcases this with h | h | h | h <;> rw [h] <;> rfl
    have hle : SC.relCount d.kind ≤ 13 := by
      have : d.kind = 0 ∨ d.kind = 1 ∨ d.kind = 2 ∨ d.kind = 3 := by omega
      rcases this with h | h | h | h <;> rw [h] <;> decide
    refine r_ret (T := T) (dm.step s1) (ev_lt (ev_var rfl (j3.step s1)) ((ev_shl (ev_cn 1 rfl) (ev_ixW (ns := [3, 13, 5, 9]) R.sq (ev_kind DT (D.step s1) rfl) hrel) ⟨by omega, by decide⟩).is (Nat.one_mul _))) fun u W2 s2 i => k u W2 (s1.trans s2) ?_
    rw [show SC.isSt d a b c = decide (c < 2 ^ SC.relCount d.kind) from if_neg hb']
    exact i
abbrev sp_known_of (T : List (Addr × Str)) (C : Addr) : Sp := spK2 T C (fun d (o : List SC.Said) => SC.Good d ∧ o.length ≤ 1 ∧ ∀ s ∈ o, s.one < d.many ∧ s.other < d.many) SC.knownOf
abbrev s_known_of : Stmt := topS 44
theorem sc_known_of : FnScope ["desk", "others"] ["desk", "others"] (defScope s_known_of) := ⟨rfl, rfl, rfl, by decide +kernel, rfl, by decide +kernel, by decide +kernel⟩
theorem c_known_of (F : Fn K mg "known_of" s_known_of ["desk", "others"]) (X : Txt mg) (DT : DeskTxt K C) (C_masks : Cal P w K mg base L2.CX0 8 "masks" (sp_masks T)) : Cal P w K mg base L2.CX0 9 "known_of" (sp_known_of T C) := by
  refine F.cal sc_known_of spK2_len fun f cdv A outer s H vs Q E hr h => ⟨_,
    (pss_one (ps_ret (pe_c C_masks hr (pa_cons (pe_fld (pv 0) rfl) (pa_cons (pe_fld (pv 0) rfl) (pa_cons (pe_op op_cat (pe_fld (pv 0) rfl) (pv 1)) pa_nil)))))),
    spK2_go (fun W ht x sA pA d v a dm D j1 hp Q k => ?_) h⟩
  obtain ⟨hg, ho, hv⟩ := hp
  have h5 := hg.len
  refine r_ret (T := T) dm (ev_call3 (ea_cons (ev_kind DT D rfl) (ea_cons (ev_many' DT D rfl) (ea_cons (ev_cat (ev_sts DT D rfl) (ev_var rfl j1) (by omega)) ea_nil))) ⟨hg.many, ?_, fun s hs => ?_⟩) fun u W2 s2 i => k u W2 s2 i
  · rw [List.length_append]
    omega
  · rcases List.mem_append.mp hs with h | h
    · exact ⟨(hg.ins s h).1, (hg.ins s h).2.1⟩
    · exact hv s h
abbrev sp_listed (T : List (Addr × Str)) : Sp := sp1 T (fun (l : List (List Nat)) => l.length ≤ 1000 ∧ ∀ r ∈ l, r.length ≤ 100) SC.listed
theorem listed_len : ∀ (rows : List (List Nat)) (a : List Nat), (∀ r ∈ rows, r.length ≤ 100) → (rows.foldl (fun a r => a ++ [r.length] ++ r) a).length ≤ a.length + 101 * rows.length
  | [], a, _ => by simp
  | r :: rows, a, h => by
    have h1 := listed_len rows (a ++ [r.length] ++ r) fun x hx => h x (List.mem_cons_of_mem _ hx)
    have h2 := h r (List.mem_cons_self ..)
    rw [List.foldl_cons]
    simp only [List.length_append, List.length_cons, List.length_nil] at h1 ⊢
    omega
abbrev s_listed : Stmt := topS 45
theorem sc_listed : FnScope ["rows", "found", "row"] ["rows"] (defScope s_listed) := ⟨rfl, rfl, rfl, by decide +kernel, rfl, by decide +kernel, by decide +kernel⟩
theorem c_listed (F : Fn K mg "listed" s_listed ["rows"]) (X : Txt mg)  : Cal P w K mg base L2.CX0 1 "listed" (sp_listed T) := by
  refine F.cal sc_listed sp1_len fun f cdv A outer s H vs Q E hr h => ⟨_,
    (pss_cons (ps_set (i := 1) sc_listed.nd rfl (Or.inl rfl) (pe_lst (pa_cons (pe_callB (call_len_seq) (by rfl) X.len (by decide +kernel) (pa_cons (pv 0) pa_nil)) pa_nil)))
      (pss_cons (ps_for PassesOwn.never rfl (pi_list (pv 0)) (pg_name (i := 2) sc_listed.nd rfl (Or.inl rfl)) (pss_one (ps_set (i := 1) sc_listed.nd rfl (Or.inl rfl) (pe_op op_cat (pe_op op_cat (pv 1) (pe_lst (pa_cons (pe_callB (call_len_seq) (by rfl) X.len (by decide +kernel) (pa_cons (pv 2) pa_nil)) pa_nil))) (pv 2)))))
      (pss_one (ps_ret (pv 1))))),
    sp1_go (fun W v1 a1 d i1 hp Q k => ?_) h⟩
  refine r_asg (T := T) d (ev_lst (l := [a1.length]) (ea_cons (ev_len (ev_var rfl i1)) ea_nil) (by simp)) fun u W1 s1 j1 => ?_
  refine r_forL (T := T) (d.step s1) (ev_var rfl (i1.step s1)) (fun j σ2 W2 => Step T W1 W2 ∧ ∃ v x, σ2 = [some v1, some v, x] ∧ Is W2 v ((a1.take j).foldl (fun a r => a ++ [r.length] ++ r) [a1.length])) (fun W3 s3 => ⟨s3, u, none, rfl, j1.step s3⟩) (fun W3 s3 j r u2 σ2 W2 hj ⟨s2, v, x, e, iv⟩ le iu => ?_) fun σ2 W2 ⟨s2, v, x, e, iv⟩ le => ?_
  · subst e
    have hr1 := hp.2 r (List.mem_of_getElem? hj)
    have hl := listed_len (a1.take j) [a1.length] fun x hx => hp.2 x (List.mem_of_mem_take hx)
    have hj2 : (a1.take j).length ≤ 1000 := by rw [List.length_take]; omega
    have hl2 : ((a1.take j).foldl (fun a r => a ++ [r.length] ++ r) [a1.length]).length ≤ 200000 := by
      refine Nat.le_trans hl ?_
      simp only [List.length_cons, List.length_nil]
      omega
    refine r_asg' (T := T) ((d.step s1).step s2) (ev_cat (ev_cat (ev_var rfl iv) (ev_lst (l := [r.length]) (ea_cons (ev_len (ev_var rfl iu)) ea_nil) (by simp)) (by rw [List.length_singleton]; omega)) (ev_var rfl iu) (by rw [List.length_append, List.length_singleton]; omega)) fun u3 W4 s4 i4 => ⟨W4, rfl, le.trans s4.le, s2.trans s4, u3, some u2, rfl, ?_⟩
    rw [take_succ_of hj, List.foldl_append]
    exact i4
  · subst e
    rw [List.take_length] at iv
    exact r_ret (T := T) ((d.step s1).step s2) (ev_var rfl iv) fun u W5 s5 i5 => k u W5 ((s1.trans s2).trans s5) i5
end
end PC

/-! ## MA5 -/
set_option Elab.async false
set_option linter.all false
namespace SC
theorem isWithin_le {o m : Nat} (h : isWithin o m = true) : o ≤ m := by
  have h1 : o - (o &&& m) = 0 := of_decide_eq_true h
  have h2 : o &&& m ≤ m := Nat.and_le_right
  omega
theorem least_of : ∀ (l : List Nat), l ≠ [] → ∃ m ∈ l, ∀ y ∈ l, m ≤ y
  | [], h => absurd rfl h
  | [a], _ => ⟨a, by simp, by simp⟩
  | a :: b :: l, _ => by
    obtain ⟨m, hm, hl⟩ := least_of (b :: l) (by simp)
    by_cases h : a ≤ m
    · refine ⟨a, by simp, fun y hy => ?_⟩
      rcases List.mem_cons.mp hy with rfl | hy
      · exact Nat.le_refl _
      · exact Nat.le_trans h (hl y hy)
    · refine ⟨m, List.mem_cons_of_mem _ hm, fun y hy => ?_⟩
      rcases List.mem_cons.mp hy with rfl | hy
      · omega
      · exact hl y hy
theorem minimal_ne {l : List Nat} (h : l ≠ []) : minimal l ≠ [] := by
  obtain ⟨m, hm, hl⟩ := least_of l h
  have : m ∈ minimal l := by
    unfold minimal
    rw [List.mem_filter]
    refine ⟨hm, ?_⟩
    rw [Bool.not_eq_true']
    apply Bool.eq_false_iff.mpr
    intro z
    obtain ⟨o, ho, hz⟩ := List.any_eq_true.mp z
    rw [Bool.and_eq_true, decide_eq_true_eq] at hz
    have := isWithin_le hz.2
    have := hl o ho
    exact hz.1 (by omega)
  intro z
  rw [z] at this
  cases this
theorem cures_ne {known : List Nat} (h : known ≠ []) (many : Nat) : cures known many ≠ [] := by
  have hp : 0 < 2 ^ many := Nat.pow_pos (by decide)
  have h1 : (List.range (2 ^ many)).filter (fun p => isConsistent known (2 ^ many - 1 - p)) ≠ [] := by
    have : 2 ^ many - 1 ∈ (List.range (2 ^ many)).filter (fun p => isConsistent known (2 ^ many - 1 - p)) := by
      rw [List.mem_filter]
      refine ⟨List.mem_range.mpr (by omega), ?_⟩
      rw [Nat.sub_self]
      obtain ⟨m, l, rfl⟩ : ∃ m l, known = m :: l := by
        cases known with
        | nil => exact absurd rfl h
        | cons m l => exact ⟨m, l, rfl⟩
      unfold isConsistent
      rw [List.any_cons]
      have : isWithin 0 m = true := by simp [isWithin]
      rw [this]
      rfl
    intro z
    rw [z] at this
    cases this
  have h2 := minimal_ne h1
  unfold cures ordered
  intro z
  have h3 := congrArg List.length z
  rw [List.length_mergeSort, List.length_map] at h3
  exact h2 (List.length_eq_zero_iff.mp h3)
theorem mem_ordered {parts : List Nat} {many : Nat} {row : List Nat} (h : row ∈ ordered parts many) : ∃ p ∈ parts, row = numbersOf p many := by
  unfold ordered at h
  rw [List.mem_mergeSort] at h
  obtain ⟨p, hp, rfl⟩ := List.mem_map.mp h
  exact ⟨p, hp, rfl⟩
theorem mem_numbers {p many i : Nat} (h : i ∈ numbersOf p many) : i < many := by
  unfold numbersOf at h
  exact List.mem_range.mp (List.mem_filter.mp h).1
theorem cures_in {known : List Nat} {many : Nat} {row : List Nat} (h : row ∈ cures known many) : row.length ≤ many ∧ ∀ i ∈ row, i < many := by
  obtain ⟨p, _, rfl⟩ := mem_ordered h
  exact ⟨PC.numbers_len p many, fun i hi => mem_numbers hi⟩
theorem conflicts_in {known : List Nat} {many : Nat} {row : List Nat} (h : row ∈ conflicts known many) : row.length ≤ many := by
  obtain ⟨p, _, rfl⟩ := mem_ordered h
  exact PC.numbers_len p many
theorem reasons_in {known : List Nat} {many : Nat} {row : List Nat} (h : row ∈ reasons known many) : row.length ≤ many := by
  obtain ⟨p, _, rfl⟩ := mem_ordered h
  exact PC.numbers_len p many
theorem ordered_len (parts : List Nat) (many : Nat) : (ordered parts many).length = parts.length := by
  unfold ordered
  rw [List.length_mergeSort, List.length_map]
theorem cures_len {known : List Nat} {many : Nat} (h : many ≤ 6) : (cures known many).length ≤ 1000 := by
  unfold cures
  rw [ordered_len]
  exact PC.min_len (PC.filt_len h _)
theorem conflicts_len {known : List Nat} {many : Nat} (h : many ≤ 6) : (conflicts known many).length ≤ 1000 := by
  unfold conflicts
  rw [ordered_len]
  exact PC.min_len (PC.filt_len h _)
theorem reasons_len {known : List Nat} {many : Nat} (h : many ≤ 6) : (reasons known many).length ≤ 1000 := by
  unfold reasons
  rw [ordered_len]
  exact PC.min_len (PC.filt_len h _)
/-! masks -/
theorem put_ne (l : List Nat) (m : Nat) : put l m ≠ [] := by
  unfold put
  split
  · rename_i h
    exact List.ne_nil_of_mem h
  · simp
theorem maskOf_lt {α : Type} (p : α → Bool) (l : List α) : maskOf p l < 2 ^ l.length := by
  have key : ∀ i, i ≤ l.length → (((List.range l.length).zip l).take i).foldl (maskStep p) 0 < 2 ^ i := by
    intro i
    induction i with
    | zero => intro _; simp
    | succ i ih =>
      intro hi
      have h1 := ih (by omega)
      have hz : ((List.range l.length).zip l)[i]? = some (i, l[i]) := by
        rw [List.getElem?_zip_eq_some]
        exact ⟨List.getElem?_range (by omega), List.getElem?_eq_getElem (by omega)⟩
      rw [SD.take_succ_of hz, List.foldl_append]
      show maskStep p _ (i, l[i]) < _
      have h2 : 2 ^ (i + 1) = 2 ^ i * 2 := Nat.pow_succ 2 i
      have h3 : ∀ x, maskStep p x (i, l[i]) ≤ x + 2 ^ i := by
        intro x
        unfold maskStep
        split
        · exact Nat.le_refl _
        · exact Nat.le_add_right _ _
      have h4 := h3 ((((List.range l.length).zip l).take i).foldl (maskStep p) 0)
      omega
  have := key l.length (Nat.le_refl _)
  rw [List.take_of_length_le (by simp)] at this
  exact this
theorem venn_ex {n : Nat} (h : n ≤ 4) : ∃ x, x ∈ venn n := by
  have key : inAll n (2 ^ (2 ^ n - 1) - 1) = true := by
    have : n = 0 ∨ n = 1 ∨ n = 2 ∨ n = 3 ∨ n = 4 := by omega
    rcases this with rfl | rfl | rfl | rfl | rfl <;> decide +kernel
  have hp : 0 < 2 ^ (2 ^ n - 1) := Nat.pow_pos (by decide)
  exact ⟨_, List.mem_map.mpr ⟨_, List.mem_filter.mpr ⟨List.mem_range.mpr (by omega), key⟩, rfl⟩⟩
theorem worlds_ex (k : Nat) {n : Nat} (h : n ≤ 4) : ∃ w, w ∈ worlds k n := by
  unfold worlds
  split
  · obtain ⟨w, hw, _⟩ := orders_all id n
    exact ⟨_, List.mem_map.mpr ⟨w, hw, rfl⟩⟩
  split
  · obtain ⟨w, hw, _⟩ := intervals_all id n (fun i _ => Nat.lt_succ_self _)
    exact ⟨_, List.mem_map.mpr ⟨w, hw, rfl⟩⟩
  split
  · obtain ⟨w, hw⟩ := venn_ex h
    exact ⟨_, List.mem_map.mpr ⟨w, hw, rfl⟩⟩
  · obtain ⟨w, hw, _⟩ := orders_all id n
    exact ⟨_, List.mem_flatMap.mpr ⟨w, hw, List.mem_map.mpr ⟨w, hw, rfl⟩⟩⟩
theorem masks_ne (k : Nat) {n : Nat} (h : n ≤ 4) (sts : List Said) : masks k n sts ≠ [] := by
  unfold masks
  split
  · simp
  · obtain ⟨w, hw⟩ := worlds_ex k h
    have : maskOf (holdsIn k n w) sts ∈ rising (putAll ((worlds k n).map fun w => maskOf (holdsIn k n w) sts)) := mem_rising.mpr (mem_putAll.mpr (List.mem_map.mpr ⟨w, hw, rfl⟩))
    exact List.ne_nil_of_mem this
theorem rising_len (l : List Nat) : (rising l).length = l.length := List.length_mergeSort l
theorem masks_len {k n : Nat} {sts : List Said} (h : sts.length ≤ 6) : (masks k n sts).length ≤ 64 := by
  unfold masks
  split
  · simp
  · rw [rising_len]
    refine putAll_len fun m hm => ?_
    obtain ⟨w, _, rfl⟩ := List.mem_map.mp hm
    exact Nat.lt_of_lt_of_le (maskOf_lt _ _) (Nat.le_trans (Nat.pow_le_pow_right (by decide) h) (by decide))
end SC

/-! ## SD10 -/
set_option Elab.async false
set_option linter.all false
set_option maxRecDepth 100000
set_option maxHeartbeats 2000000
/-! the desk changes -/
namespace SD
open PySem PySem.Spec PyProof.Rows L2
section
/-! rules with the written part told (within a comprehension) -/
variable {X : Cx} {K : PySem.W.Frag}
theorem ix_listK (hK : X.K = K) : IxR X (rIxL K) := hK ▸ ix_list
theorem cr_sumK (hK : X.K = K) (hc : X.calm = true) : CallR X (.builtin "sum") (rSum K) := hK ▸ cr_sum hc
theorem op_notInK (hK : X.K = K) : OpR X (compareOp .NotIn) (rIn K true) := hK ▸ op_notIn_seq
theorem pi_listK {l tg : Expr} {tl : TE} (hK : X.K = K) (hl : PE X l tl) : PI X tg l (iList K tl) := hK ▸ pi_list hl
theorem pe_fldK {e : Expr} {f : Str} {pos : Pos} {ta : TE} (hK : X.K = K) (he : PE X e ta) (hb : attributeBase e f X.env (eval e X.env) = eval e X.env) : PE X (.Attribute e f pos) (tFld K ta f) := hK ▸ pe_fld he hb
end
section
variable {H H' : Hp}
mutual
theorem IsD.sub2 (e : ∀ a o, H a = some o → (∃ vs, o = .lst vs ∨ o = .tup vs) → H' a = some o) : ∀ {d : D} {v : V}, IsD H v d → IsD H' v d
  | .int _, _, h => by cases h; exact .int _
  | .bl _, _, h => by cases h; exact .bl _
  | .lst ds, _, h => by
    cases h with
    | lst h1 h2 => exact .lst (e _ _ h1 ⟨_, .inl rfl⟩) (IsDs.sub2 e h2)
  | .tup ds, _, h => by
    cases h with
    | tup h1 h2 => exact .tup (e _ _ h1 ⟨_, .inr rfl⟩) (IsDs.sub2 e h2)
theorem IsDs.sub2 (e : ∀ a o, H a = some o → (∃ vs, o = .lst vs ∨ o = .tup vs) → H' a = some o) : ∀ {ds : List D} {vs : List V}, IsDs H vs ds → IsDs H' vs ds
  | [], _, h => by cases h; exact .nil
  | d :: ds, _, h => by
    cases h with
    | cons h1 h2 => exact .cons (IsD.sub2 e h1) (IsDs.sub2 e h2)
end
theorem isds_said {vs : List V} : ∀ {l : List SC.Said}, IsDs H vs (l.map Enc.enc) → (∀ a ws, H a = some (.tup ws) → H' a = some (.tup ws)) → IsDs H' vs (l.map Enc.enc) := by
  intro l
  induction l generalizing vs with
  | nil => intro h _; cases h; exact .nil
  | cons s l ih =>
    intro h e
    cases h with
    | cons h1 h2 =>
      refine .cons ?_ (ih h2 e)
      have h1 : IsD H _ (.tup [Enc.enc s.one, Enc.enc s.other, Enc.enc s.rel]) := h1
      cases h1 with
      | tup k1 k2 =>
        refine IsD.tup (e _ _ k1) ?_
        cases k2 with
        | cons a1 k2 =>
          cases a1
          cases k2 with
          | cons a2 k2 =>
            cases a2
            cases k2 with
            | cons a3 k2 =>
              cases a3
              cases k2
              exact .cons (.int _) (.cons (.int _) (.cons (.int _) .nil))
end
section
variable {α β γ δ ε : Type} [Enc α] [Enc β] [Enc γ] [Enc δ] [Enc ε] {T : List (Addr × Str)} {W W' W0 W1 W2 : Wo} {σ σ2 : L2.St} {te ta tb tc tl : TE} {t u : TT} {tA : TA} {K : PySem.W.Frag} {Dn : Ends} {tu tw tz : TS} {C CE x sA pA q : Addr} {d : SC.Dk} {i : Nat}
/-- data do not lean on an instance -/
theorem Is.ins {v : V} {a : α} {c dx : Addr} {fs : List (Str × V)} {o : HO} (h : Is W v a) (hx : W.H x = some (.ins c dx fs)) : Is ⟨W.S, upd W.H x o⟩ v a := IsD.sub2 (fun b u e k => by
  obtain ⟨h1, h2⟩ := hid_some.mp e
  refine hid_some.mpr ⟨h1, ?_⟩
  show upd W.H x o b = some u
  rw [upd_ne]
  · exact h2
  · intro z
    rw [z, hx] at h2
    cases h2
    obtain ⟨vs, k | k⟩ := k <;> cases k) h
/-- a new list -/
def EvN (T : List (Addr × Str)) (te : TE) (σ : L2.St) (W : Wo) (x : α) : Prop := ∀ W1, Le T W W1 → W1.Dom → ∀ Q : VK, (∀ q W2, NoD W1.H q → Step T W1 W2 → Is W2 (.ref q) x → Q (.ref q) W2.H) → te σ W1.H Q
theorem evN_nil : EvN T (tLst tNil) σ W ([] : List α) := fun W1 e d Q q => ⟨Nat.zero_le _, fun p hp => q p ⟨W1.S, _⟩ (.of hp) (step_of (.new hp)) (is_new_lst (l := ([] : List α)) d hp .nil)⟩
def spN2 (T : List (Addr × Str)) (Pre : α → β → Prop) (f : α → β → γ) : Sp := fun vs H Q _ => ∃ S a b, Wo.Dom ⟨S, H⟩ ∧ Iss ⟨S, H⟩ vs [Enc.enc a, Enc.enc b] ∧ Pre a b ∧ ∀ q W2, NoD H q → Step T ⟨S, H⟩ W2 → Is W2 (.ref q) (f a b) → Q (.ref q) W2.H
variable {E : XK}
theorem evN_call2 {Pre : α → β → Prop} {f : α → β → γ} {a : α} {b : β} (ha : EvA T tA σ W [Enc.enc a, Enc.enc b]) (hp : Pre a b) : EvN T (tCall (spN2 T Pre f) [] E tA) σ W (f a b) := fun W1 e d Q q =>
  ha W1 e d _ fun vs W2 e2 is => ⟨W2.S, a, b, d.step e2, by rw [List.append_nil]; exact is, hp, fun u W3 n e3 i => q u W3 (n.back e2.ex) (e2.trans e3) i⟩
theorem spN2_len {Pre : α → β → Prop} {f : α → β → γ} (vs : List V) (H : Hp) (Q : VK) (E : XK) (h : spN2 T Pre f vs H Q E) : vs.length = 2 := by
  obtain ⟨S, a, b, _, is, _⟩ := h
  exact is.len
theorem spN2_go {Pre : α → β → Prop} {f : α → β → γ} {N : List Str} {t : TS} (k : ∀ (W : Wo) (v u : V) (a : α) (b : β), W.Dom → Is W v a → Is W u b → Pre a b → ∀ Q : VK, (∀ q W2, NoD W.H q → Step T W W2 → Is W2 (.ref q) (f a b) → Q (.ref q) W2.H) → t (EndsOf Q) (start N [v, u]) W.H)
    {vs : List V} {H : Hp} {Q : VK} {E : XK} (h : spN2 T Pre f vs H Q E) : t (EndsOf Q) (start N vs) H := by
  obtain ⟨S, a, b, d, is, hp, q⟩ := h
  obtain ⟨v, u, rfl, i1, i2⟩ := iss2 is
  exact k ⟨S, H⟩ v u a b d i1 i2 hp Q q
theorem rN_ret {x : α} (d : W.Dom) (h : EvN T te σ W x) (k : ∀ q W2, NoD W.H q → Step T W W2 → Is W2 (.ref q) x → Dn.rt (.ref q) W2.H) : tRet te Dn σ W.H := h W (.refl _) d _ k
/-- a, b in enumerate(xs): a new list -/
theorem evN_lcE {xs : List α} {j k : Nat} {vs : List Nat} (p : Nat × α → Bool) (f : Nat × α → β) (h : Ev T tl σ W xs) (hz : xs.length ≤ 10000000) (hw : ∀ x y, wipe (((wipe σ vs).set j (some x)).set k (some y)) vs = wipe σ vs)
    (ht : ∀ (i : Nat) x, xs[i]? = some x → ∀ v W1, Le T W W1 → Is W1 v x → EvT T t (((wipe σ vs).set j (some (.int (i : Int)))).set k (some v)) W1 (p (i, x)))
    (he : ∀ (i : Nat) x, xs[i]? = some x → p (i, x) = true → ∀ v W1, Le T W W1 → Is W1 v x → Ev T te (((wipe σ vs).set j (some (.int (i : Int)))).set k (some v)) W1 (f (i, x))) :
    EvN T (tLc (iEnum K (tCons tl tNil)) (gTup K 2 (gCons (gName j) (gCons (gName k) gNil))) t te vs) σ W ((((List.range xs.length).zip xs).filter p).map f) := fun W0 e0 d0 Q q => h W0 e0 d0 _ fun v W1 s1 i1 => by
  obtain ⟨a, ws, rfl, ha, hl, is⟩ := is_lst i1
  have el := is.len
  rw [List.length_map] at el
  have hlen : ((List.range xs.length).zip xs).length = xs.length := by simp
  have c0 : ∀ Dl, W1.H Dl = none → Cw T W1 Dl (((((List.range xs.length).zip xs).take 0).filter p).map f) (upd W1.H Dl (.lst [])) := fun Dl hD => .start hD (d0.step s1)
  refine ⟨a, ws, rfl, SqL.of hl, fun Dl hD => lc_it (walk_enum (K := K) (a := a) (xs := ws)) (fun i H' => Cw T W1 Dl (((((List.range xs.length).zip xs).take i).filter p).map f) H') (c0 Dl hD) (fun i H' _ c => SqL.of (c.ex.lst hl)) (fun i v H' H'' hi c hy => ?_) fun H' c => ?_⟩
  · obtain ⟨Tp, y1, y2, rfl, hT, rfl, h1, h2⟩ := hy
    cases h1
    have h2 : ws[i]? = some y2 := h2
    obtain ⟨x, hx, ix⟩ := iss_at is h2
    have hlt := (List.getElem?_eq_some_iff.mp hx).1
    have hzip : ((List.range xs.length).zip xs)[i]? = some (i, x) := by
      rw [List.getElem?_zip_eq_some]
      exact ⟨by simp [hlt], hx⟩
    have cT : Cw T W1 Dl (((((List.range xs.length).zip xs).take i).filter p).map f) (upd H' Tp (.tup [.int (i : Int), y2])) := c.step (W3 := wov W1 Dl (upd H' Tp (.tup [.int (i : Int), y2]))) (step_of (W := wov W1 Dl H') (.new hT))
    refine ⟨Tp, _, rfl, SqT.of upd_same, rfl, _, _, rfl, _, _, rfl, rfl, hw _ _, ?_⟩
    have le : Le T W (wov W1 Dl (upd H' Tp (.tup [.int (i : Int), y2]))) := (e0.trans s1.le).trans cT.le
    refine cT.turn (b := p (i, x)) (y := f (i, x)) (Nat.lt_of_lt_of_le (fm_len p f ((List.range xs.length).zip xs) i (by rw [hlen]; exact hlt)) (by rw [hlen]; exact hz)) (ht i x hx y2 _ le (ix.mono cT.le)) (fun hp => he i x hx hp y2 _ le (ix.mono cT.le)) fun H4 c4 => ?_
    rw [fm_next hzip]
    exact c4
  · rw [List.take_of_length_le (by rw [hlen]; omega)] at c
    obtain ⟨s2, i2⟩ := c.end
    exact q Dl _ ((NoD.of hD).back s1.ex) (s1.trans s2) i2
/-! ### what changes -/
theorem Chg.refl (H : Hp) : Chg T x sA pA H H := ⟨fun _ _ _ _ _ h _ => h, fun h => h⟩
theorem Chg.ex {H H1 H2 : Hp} (c : Chg T x sA pA H H1) (e : Ex T H1 H2) : Chg T x sA pA H H2 := ⟨fun a o h1 h2 h3 h n => e.keep a o (c.keep a o h1 h2 h3 h n) n, fun t => e.tabs (c.tabs t)⟩
theorem tabs_upd {H : Hp} {p : Addr} {o o' : HO} (h : H p = some o') (n : ∀ ps, o' ≠ .tbl ps) (n2 : ∀ φ, o' ≠ .ext φ) (t : LamX.Tabs T H) : LamX.Tabs T (upd H p o) := (Le.chg (S := [p]) (List.mem_cons_self ..) h n n2).tabs t
theorem Chg.atX {H H1 : Hp} {c dx : Addr} {fs : List (Str × V)} {o : HO} (k : Chg T x sA pA H H1) (hx : H1 x = some (.ins c dx fs)) : Chg T x sA pA H (upd H1 x o) :=
  ⟨fun a u h1 h2 h3 h n => by rw [upd_ne h1]; exact k.keep a u h1 h2 h3 h n, fun t => tabs_upd hx (fun _ z => by cases z) (fun _ z => by cases z) (k.tabs t)⟩
theorem Chg.atS {H H1 : Hp} {vs : List V} {o : HO} (k : Chg T x sA pA H H1) (hx : H1 sA = some (.lst vs)) : Chg T x sA pA H (upd H1 sA o) :=
  ⟨fun a u h1 h2 h3 h n => by rw [upd_ne h2]; exact k.keep a u h1 h2 h3 h n, fun t => tabs_upd hx (fun _ z => by cases z) (fun _ z => by cases z) (k.tabs t)⟩
theorem Chg.atP {H H1 : Hp} {vs : List V} {o : HO} (k : Chg T x sA pA H H1) (hx : H1 pA = some (.lst vs)) : Chg T x sA pA H (upd H1 pA o) :=
  ⟨fun a u h1 h2 h3 h n => by rw [upd_ne h3]; exact k.keep a u h1 h2 h3 h n, fun t => tabs_upd hx (fun _ z => by cases z) (fun _ z => by cases z) (k.tabs t)⟩
theorem Chg.trans2 {H H1 H2 : Hp} (a : Chg T x sA pA H H1) (b : Chg T x sA pA H1 H2) : Chg T x sA pA H H2 := ⟨fun c o h1 h2 h3 h n => b.keep c o h1 h2 h3 (a.keep c o h1 h2 h3 h n) n, fun t => b.tabs (a.tabs t)⟩
/-- the desk's own stay out of what is avoided -/
theorem DkW.out (D : DkW C W x sA pA d) : x ∉ W.S ∧ sA ∉ W.S ∧ pA ∉ W.S := by
  obtain ⟨a, vs, e, h1, _⟩ := is_lst D.sts
  obtain ⟨b, ws, e', h2, _⟩ := is_lst D.prs
  cases e
  cases e'
  exact ⟨D.nx, h1, h2⟩
theorem Chg.dom {H' : Hp} (c : Chg T x sA pA W.H H') (D : DkW C W x sA pA d) (dm : W.Dom) : Wo.Dom ⟨W.S, H'⟩ := fun s hs => by
  obtain ⟨o, h1, h2⟩ := dm s hs
  obtain ⟨n1, n2, n3⟩ := D.out
  exact ⟨o, c.keep s o (fun z => n1 (z ▸ hs)) (fun z => n2 (z ▸ hs)) (fun z => n3 (z ▸ hs)) h1 h2, h2⟩
/-- desk.f = e, a new desk's state -/
theorem dm_ins {o : HO} {c dx : Addr} {fs : List (Str × V)} (dm : W.Dom) (nx : x ∉ W.S) : Wo.Dom ⟨W.S, upd W.H x o⟩ := fun s hs => by
  obtain ⟨u, h1, h2⟩ := dm s hs
  exact ⟨u, by show upd W.H x o s = some u; rw [upd_ne (fun z : s = x => nx (z ▸ hs))]; exact h1, h2⟩
theorem r_setKind {n : Nat} (X : DeskTxt K C) (D : DkW C W x sA pA d) (dm : W.Dom) (hi : σ[i]? = some (some (.ref x))) (h : Ev T te σ W n)
    (k : ∀ H', Chg T x sA pA W.H H' → Wo.Dom ⟨W.S, H'⟩ → DkW C ⟨W.S, H'⟩ x sA pA { d with kind := n } → Dn.nx σ H') : sFld K (tVar i) te "kind" Dn σ W.H := h W (.refl _) dm _ fun v W1 s1 i1 => by
  rw [is_nat i1]
  have D1 := D.step s1
  obtain ⟨dx, hx⟩ := D1.obj
  refine ⟨_, hi, x, C, dx, _, rfl, hx, X.cl, X.nk, by simp [dkFs], ?_⟩
  rw [pf_kind]
  have es := s1.s
  have c1 : Chg T x sA pA W.H W1.H := (Chg.refl _).ex s1.ex
  have dm1 := dm.step s1
  obtain ⟨S1, H1⟩ := W1
  cases es
  exact k _ (c1.atX hx) (dm_ins (c := C) (dx := dx) (fs := []) dm1 D1.nx) ⟨⟨dx, upd_same⟩, D1.nx, D1.sts.ins hx, D1.prs.ins hx, D1.ne⟩
theorem r_setMany {n : Nat} (X : DeskTxt K C) (D : DkW C W x sA pA d) (dm : W.Dom) (hi : σ[i]? = some (some (.ref x))) (h : Ev T te σ W n)
    (k : ∀ H', Chg T x sA pA W.H H' → Wo.Dom ⟨W.S, H'⟩ → DkW C ⟨W.S, H'⟩ x sA pA { d with many := n } → Dn.nx σ H') : sFld K (tVar i) te "many" Dn σ W.H := h W (.refl _) dm _ fun v W1 s1 i1 => by
  rw [is_nat i1]
  have D1 := D.step s1
  obtain ⟨dx, hx⟩ := D1.obj
  refine ⟨_, hi, x, C, dx, _, rfl, hx, X.cl, X.nm, by simp [dkFs], ?_⟩
  rw [pf_many]
  have es := s1.s
  have c1 : Chg T x sA pA W.H W1.H := (Chg.refl _).ex s1.ex
  have dm1 := dm.step s1
  obtain ⟨S1, H1⟩ := W1
  cases es
  exact k _ (c1.atX hx) (dm_ins (c := C) (dx := dx) (fs := []) dm1 D1.nx) ⟨⟨dx, upd_same⟩, D1.nx, D1.sts.ins hx, D1.prs.ins hx, D1.ne⟩
theorem nod_ne {H : Hp} {a : Addr} {vs : List V} (n : NoD H q) (h : H a = some (.lst vs)) : q ≠ a := fun z => by
  rw [← z] at h
  obtain ⟨ps, e⟩ := n _ h
  cases e
theorem r_setSts {l : List SC.Said} (X : DeskTxt K C) (D : DkW C W x sA pA d) (dm : W.Dom) (hi : σ[i]? = some (some (.ref x))) (h : EvN T te σ W l)
    (k : ∀ q H', (∀ a o, a ≠ x → W.H a = some o → (∀ ps, o ≠ .tbl ps) → H' a = some o) → (∀ {α : Type} [Enc α] {v : V} {y : α}, Is W v y → Is ⟨W.S, H'⟩ v y) → Chg T x sA pA W.H H' → Wo.Dom ⟨W.S, H'⟩ → DkW C ⟨W.S, H'⟩ x q pA { d with sts := l } → Dn.nx σ H') : sFld K (tVar i) te "statements" Dn σ W.H := h W (.refl _) dm _ fun q W1 nq s1 i1 => by
  have D1 := D.step s1
  obtain ⟨dx, hx⟩ := D1.obj
  refine ⟨_, hi, x, C, dx, _, rfl, hx, X.cl, X.ns, by simp [dkFs], ?_⟩
  rw [pf_sts d sA pA q l]
  have es := s1.s
  have c1 : Chg T x sA pA W.H W1.H := (Chg.refl _).ex s1.ex
  have dm1 := dm.step s1
  obtain ⟨p', ws, ep, _, hp, _⟩ := is_lst D.prs
  cases ep
  have ex1 := s1.ex
  have st := s1
  obtain ⟨S1, H1⟩ := W1
  cases es
  exact k q _ (fun a o ha h1 n => by rw [upd_ne ha]; exact ex1.keep a o h1 n) (fun iv => (iv.step st).ins hx) (c1.atX hx) (dm_ins (c := C) (dx := dx) (fs := []) dm1 D1.nx) ⟨⟨dx, upd_same⟩, D1.nx, i1.ins hx, D1.prs.ins hx, nod_ne nq hp⟩
theorem r_setPrs {l : List Nat} (X : DeskTxt K C) (D : DkW C W x sA pA d) (dm : W.Dom) (hi : σ[i]? = some (some (.ref x))) (h : EvN T te σ W l)
    (k : ∀ q H', (∀ a o, a ≠ x → W.H a = some o → (∀ ps, o ≠ .tbl ps) → H' a = some o) → (∀ {α : Type} [Enc α] {v : V} {y : α}, Is W v y → Is ⟨W.S, H'⟩ v y) → Chg T x sA pA W.H H' → Wo.Dom ⟨W.S, H'⟩ → DkW C ⟨W.S, H'⟩ x sA q { d with prices := l } → Dn.nx σ H') : sFld K (tVar i) te "prices" Dn σ W.H := h W (.refl _) dm _ fun q W1 nq s1 i1 => by
  have D1 := D.step s1
  obtain ⟨dx, hx⟩ := D1.obj
  refine ⟨_, hi, x, C, dx, _, rfl, hx, X.cl, X.np, by simp [dkFs], ?_⟩
  rw [pf_prs d sA pA q l]
  have es := s1.s
  have c1 : Chg T x sA pA W.H W1.H := (Chg.refl _).ex s1.ex
  have dm1 := dm.step s1
  obtain ⟨p', ws, ep, _, hp, _⟩ := is_lst D.sts
  cases ep
  have ex1 := s1.ex
  have st := s1
  obtain ⟨S1, H1⟩ := W1
  cases es
  exact k q _ (fun a o ha h1 n => by rw [upd_ne ha]; exact ex1.keep a o h1 n) (fun iv => (iv.step st).ins hx) (c1.atX hx) (dm_ins (c := C) (dx := dx) (fs := []) dm1 D1.nx) ⟨⟨dx, upd_same⟩, D1.nx, D1.sts.ins hx, i1.ins hx, (nod_ne nq hp).symm⟩
/-- Chg in the world behind a change -/
theorem Chg.then {H H1 H2 : Hp} (a : Chg T x sA pA H H1) (k : ∀ b o, b ≠ x → H1 b = some o → (∀ ps, o ≠ .tbl ps) → H2 b = some o) (t : LamX.Tabs T H1 → LamX.Tabs T H2) : Chg T x sA pA H H2 :=
  ⟨fun b o h1 h2 h3 h n => k b o h1 (a.keep b o h1 h2 h3 h n) n, fun h => t (a.tabs h)⟩
/-- desk.statements.append(..) -/
theorem r_appSts {s : SC.Said} (X : DeskTxt K C) (D : DkW C W x sA pA d) (dm : W.Dom) (hi : σ[i]? = some (some (.ref x))) (h : Ev T te σ W s) (hz : d.sts.length ≤ 1000)
    (k : ∀ H', Chg T x sA pA W.H H' → Wo.Dom ⟨W.S, H'⟩ → DkW C ⟨W.S, H'⟩ x sA pA { d with sts := d.sts ++ [s] } → Dn.nx σ H') : tDrop (tBM K "list" rAppend (tFld K (tVar i) "statements") (tCons te tNil)) Dn σ W.H := by
  obtain ⟨dx0, hx0⟩ := D.obj
  obtain ⟨a, vs0, e0, na, ha0, _⟩ := is_lst D.sts
  cases e0
  refine ⟨_, hi, x, C, dx0, _, _, rfl, hx0, X.cl, X.ns, lk_sts d sA pA, .inl ⟨rfl, _, SqL.of ha0⟩, h W (.refl _) dm _ fun v W1 s1 i1 => ?_⟩
  have D1 := D.step s1
  obtain ⟨dx, hx⟩ := D1.obj
  obtain ⟨a, vs, e1, na1, ha, is⟩ := is_lst D1.sts
  cases e1
  obtain ⟨b, ws, e2, nb, hb, js⟩ := is_lst D1.prs
  cases e2
  have el := is.len
  rw [List.length_map] at el
  refine ⟨sA, vs, v, rfl, rfl, ha, big7 (by omega), ?_⟩
  have es := s1.s
  have c1 : Chg T x sA pA W.H W1.H := (Chg.refl _).ex s1.ex
  have dm1 := dm.step s1
  obtain ⟨S1, H1⟩ := W1
  cases es
  have nxs : x ≠ sA := fun z => by
    have hx' : H1 x = _ := hx
    have ha' : H1 sA = _ := ha
    rw [z, ha'] at hx'
    cases hx'
  have is2 : Iss ⟨W.S, H1⟩ (vs ++ [v]) ((d.sts ++ [s]).map Enc.enc) := by
    rw [List.map_append]
    exact is.app (show Iss ⟨W.S, H1⟩ [v] [Enc.enc s] from .cons i1 .nil)
  have is3 : Iss ⟨W.S, upd H1 sA (.lst (vs ++ [v]))⟩ (vs ++ [v]) ((d.sts ++ [s]).map Enc.enc) := isds_said is2 fun a ws e => by
    obtain ⟨h1, h2⟩ := hid_some.mp e
    refine hid_some.mpr ⟨h1, ?_⟩
    show upd H1 sA _ a = some (.tup ws)
    rw [upd_ne]
    · exact h2
    · intro z
      have ha' : H1 sA = _ := ha
      have h2' : H1 a = some (.tup ws) := h2
      rw [z, ha'] at h2'
      cases h2'
  refine k _ (c1.atS ha) (fun s hs => ?_) ⟨⟨dx, ?_⟩, D1.nx, ?_, ?_, D1.ne⟩
  · obtain ⟨o, h1, h2⟩ := dm1 s hs
    exact ⟨o, by show upd H1 sA _ s = some o; rw [upd_ne (fun z : s = sA => na1 (z ▸ hs))]; exact h1, h2⟩
  · show upd H1 sA _ x = _
    rw [upd_ne nxs]
    exact hx
  · exact IsD.lst (hid_some.mpr ⟨na1, upd_same⟩) is3
  · have hv := iss_nats js
    refine IsD.lst (vs := ws) (hid_some.mpr ⟨nb, ?_⟩) (by rw [hv]; exact nats_isds d.prices)
    show upd H1 sA _ pA = _
    rw [upd_ne D1.ne.symm]
    exact hb
/-- desk.prices.append(..) -/
theorem r_appPrs {n : Nat} (X : DeskTxt K C) (D : DkW C W x sA pA d) (dm : W.Dom) (hi : σ[i]? = some (some (.ref x))) (h : Ev T te σ W n) (hz : d.prices.length ≤ 1000)
    (k : ∀ H', Chg T x sA pA W.H H' → Wo.Dom ⟨W.S, H'⟩ → DkW C ⟨W.S, H'⟩ x sA pA { d with prices := d.prices ++ [n] } → Dn.nx σ H') : tDrop (tBM K "list" rAppend (tFld K (tVar i) "prices") (tCons te tNil)) Dn σ W.H := by
  obtain ⟨dx0, hx0⟩ := D.obj
  obtain ⟨a, vs0, e0, na, ha0, _⟩ := is_lst D.prs
  cases e0
  refine ⟨_, hi, x, C, dx0, _, _, rfl, hx0, X.cl, X.np, lk_prs d sA pA, .inl ⟨rfl, _, SqL.of ha0⟩, h W (.refl _) dm _ fun v W1 s1 i1 => ?_⟩
  rw [is_nat i1]
  have D1 := D.step s1
  obtain ⟨dx, hx⟩ := D1.obj
  obtain ⟨a, vs, e1, na1, ha, is⟩ := is_lst D1.prs
  cases e1
  obtain ⟨b, ws, e2, nb, hb, js⟩ := is_lst D1.sts
  cases e2
  have el := is.len
  rw [List.length_map] at el
  refine ⟨pA, vs, .int (n : Int), rfl, rfl, ha, big7 (by omega), ?_⟩
  have es := s1.s
  have c1 : Chg T x sA pA W.H W1.H := (Chg.refl _).ex s1.ex
  have dm1 := dm.step s1
  obtain ⟨S1, H1⟩ := W1
  cases es
  have nxs : x ≠ pA := fun z => by
    have hx' : H1 x = _ := hx
    have ha' : H1 pA = _ := ha
    rw [z, ha'] at hx'
    cases hx'
  have hv := iss_nats is
  refine k _ (c1.atP ha) (fun s hs => ?_) ⟨⟨dx, ?_⟩, D1.nx, ?_, ?_, D1.ne⟩
  · obtain ⟨o, h1, h2⟩ := dm1 s hs
    exact ⟨o, by show upd H1 pA _ s = some o; rw [upd_ne (fun z : s = pA => na1 (z ▸ hs))]; exact h1, h2⟩
  · show upd H1 pA _ x = _
    rw [upd_ne nxs]
    exact hx
  · refine IsD.lst (vs := ws) (hid_some.mpr ⟨nb, ?_⟩) (isds_said js fun a us e => ?_)
    · show upd H1 pA _ sA = _
      rw [upd_ne D1.ne]
      exact hb
    · obtain ⟨h1, h2⟩ := hid_some.mp e
      refine hid_some.mpr ⟨h1, ?_⟩
      show upd H1 pA _ a = some (.tup us)
      rw [upd_ne]
      · exact h2
      · intro z
        have ha' : H1 pA = _ := ha
        have h2' : H1 a = some (.tup us) := h2
        rw [z, ha'] at h2'
        cases h2'
  · refine IsD.lst (vs := vs ++ [.int (n : Int)]) (hid_some.mpr ⟨na1, upd_same⟩) ?_
    have e3 : vs ++ [.int (n : Int)] = ((d.prices ++ [n]).map fun n : Nat => (n : Int)).map V.int := by
      rw [hv, List.map_append, List.map_append]
      rfl
    rw [e3]
    exact nats_isds _
end
end SD

/-! ## PA8 -/
set_option Elab.async false
set_option linter.all false
set_option maxRecDepth 100000
set_option maxHeartbeats 2000000
namespace SC
def without {α : Type} (row : List α) (gone : List Nat) : List α := (((List.range row.length).zip row).filter fun p => !decide (p.1 ∈ gone)).map (·.2)
def rem (d : Dk) (gone : List Nat) : Dk := { d with sts := without d.sts gone, prices := without d.prices gone }
def priceOf (d : Dk) (row : List Nat) : Nat := (row.map fun i => d.prices.getD i 0).sum
def leastOf (ps : List Nat) : Nat := ps.min?.getD 0
def pickOf (d : Dk) (found : List (List Nat)) : Nat × List Nat := (leastOf (found.map (priceOf d)), found.getD ((found.map (priceOf d)).idxOf (leastOf (found.map (priceOf d)))) [])
def cheapestOf (d : Dk) : Nat × List Nat := pickOf d (cures (knownOf d []) d.sts.length)
inductive Res where
  | bad (z : Int)
  | ok (d : Dk) (r : List Nat)
def dBegins (d : Dk) : List Nat → Res
  | [k, n] => if (decide (k < 4) && decide (1 ≤ n ∧ n ≤ 4)) = true then .ok ⟨k, n, [], []⟩ [0] else .bad (-1)
  | _ => .ok d []
def dTold (d : Dk) : List Nat → Res
  | [w, i, j, m] => if (isSt d i j m && decide (1 ≤ w ∧ w ≤ 1000)) = true then (if decide (d.sts.length < 5) = true then .ok { d with sts := d.sts ++ [⟨i, j, m⟩], prices := d.prices ++ [w] } [d.sts.length] else .bad (-7)) else .bad (-1)
  | _ => .ok d []
def dDrop (d : Dk) : List Nat → Res
  | [i] => if decide (i < d.sts.length) = true then .ok (rem d [i]) [(rem d [i]).sts.length] else .bad (-2)
  | _ => .ok d []
def dClashes (d : Dk) (_ : List Nat) : Res := .ok d (listed (conflicts (knownOf d []) d.sts.length))
def dCures (d : Dk) (_ : List Nat) : Res := .ok d (listed (cures (knownOf d []) d.sts.length))
def dCheapest (d : Dk) (_ : List Nat) : Res := .ok d ([(cheapestOf d).1] ++ (cheapestOf d).2)
def dFollows (d : Dk) : List Nat → Res
  | [i, j, m] => if isSt d i j m = true then .ok d [if doesImply (knownOf d [⟨i, j, m⟩]) (2 ^ d.sts.length - 1) d.sts.length = true then 1 else 0] else .bad (-1)
  | _ => .ok d []
def dReasons (d : Dk) : List Nat → Res
  | [i, j, m] => if isSt d i j m = true then .ok d (listed (reasons (knownOf d [⟨i, j, m⟩]) d.sts.length)) else .bad (-1)
  | _ => .ok d []
def dMend (d : Dk) (_ : List Nat) : Res := .ok (rem d (cheapestOf d).2) ([(rem d (cheapestOf d).2).sts.length] ++ (cheapestOf d).2)
theorem without_map {α β : Type} (f : α → β) (row : List α) (gone : List Nat) : without (row.map f) gone = (without row gone).map f := by
  unfold without
  rw [List.length_map, List.zip_map_right, List.filter_map, List.map_map, List.map_map]
  rfl
theorem leastOf_is {ps : List Nat} (h : ps ≠ []) : leastOf ps ∈ ps ∧ ∀ y ∈ ps, leastOf ps ≤ y := by
  obtain ⟨m, hm, hl⟩ := least_of ps h
  have e : ps.min? = some m := List.min?_eq_some_iff.mpr ⟨hm, hl⟩
  have e2 : leastOf ps = m := by unfold leastOf; rw [e]; rfl
  rw [e2]
  exact ⟨hm, hl⟩
theorem idx_first : ∀ {l : List Nat} {m : Nat}, m ∈ l → l[l.idxOf m]? = some m ∧ ∀ k n, k < l.idxOf m → l[k]? = some n → n ≠ m
  | [], m, h => by cases h
  | a :: l, m, h => by
    by_cases e : a = m
    · subst e
      rw [List.idxOf_cons_self]
      exact ⟨rfl, fun k n hk => absurd hk (Nat.not_lt_zero _)⟩
    · have hm : m ∈ l := by
        rcases List.mem_cons.mp h with r | r
        · exact absurd r.symm e
        · exact r
      obtain ⟨h1, h2⟩ := idx_first hm
      have eb : (a == m) = false := by simpa using e
      rw [show List.idxOf m (a :: l) = List.idxOf m l + 1 by rw [List.idxOf_cons, eb]; rfl]
      refine ⟨by simpa using h1, fun k n hk hn => ?_⟩
      cases k with
      | zero =>
        simp at hn
        rw [← hn]
        exact e
      | succ k => exact h2 k n (by omega) (by simpa using hn)
theorem isSt_in {d : Dk} {i j m : Nat} (h : isSt d i j m = true) : i < d.many ∧ j < d.many ∧ i ≠ j ∧ m < 2 ^ relCount d.kind := by
  unfold isSt at h
  split at h
  · cases h
  · rename_i h2
    simp at h2
    have h3 := of_decide_eq_true h
    omega
end SC
namespace SD
open PySem PySem.Spec PyProof.Rows L2
section
variable {α β γ δ ε : Type} [Enc α] [Enc β] [Enc γ] [Enc δ] [Enc ε] {T : List (Addr × Str)} {W W' W0 W1 W2 : Wo} {σ σ2 : L2.St} {te ta tb tc tl : TE} {t u : TT} {tA : TA} {K : PySem.W.Frag} {Dn : Ends} {tu tw tz : TS} {C CE x sA pA q : Addr} {d : SC.Dk} {i : Nat} {E : XK}
theorem EvN.to {x : α} {y : β} (h : EvN T te σ W x) (e : Enc.enc x = Enc.enc y) : EvN T te σ W y := fun W1 a d Q q => h W1 a d Q fun v W2 n e2 i => q v W2 n e2 (show IsD _ _ (Enc.enc y) from e ▸ i)
theorem enc_listD (l : List α) : Enc.enc (l.map Enc.enc : List D) = Enc.enc l := by
  show D.lst _ = D.lst _
  rw [List.map_map]
  rfl
/-- what a call of the desk promises -/
def spDeed (T : List (Addr × Str)) (C CE : Addr) (Pre : List Nat → Prop) (f : SC.Dk → List Nat → SC.Res) : Sp := fun vs H Q E => LamX.Tabs T H ∧ ∃ S x sA pA d v ns, Wo.Dom ⟨S, H⟩ ∧ vs = [.ref x, v] ∧ Is ⟨S, H⟩ v (ns : List Nat) ∧ DkW C ⟨S, H⟩ x sA pA d ∧ SC.Good d ∧ Pre ns ∧
  (∀ z, f d ns = .bad z → Err T CE ⟨S, H⟩ z E) ∧ ∀ d' r, f d ns = .ok d' r → ∀ u H' sA' pA', Chg T x sA pA H H' → DkW C ⟨S, H'⟩ x sA' pA' d' → Is ⟨S, H'⟩ u (r : List Nat) → Q u H'
theorem spDeed_len {Pre : List Nat → Prop} {f : SC.Dk → List Nat → SC.Res} (vs : List V) (H : Hp) (Q : VK) (E : XK) (h : spDeed T C CE Pre f vs H Q E) : vs.length = 2 := by
  obtain ⟨_, S, x, sA, pA, d, v, ns, _, rfl, _⟩ := h
  rfl
theorem spDeed_go {Pre : List Nat → Prop} {f : SC.Dk → List Nat → SC.Res} {N : List Str} {t : TS} {Q : VK} (k : ∀ (W : Wo), LamX.Tabs T W.H → ∀ x sA pA d v ns, W.Dom → DkW C W x sA pA d → Is W v (ns : List Nat) → SC.Good d → Pre ns → (∀ z, f d ns = .bad z → Err T CE W z E) →
      (∀ d' r, f d ns = .ok d' r → ∀ u H' sA' pA', Chg T x sA pA W.H H' → DkW C ⟨W.S, H'⟩ x sA' pA' d' → Is ⟨W.S, H'⟩ u (r : List Nat) → Q u H') → t (EndsOf Q) (start N [.ref x, v]) W.H)
    {vs : List V} {H : Hp} (h : spDeed T C CE Pre f vs H Q E) : t (EndsOf Q) (start N vs) H := by
  obtain ⟨ht, S, x, sA, pA, d, v, ns, dm, rfl, i, D, g, hp, h1, h2⟩ := h
  exact k ⟨S, H⟩ ht x sA pA d v ns dm D i g hp h1 h2
theorem deed_read {f : SC.Dk → List Nat → SC.Res} {ns r : List Nat} {Q : VK} (D : DkW C W x sA pA d) (e : f d ns = .ok d r)
    (k : ∀ d' r, f d ns = .ok d' r → ∀ u H' sA' pA', Chg T x sA pA W.H H' → DkW C ⟨W.S, H'⟩ x sA' pA' d' → Is ⟨W.S, H'⟩ u (r : List Nat) → Q u H') : ∀ u W2, Step T W W2 → Is W2 u r → Q u W2.H := fun u W2 s i => by
  have D2 := D.step s
  have es := s.s
  have c := (Chg.refl (T := T) (x := x) (sA := sA) (pA := pA) W.H).ex s.ex
  obtain ⟨S2, H2⟩ := W2
  cases es
  exact k d r e u H2 sA pA c D2 i
/-- remove(desk, gone) -/
def spRem (T : List (Addr × Str)) (C : Addr) : Sp := fun vs H Q _ => ∃ S x sA pA d v gone, Wo.Dom ⟨S, H⟩ ∧ vs = [.ref x, v] ∧ Is ⟨S, H⟩ v (gone : List Nat) ∧ DkW C ⟨S, H⟩ x sA pA d ∧ SC.Good d ∧
  ∀ H' sA' pA', Chg T x sA pA H H' → Wo.Dom ⟨S, H'⟩ → (∀ {α : Type} [Enc α] {v : V} {y : α}, Is ⟨S, H⟩ v y → Is ⟨S, H'⟩ v y) → DkW C ⟨S, H'⟩ x sA' pA' (SC.rem d gone) → Q .non H'
theorem r_remove {j : Nat} {gone : List Nat} (dm : W.Dom) (D : DkW C W x sA pA d) (g : SC.Good d) (hi : σ[i]? = some (some (.ref x))) {v : V} (hj : σ[j]? = some (some v)) (iv : Is W v gone)
    (k : ∀ H' sA' pA', Chg T x sA pA W.H H' → Wo.Dom ⟨W.S, H'⟩ → (∀ {α : Type} [Enc α] {v : V} {y : α}, Is W v y → Is ⟨W.S, H'⟩ v y) → DkW C ⟨W.S, H'⟩ x sA' pA' (SC.rem d gone) → tz Dn σ H') : tSeq (tDrop (tCall (spRem T C) [] E (tCons (tVar i) (tCons (tVar j) tNil)))) tz Dn σ W.H :=
  ⟨_, hi, _, hj, W.S, x, sA, pA, d, v, gone, dm, rfl, iv, D, g, fun H' sA' pA' c dm' ki D' => k H' sA' pA' c dm' ki D'⟩
/-- asked_of(desk, numbers) -/
def spAsk (T : List (Addr × Str)) (C CE : Addr) : Sp := fun vs H Q E => LamX.Tabs T H ∧ ∃ S x sA pA d v a b c, Wo.Dom ⟨S, H⟩ ∧ vs = [.ref x, v] ∧ Is ⟨S, H⟩ v ([a, b, c] : List Nat) ∧ DkW C ⟨S, H⟩ x sA pA d ∧ d.kind < 4 ∧
  (SC.isSt d a b c = false → Err T CE ⟨S, H⟩ (-1) E) ∧ (SC.isSt d a b c = true → ∀ u W2, Step T ⟨S, H⟩ W2 → Is W2 u (⟨a, b, c⟩ : SC.Said) → Q u W2.H)
theorem ev_ask {a b c : Nat} (D : DkW C W x sA pA d) (hi : σ[i]? = some (some (.ref x))) (ha : Ev T ta σ W ([a, b, c] : List Nat)) (hk : d.kind < 4) (ht : LamX.Tabs T W.H) (hs : SC.isSt d a b c = true) : Ev T (tCall (spAsk T C CE) [] E (tCons (tVar i) (tCons ta tNil))) σ W (⟨a, b, c⟩ : SC.Said) := fun W1 e dm Q q =>
  ⟨_, hi, ha W1 e dm _ fun v W2 e2 i2 => ⟨e2.ex.tabs (e.tabs ht), W2.S, x, sA, pA, d, v, a, b, c, dm.step e2, rfl, i2, (D.mono e).step e2, hk, fun z => (Bool.noConfusion (hs.symm.trans z)), fun _ u W3 e3 i3 => q u W3 (e2.trans e3) i3⟩⟩
end
end SD
namespace PC
open PySem PySem.Spec PyProof.Rows L2 SD
section
variable {P : Program} {w : World} {K : PySem.W.Frag} {mg : Str → Option Value} {base : Heap} {T : List (Addr × Str)} {C CE fE cR : Addr}
abbrev sp_without (T : List (Addr × Str)) : Sp := spN2 T (fun (row : List D) (gone : List Nat) => row.length ≤ 1000) SC.without
abbrev s_without : Stmt := topS 48
theorem sc_without : FnScope ["row", "gone", "at", "part"] ["row", "gone"] (defScope s_without) := ⟨rfl, rfl, rfl, by decide +kernel, rfl, by decide +kernel, by decide +kernel⟩
theorem c_without (F : Fn K mg "without" s_without ["row", "gone"]) (X : Txt mg) : Cal P w K mg base L2.CX0 1 "without" (sp_without T) := by
  refine F.cal sc_without spN2_len fun f cdv A outer s H vs Q E hr h => ⟨_,
    (pss_one (ps_ret (pe_lc (own := [("at", 2), ("part", 3)]) (by rfl) sc_without.nd (pi_enum (by rfl) X.enumerate (pa_cons (pv 0) pa_nil)) (blkOk_by (own := [("at", 2), ("part", 3)]) (N := ["row", "gone", "at", "part"]) (sc := defScope s_without) (by decide +kernel)) (fun _ _ _ _ _ => SD.pg_tupK (K := K) (n := 2) (by rfl) (by rfl) (pgs_cons (pg_name (i := 2) sc_without.nd rfl (Or.inl rfl)) (pgs_cons (pg_name (i := 3) sc_without.nd rfl (Or.inl rfl)) pgs_nil))) (fun _ _ _ _ _ => pts_one (pt_cmpR (SD.op_notInK (K := K) rfl) (pv 2) (pv 1) (by rfl))) (fun _ _ _ _ _ => (pv 3))))),
    spN2_go (fun W v1 v2 a1 a2 dm j1 j2 hp Q k => ?_) h⟩
  exact rN_ret (T := T) dm (evN_lcE (fun p => !decide (p.1 ∈ a2)) (fun p => p.2) (ev_var rfl j1) (by omega) (fun _ _ => rfl) (fun i x hx v W1 e iv => et_notIn (ev_var rfl (nat_is rfl)) (ev_var rfl (j2.mono e))) fun i x hx _ v W1 e iv => ev_var rfl iv) k
theorem evN_sts {W : Wo} {σ : L2.St} {x sA pA : Addr} {d : SC.Dk} {gone : List Nat} {v : V} {E : XK} (DT : DeskTxt K C) (D : DkW C W x sA pA d) (g : d.sts.length ≤ 5) (hi : σ[0]? = some (some (.ref x))) (hj : σ[1]? = some (some v)) (iv : Is W v gone) :
    EvN T (tCall (sp_without T) [] E (tCons (tFld K (tVar 0) "statements") (tCons (tVar 1) tNil))) σ W (SC.without d.sts gone) :=
  (evN_call2 (a := d.sts.map Enc.enc) (ea_cons ((ev_sts DT D hi).to (enc_listD d.sts).symm) (ea_cons (ev_var hj iv) ea_nil)) (by rw [List.length_map]; omega)).to (by rw [SC.without_map, enc_listD])
theorem evN_prs {W : Wo} {σ : L2.St} {x sA pA : Addr} {d : SC.Dk} {gone : List Nat} {v : V} {E : XK} (DT : DeskTxt K C) (D : DkW C W x sA pA d) (g : d.prices.length ≤ 5) (hi : σ[0]? = some (some (.ref x))) (hj : σ[1]? = some (some v)) (iv : Is W v gone) :
    EvN T (tCall (sp_without T) [] E (tCons (tFld K (tVar 0) "prices") (tCons (tVar 1) tNil))) σ W (SC.without d.prices gone) :=
  (evN_call2 (a := d.prices.map Enc.enc) (ea_cons ((ev_prs DT D hi).to (enc_listD d.prices).symm) (ea_cons (ev_var hj iv) ea_nil)) (by rw [List.length_map]; omega)).to (by rw [SC.without_map, enc_listD])
abbrev s_remove : Stmt := topS 49
theorem sc_remove : FnScope ["desk", "gone"] ["desk", "gone"] (defScope s_remove) := ⟨rfl, rfl, rfl, by decide +kernel, rfl, by decide +kernel, by decide +kernel⟩
theorem c_remove (F : Fn K mg "remove" s_remove ["desk", "gone"]) (X : Txt mg) (DT : DeskTxt K C) (C_without : Cal P w K mg base L2.CX0 1 "without" (sp_without T)) : Cal P w K mg base L2.CX0 2 "remove" (spRem T C) := by
  refine F.cal sc_remove (fun vs H Q E h => ?_) fun f cdv A outer s H vs Q E hr h => ⟨_,
    (pss_cons (ps_fld (pv 0) (pe_c C_without hr (pa_cons (pe_fld (pv 0) rfl) (pa_cons (pv 1) pa_nil))) rfl)
      (pss_one (ps_fld (pv 0) (pe_c C_without hr (pa_cons (pe_fld (pv 0) rfl) (pa_cons (pv 1) pa_nil))) rfl))),
    ?_⟩
  · obtain ⟨S, x, sA, pA, d, v, gone, _, rfl, _⟩ := h
    rfl
  · obtain ⟨S, x, sA, pA, d, v, gone, dm, rfl, iv, D, g, k⟩ := h
    have h5 := g.len
    have h6 := g.lens
    refine r_setSts (W := ⟨S, H⟩) (T := T) DT D dm rfl (evN_sts DT D h5 rfl rfl iv) fun q H1 kp ki c1 dm1 D1 => ?_
    refine r_setPrs (W := ⟨S, H1⟩) (T := T) DT D1 dm1 rfl (evN_prs DT D1 (by show d.prices.length ≤ 5; omega) rfl rfl (ki iv)) fun q2 H2 kp2 ki2 c2 dm2 D2 => ?_
    exact k H2 q q2 (c1.then kp2 c2.tabs) dm2 (fun i => ki2 (ki i)) D2
abbrev sp_cheapest_of (T : List (Addr × Str)) (C : Addr) : Sp := spK1 T C SC.Good SC.cheapestOf
theorem known_ok {W : Wo} {σ : L2.St} {x sA pA : Addr} {d : SC.Dk} {E : XK} (D : DkW C W x sA pA d) (g : SC.Good d) (ht : LamX.Tabs T W.H) (hi : σ[0]? = some (some (.ref x))) : Ev T (tCall (sp_known_of T C) [] E (tCons (tVar 0) (tCons (tLst tNil) tNil))) σ W (SC.knownOf d []) :=
  ev_callK2 D hi (ev_lst (l := ([] : List SC.Said)) ea_nil (by simp)) ⟨g, by simp, fun s hs => by cases hs⟩ ht
theorem known_len {d : SC.Dk} (g : SC.Good d) (o : List SC.Said) (h : o.length ≤ 1) : (SC.knownOf d o).length ≤ 1000 := by
  have h1 := g.len
  exact Nat.le_trans (SC.masks_len (by rw [List.length_append]; omega)) (by decide)
theorem cures_ok {W : Wo} {σ : L2.St} {x sA pA : Addr} {d : SC.Dk} {E : XK} (DT : DeskTxt K C) (D : DkW C W x sA pA d) (g : SC.Good d) (ht : LamX.Tabs T W.H) (hi : σ[0]? = some (some (.ref x))) :
    Ev T (tCall (sp_cures T) [] E (tCons (tCall (sp_known_of T C) [] E (tCons (tVar 0) (tCons (tLst tNil) tNil))) (tCons (tCB (rLenQ K) (tCons (tFld K (tVar 0) "statements") tNil)) tNil))) σ W (SC.cures (SC.knownOf d []) d.sts.length) :=
  ev_call2t (ea_cons (known_ok D g ht hi) (ea_cons (ev_len (ev_sts DT D hi)) ea_nil)) ⟨known_len g [] (by simp), by have := g.len; omega⟩ ht
abbrev s_cheapest_of : Stmt := topS 53
theorem sc_cheapest_of : FnScope ["desk", "found", "prices", "least", "row", "number"] ["desk"] (defScope s_cheapest_of) := ⟨rfl, rfl, rfl, by decide +kernel, rfl, by decide +kernel, by decide +kernel⟩
def rowScope : Scope := { kind := .function, names := [(Str.ofString ".0", .local), (Str.ofString "row", .local), (Str.ofString "sum", .globalImplicit), (Str.ofString "desk", .cell)], isGenerator := false, isCoroutine := false }
theorem c_cheapest_of (F : Fn K mg "cheapest_of" s_cheapest_of ["desk"]) (X : Txt mg) (DT : DeskTxt K C) (C_cures : Cal P w K mg base L2.CX0 5 "cures" (sp_cures T)) (C_known_of : Cal P w K mg base L2.CX0 9 "known_of" (sp_known_of T C)) : Cal P w K mg base L2.CX0 10 "cheapest_of" (sp_cheapest_of T C) := by
  refine F.cal sc_cheapest_of spK1_len fun f cdv A outer s H vs Q E hr h => ⟨_,
    (pss_cons (ps_set (i := 1) sc_cheapest_of.nd rfl (Or.inl rfl) (pe_c C_cures hr (pa_cons (pe_c C_known_of hr (pa_cons (pv 0) (pa_cons (pe_lst pa_nil) pa_nil))) (pa_cons (pe_callB (call_len_seq) (by rfl) X.len (by decide +kernel) (pa_cons (pe_fld (pv 0) rfl) pa_nil)) pa_nil))))
      (pss_cons (ps_setLc (i := 2) (own := [("row", 4)]) rfl sc_cheapest_of.nd rfl rfl (sw_true rfl rfl rfl (by decide +kernel)) (pi_list (pv 1)) (blkOk_by (own := [("row", 4)]) (N := ["desk", "found", "prices", "least", "row", "number"]) (sc := defScope s_cheapest_of) (by decide +kernel)) (fun _ _ _ _ _ => pg_name (i := 4) sc_cheapest_of.nd rfl (Or.inl rfl)) (fun _ _ _ _ _ => pts_nil) (fun _ _ _ _ _ => (pe_callB (SD.cr_sumK (K := K) rfl rfl) (by rfl) X.sum (by decide +kernel) (pa_cons (pe_lc (own := [("number", 5)]) (by rfl) sc_cheapest_of.nd (SD.pi_listK (K := K) rfl (pv 4)) (blkOk_by (own := [("number", 5)]) (N := ["desk", "found", "prices", "least", "row", "number"]) (sc := rowScope) (by decide +kernel)) (fun _ _ _ _ _ => pg_name (i := 5) sc_cheapest_of.nd rfl (Or.inl rfl)) (fun _ _ _ _ _ => pts_nil) (fun _ _ _ _ _ => (pe_ix (SD.ix_listK (K := K) rfl) (SD.pe_fldK (K := K) rfl (pv 0) rfl) (pv 5) (fun _ _ => rfl)))) pa_nil))))
      (pss_cons (ps_set (i := 3) sc_cheapest_of.nd rfl (Or.inl rfl) (pe_callB (cr_min rfl) (by rfl) X.min (by decide +kernel) (pa_cons (pv 2) pa_nil)))
      (pss_one (ps_ret (pe_tup (pa_cons (pv 3) (pa_cons (pe_ix ix_list (pv 1) (pe_bm PySem.F.plainAttrs_list PySem.F.slot_list_index PySem.F.type_list_index mt_index (pv 2) (pa_cons (pv 3) pa_nil)) (fun _ _ => rfl)) pa_nil)))))))),
    spK1_go (fun W ht x sA pA d dm D g Q k => ?_) h⟩
  have h5 := g.len
  refine r_asg (T := T) dm (cures_ok DT D g ht rfl) fun u W1 s1 j1 => ?_
  have D1 := D.step s1
  have hcl := SC.cures_len (known := SC.knownOf d []) (many := d.sts.length) (by omega)
  refine r_asg (T := T) (dm.step s1) (ev_map (SC.priceOf d) (ev_var rfl j1) (by omega) (fun _ => rfl) fun row hrow v W2 e2 i2 => ev_sum (ev_map (fun i => d.prices.getD i 0) (ev_var rfl i2) (by have := (SC.cures_in hrow).1; omega) (fun _ => rfl) fun n hn v3 W3 e3 i3 => ev_ixL (ev_prs DT ((D1.mono e2).mono e3) rfl) (ev_var rfl i3) (getD_at (by have := (SC.cures_in hrow).2 n hn; have := g.lens; omega)))) fun u2 W2 s2 j2 => ?_
  have hne : (SC.cures (SC.knownOf d []) d.sts.length).map (SC.priceOf d) ≠ [] := by
    intro z
    exact SC.cures_ne (SC.masks_ne d.kind g.many _) _ (List.map_eq_nil_iff.mp z)
  obtain ⟨hm, hl⟩ := SC.leastOf_is hne
  have dm2 := (dm.step s1).step s2
  refine r_asg (T := T) dm2 (ev_min (ev_var rfl j2) hm hl) fun u3 W3 s3 j3 => ?_
  obtain ⟨hx, hno⟩ := SC.idx_first hm
  have hix : (SC.cures (SC.knownOf d []) d.sts.length)[((SC.cures (SC.knownOf d []) d.sts.length).map (SC.priceOf d)).idxOf (SC.leastOf ((SC.cures (SC.knownOf d []) d.sts.length).map (SC.priceOf d)))]? = some (SC.cheapestOf d).2 := by
    have hlt := (List.getElem?_eq_some_iff.mp hx).1
    rw [List.length_map] at hlt
    show _ = some (List.getD _ _ _)
    rw [List.getD_eq_getElem?_getD, List.getElem?_eq_getElem hlt]
    rfl
  have s12 := (s1.trans s2).trans s3
  refine r_ret (T := T) (dm2.step s3) (ev_tup2 (x := (SC.cheapestOf d).1) (y := (SC.cheapestOf d).2) (ea_cons (ev_var rfl j3) (ea_cons (ev_ixL (ev_var rfl ((j1.step s2).step s3)) (ev_index (ev_var rfl (j2.step s3)) (ev_var rfl j3) hx hno) hix) ea_nil))) fun u4 W4 s4 i4 => k u4 W4 (s12.trans s4) i4
abbrev s_asked_of : Stmt := topS 55
theorem sc_asked_of : FnScope ["desk", "numbers", "one", "other", "relations"] ["desk", "numbers"] (defScope s_asked_of) := ⟨rfl, rfl, rfl, by decide +kernel, rfl, by decide +kernel, by decide +kernel⟩
theorem c_asked_of (F : Fn K mg "asked_of" s_asked_of ["desk", "numbers"]) (X : Txt mg) (C_demand : CalX P w K mg base 3 "demand" (spDemand CE)) (C_is_statement : Cal P w K mg base L2.CX0 1 "is_statement" (sp_is_statement T C)) : CalX P w K mg base 4 "asked_of" (spAsk T C CE) := by
  refine F.calX sc_asked_of (fun vs H Q E h => ?_) fun f cdv A outer s H vs Q E hr h => ⟨_,
    (pss_cons (ps_asg (pv 1) (pg_lst (n := 3) (by rfl) (pgs_cons (pg_name (i := 2) sc_asked_of.nd rfl (Or.inl rfl)) (pgs_cons (pg_name (i := 3) sc_asked_of.nd rfl (Or.inl rfl)) (pgs_cons (pg_name (i := 4) sc_asked_of.nd rfl (Or.inl rfl)) pgs_nil)))))
      (pss_cons (ps_expr (pe_cx C_demand hr (L2.passes_call (takes_of rfl rfl rfl rfl) fun _ _ _ _ h => h) (pa_cons (pe_c C_is_statement hr (pa_cons (pv 0) (pa_cons (pv 2) (pa_cons (pv 3) (pa_cons (pv 4) pa_nil))))) (pa_cons (pe_un un_neg pe_int) pa_nil))))
      (pss_one (ps_ret (pe_tup (pa_cons (pv 2) (pa_cons (pv 3) (pa_cons (pv 4) pa_nil)))))))),
    ?_⟩
  · obtain ⟨_, S, x, sA, pA, d, v, a, b, c, _, rfl, _⟩ := h
    rfl
  · obtain ⟨ht, S, x, sA, pA, d, v, a, b, c, dm, rfl, iv, D, hk, h1, h2⟩ := h
    refine r_lst3 (W := ⟨S, H⟩) (T := T) dm (ev_var rfl iv) fun W1 s1 => ?_
    have D1 := D.step s1
    refine r_demand (T := T) (z := -1) (dm.step s1) (ev_callK4 D1 rfl (ev_var rfl (nat_is (n := a) rfl)) (ev_var rfl (nat_is (n := b) rfl)) (ev_var rfl (nat_is (n := c) rfl)) hk (s1.ex.tabs ht)) (fun W2 => (ev_neg 1 rfl).is rfl) (fun hb W2 s2 => ?_) fun hb => (h1 hb).step s1
    exact r_ret (T := T) ((dm.step s1).step s2) (Ev.to (ev_tup3 (ea_cons (ev_var rfl (nat_is (n := a) rfl)) (ea_cons (ev_var rfl (nat_is (n := b) rfl)) (ea_cons (ev_var rfl (nat_is (n := c) rfl)) ea_nil)))) (show SD.D.tup _ = _ from rfl)) fun u W3 s3 i3 => h2 hb u W3 ((s1.trans s2).trans s3) i3
end
end PC

/-! ## PA9 -/
set_option Elab.async false
set_option linter.all false
set_option maxRecDepth 100000
set_option maxHeartbeats 2000000
namespace PC
open PySem PySem.Spec PyProof.Rows L2 SD
section
variable {P : Program} {w : World} {K : PySem.W.Frag} {mg : Str → Option Value} {base : Heap} {T : List (Addr × Str)} {C CE fE cR : Addr}
abbrev deed (T : List (Addr × Str)) (C CE : Addr) (n : Nat) (f : SC.Dk → List Nat → SC.Res) : Sp := spDeed T C CE (fun ns => ns.length = n) f
theorem lst2 {l : List Nat} (h : l.length = 2) : ∃ a b, l = [a, b] := by
  match l, h with
  | [a, b], _ => exact ⟨a, b, rfl⟩
theorem lst3 {l : List Nat} (h : l.length = 3) : ∃ a b c, l = [a, b, c] := by
  match l, h with
  | [a, b, c], _ => exact ⟨a, b, c, rfl⟩
theorem lst4 {l : List Nat} (h : l.length = 4) : ∃ a b c e, l = [a, b, c, e] := by
  match l, h with
  | [a, b, c, e], _ => exact ⟨a, b, c, e, rfl⟩
theorem lst1 {l : List Nat} (h : l.length = 1) : ∃ a, l = [a] := by
  match l, h with
  | [a], _ => exact ⟨a, rfl⟩
abbrev s_begins : Stmt := topS 46
theorem sc_begins : FnScope ["desk", "numbers", "kind", "many"] ["desk", "numbers"] (defScope s_begins) := ⟨rfl, rfl, rfl, by decide +kernel, rfl, by decide +kernel, by decide +kernel⟩
theorem c_begins (F : Fn K mg "begins" s_begins ["desk", "numbers"]) (X : Txt mg) (DT : DeskTxt K C) (R : ConstT K mg "RELATIONS" cR relV) (C_demand : CalX P w K mg base 3 "demand" (spDemand CE)) : CalX P w K mg base 12 "begins" (deed T C CE 2 SC.dBegins) := by
  refine F.calX sc_begins spDeed_len fun f cdv A outer s H vs Q E hr h => ⟨_,
    (pss_cons (ps_asg (pv 1) (pg_lst (n := 2) (by rfl) (pgs_cons (pg_name (i := 2) sc_begins.nd rfl (Or.inl rfl)) (pgs_cons (pg_name (i := 3) sc_begins.nd rfl (Or.inl rfl)) pgs_nil))))
      (pss_cons (ps_expr (pe_cx C_demand hr (L2.passes_call (takes_of rfl rfl rfl rfl) fun _ _ _ _ h => h) (pa_cons (pe_and (pe_cmpR op_lt (pv 2) (pe_callB (call_len_seq) (by rfl) X.len (by decide +kernel) (pa_cons (pe_gc R.g) pa_nil)) (nomark _)) (pe_one (pe_chain op_le op_le pe_int (pv 3) (pe_gc X.mostO)))) (pa_cons (pe_un un_neg pe_int) pa_nil))))
      (pss_cons (ps_fld (pv 0) (pv 2) rfl)
      (pss_cons (ps_fld (pv 0) (pv 3) rfl)
      (pss_cons (ps_fld (pv 0) (pe_lst pa_nil) rfl)
      (pss_cons (ps_fld (pv 0) (pe_lst pa_nil) rfl)
      (pss_one (ps_ret (pe_lst (pa_cons pe_int pa_nil)))))))))),
    spDeed_go (fun W ht x sA pA d v ns dm D iv g hp hbad hok => ?_) h⟩
  obtain ⟨a, b, rfl⟩ := lst2 hp
  refine r_lst2 (T := T) dm (ev_var rfl iv) fun W1 s1 => ?_
  have D1 := D.step s1
  refine r_demand (T := T) (z := -1) (dm.step s1) (ev_andV (ev_lt (ev_var rfl (nat_is (n := a) rfl)) (ev_lenW R.sq rfl)) fun _ => ev_chain (ev_cn 1 rfl) (ev_var rfl (nat_is (n := b) rfl)) (ev_cn 4 rfl)) (fun W2 => (ev_neg 1 rfl).is rfl) (fun hb W2 s2 => ?_) fun hb => (hbad _ (if_neg (by rw [show (decide (a < 4) && decide (1 ≤ b ∧ b ≤ 4)) = false from hb]; decide))).step s1
  have hok' := hok ⟨a, b, [], []⟩ [0] (if_pos hb)
  have D2 := D1.step s2
  have dm2 := (dm.step s1).step s2
  have s12 := s1.trans s2
  have es := s12.s
  have c0 := (Chg.refl (T := T) (x := x) (sA := sA) (pA := pA) W.H).ex s12.ex
  clear s1 D1 s2
  obtain ⟨S2, H2⟩ := W2
  cases es
  refine r_setKind (W := ⟨W.S, H2⟩) (T := T) DT D2 dm2 rfl (ev_var rfl (nat_is (n := a) rfl)) fun H3 c3 dm3 D3 => ?_
  refine r_setMany (W := ⟨W.S, H3⟩) (T := T) DT D3 dm3 rfl (ev_var rfl (nat_is (n := b) rfl)) fun H4 c4 dm4 D4 => ?_
  refine r_setSts (W := ⟨W.S, H4⟩) (T := T) (l := []) DT D4 dm4 rfl evN_nil fun q H5 kp5 ki5 c5 dm5 D5 => ?_
  refine r_setPrs (W := ⟨W.S, H5⟩) (T := T) (l := []) DT D5 dm5 rfl evN_nil fun q2 H6 kp6 ki6 c6 dm6 D6 => ?_
  have cc : Chg T x sA pA W.H H6 := (((c0.trans2 c3).trans2 c4).then kp5 c5.tabs).then kp6 c6.tabs
  refine r_ret (W := ⟨W.S, H6⟩) (T := T) (σ := [some (V.ref x), some v, some (V.int (a : Int)), some (V.int (b : Int))]) dm6 (ev_lst (l := [0]) (ea_cons (ev_cn 0 rfl) ea_nil) (by simp)) fun u W7 s7 i7 => ?_
  have D7 := D6.step s7
  have es := s7.s
  have c7 := cc.ex s7.ex
  obtain ⟨S7, H7⟩ := W7
  cases es
  exact hok' u H7 q q2 c7 D7 i7
abbrev s_told : Stmt := topS 47
theorem sc_told : FnScope ["desk", "numbers", "price", "one", "other", "relations"] ["desk", "numbers"] (defScope s_told) := ⟨rfl, rfl, rfl, by decide +kernel, rfl, by decide +kernel, by decide +kernel⟩
theorem c_told (F : Fn K mg "told" s_told ["desk", "numbers"]) (X : Txt mg) (DT : DeskTxt K C) (C_demand : CalX P w K mg base 3 "demand" (spDemand CE)) (C_is_statement : Cal P w K mg base L2.CX0 1 "is_statement" (sp_is_statement T C)) : CalX P w K mg base 12 "told" (deed T C CE 4 SC.dTold) := by
  refine F.calX sc_told spDeed_len fun f cdv A outer s H vs Q E hr h => ⟨_,
    (pss_cons (ps_asg (pv 1) (pg_lst (n := 4) (by rfl) (pgs_cons (pg_name (i := 2) sc_told.nd rfl (Or.inl rfl)) (pgs_cons (pg_name (i := 3) sc_told.nd rfl (Or.inl rfl)) (pgs_cons (pg_name (i := 4) sc_told.nd rfl (Or.inl rfl)) (pgs_cons (pg_name (i := 5) sc_told.nd rfl (Or.inl rfl)) pgs_nil))))))
      (pss_cons (ps_expr (pe_cx C_demand hr (L2.passes_call (takes_of rfl rfl rfl rfl) fun _ _ _ _ h => h) (pa_cons (pe_and (pe_c C_is_statement hr (pa_cons (pv 0) (pa_cons (pv 3) (pa_cons (pv 4) (pa_cons (pv 5) pa_nil))))) (pe_one (pe_chain op_le op_le pe_int (pv 2) (pe_gc X.mostP)))) (pa_cons (pe_un un_neg pe_int) pa_nil))))
      (pss_cons (ps_expr (pe_cx C_demand hr (L2.passes_call (takes_of rfl rfl rfl rfl) fun _ _ _ _ h => h) (pa_cons (pe_cmpR op_lt (pe_callB (call_len_seq) (by rfl) X.len (by decide +kernel) (pa_cons (pe_fld (pv 0) rfl) pa_nil)) (pe_gc X.mostS) (nomark _)) (pa_cons (pe_un un_neg pe_int) pa_nil))))
      (pss_cons (ps_expr (pe_bm PySem.F.plainAttrs_list PySem.F.slot_list_append PySem.F.type_list_append mt_append (pe_fld (pv 0) rfl) (pa_cons (pe_tup (pa_cons (pv 3) (pa_cons (pv 4) (pa_cons (pv 5) pa_nil)))) pa_nil)))
      (pss_cons (ps_expr (pe_bm PySem.F.plainAttrs_list PySem.F.slot_list_append PySem.F.type_list_append mt_append (pe_fld (pv 0) rfl) (pa_cons (pv 2) pa_nil)))
      (pss_one (ps_ret (pe_lst (pa_cons (pe_op op_sub (pe_callB (call_len_seq) (by rfl) X.len (by decide +kernel) (pa_cons (pe_fld (pv 0) rfl) pa_nil)) pe_int) pa_nil))))))))),
    spDeed_go (fun W ht x sA pA d v ns dm D iv g hp hbad hok => ?_) h⟩
  obtain ⟨pw, a, b, c, rfl⟩ := lst4 hp
  have h5 := g.len
  have h6 := g.lens
  refine r_lst4 (T := T) dm (ev_var rfl iv) fun W1 s1 => ?_
  have D1 := D.step s1
  refine r_demand (T := T) (z := -1) (dm.step s1) (ev_andV (ev_callK4 D1 rfl (ev_var rfl (nat_is (n := a) rfl)) (ev_var rfl (nat_is (n := b) rfl)) (ev_var rfl (nat_is (n := c) rfl)) g.kind (s1.ex.tabs ht)) fun _ => ev_chain (ev_cn 1 rfl) (ev_var rfl (nat_is (n := pw) rfl)) (ev_cn 1000 rfl)) (fun W2 => (ev_neg 1 rfl).is rfl) (fun hb W2 s2 => ?_) fun hb => (hbad _ (if_neg (by rw [show (SC.isSt d a b c && decide (1 ≤ pw ∧ pw ≤ 1000)) = false from hb]; decide))).step s1
  have s12 := s1.trans s2
  have D2 := D1.step s2
  have dm2 := (dm.step s1).step s2
  refine r_demand (T := T) (z := -7) dm2 (ev_lt (ev_len (ev_sts DT D2 rfl)) (ev_cn 5 rfl)) (fun W2 => (ev_neg 7 rfl).is rfl) (fun hb2 W3 s3 => ?_) fun hb2 => (hbad _ ((if_pos hb).trans (if_neg (by rw [show decide (d.sts.length < 5) = false from hb2]; decide)))).step s12
  have hok' := hok _ _ ((if_pos hb).trans (if_pos hb2))
  have s13 := s12.trans s3
  have D3 := D2.step s3
  have dm3 := dm2.step s3
  have es := s13.s
  have c0 := (Chg.refl (T := T) (x := x) (sA := sA) (pA := pA) W.H).ex s13.ex
  clear s1 D1 s2 s12 D2 s3
  obtain ⟨S3, H3⟩ := W3
  cases es
  refine r_appSts (W := ⟨W.S, H3⟩) (T := T) (s := ⟨a, b, c⟩) DT D3 dm3 rfl (Ev.to (ev_tup3 (ea_cons (ev_var rfl (nat_is (n := a) rfl)) (ea_cons (ev_var rfl (nat_is (n := b) rfl)) (ea_cons (ev_var rfl (nat_is (n := c) rfl)) ea_nil)))) (show SD.D.tup _ = _ from rfl)) (by omega) fun H4 c4 dm4 D4 => ?_
  refine r_appPrs (W := ⟨W.S, H4⟩) (T := T) (n := pw) DT D4 dm4 rfl (ev_var rfl (nat_is (n := pw) rfl)) (by show d.prices.length ≤ 1000; omega) fun H5 c5 dm5 D5 => ?_
  have cc : Chg T x sA pA W.H H5 := (c0.trans2 c4).trans2 c5
  refine r_ret (W := ⟨W.S, H5⟩) (T := T) dm5 (ev_lst (l := [(d.sts ++ [(⟨a, b, c⟩ : SC.Said)]).length - 1]) (ea_cons (ev_sub (ev_len (ev_sts DT D5 rfl)) (ev_cn 1 rfl) (by rw [List.length_append]; simp)) ea_nil) (by simp)) fun u W7 s7 i7 => ?_
  have D7 := D5.step s7
  have es := s7.s
  have c7 := cc.ex s7.ex
  rw [List.length_append, List.length_singleton, Nat.add_sub_cancel] at i7
  obtain ⟨S7, H7⟩ := W7
  cases es
  exact hok' u H7 sA pA c7 D7 i7
abbrev s_drop : Stmt := topS 50
theorem sc_drop : FnScope ["desk", "numbers"] ["desk", "numbers"] (defScope s_drop) := ⟨rfl, rfl, rfl, by decide +kernel, rfl, by decide +kernel, by decide +kernel⟩
theorem c_drop (F : Fn K mg "drop" s_drop ["desk", "numbers"]) (X : Txt mg) (DT : DeskTxt K C) (C_demand : CalX P w K mg base 3 "demand" (spDemand CE)) (C_remove : Cal P w K mg base L2.CX0 2 "remove" (spRem T C)) : CalX P w K mg base 12 "drop" (deed T C CE 1 SC.dDrop) := by
  refine F.calX sc_drop spDeed_len fun f cdv A outer s H vs Q E hr h => ⟨_,
    (pss_cons (ps_expr (pe_cx C_demand hr (L2.passes_call (takes_of rfl rfl rfl rfl) fun _ _ _ _ h => h) (pa_cons (pe_cmpR op_lt (pe_ix ix_list (pv 1) pe_int (fun _ _ => rfl)) (pe_callB (call_len_seq) (by rfl) X.len (by decide +kernel) (pa_cons (pe_fld (pv 0) rfl) pa_nil)) (nomark _)) (pa_cons (pe_un un_neg pe_int) pa_nil))))
      (pss_cons (ps_expr (pe_c C_remove hr (pa_cons (pv 0) (pa_cons (pv 1) pa_nil))))
      (pss_one (ps_ret (pe_lst (pa_cons (pe_callB (call_len_seq) (by rfl) X.len (by decide +kernel) (pa_cons (pe_fld (pv 0) rfl) pa_nil)) pa_nil)))))),
    spDeed_go (fun W ht x sA pA d v ns dm D iv g hp hbad hok => ?_) h⟩
  obtain ⟨a, rfl⟩ := lst1 hp
  refine r_demand (T := T) (z := -2) dm (ev_lt (ev_ixL (i := 0) (x := a) (ev_var rfl iv) (ev_cn 0 rfl) rfl) (ev_len (ev_sts DT D rfl))) (fun W2 => (ev_neg 2 rfl).is rfl) (fun hb W1 s1 => ?_) fun hb => hbad _ (if_neg (by rw [show decide (a < d.sts.length) = false from hb]; decide))
  have hok' := hok _ _ (if_pos hb)
  have D1 := D.step s1
  have dm1 := dm.step s1
  have i1 := iv.step s1
  have es := s1.s
  have c0 := (Chg.refl (T := T) (x := x) (sA := sA) (pA := pA) W.H).ex s1.ex
  clear s1
  obtain ⟨S1, H1⟩ := W1
  cases es
  refine r_remove (W := ⟨W.S, H1⟩) (T := T) dm1 D1 g rfl rfl i1 fun H2 sA' pA' c2 dm2 ki2 D2 => ?_
  have cc : Chg T x sA pA W.H H2 := c0.trans2 c2
  refine r_ret (W := ⟨W.S, H2⟩) (T := T) dm2 (ev_lst (l := [(SC.rem d [a]).sts.length]) (ea_cons (ev_len (ev_sts DT D2 rfl)) ea_nil) (by simp)) fun u W7 s7 i7 => ?_
  have D7 := D2.step s7
  have es := s7.s
  have c7 := cc.ex s7.ex
  obtain ⟨S7, H7⟩ := W7
  cases es
  exact hok' u H7 sA' pA' c7 D7 i7
abbrev s_clashes : Stmt := topS 51
theorem sc_clashes : FnScope ["desk", "numbers"] ["desk", "numbers"] (defScope s_clashes) := ⟨rfl, rfl, rfl, by decide +kernel, rfl, by decide +kernel, by decide +kernel⟩
theorem c_clashes (F : Fn K mg "clashes" s_clashes ["desk", "numbers"]) (X : Txt mg) (DT : DeskTxt K C) (C_known_of : Cal P w K mg base L2.CX0 9 "known_of" (sp_known_of T C)) (C_conflicts : Cal P w K mg base L2.CX0 5 "conflicts" (sp_conflicts T)) (C_listed : Cal P w K mg base L2.CX0 1 "listed" (sp_listed T)) : CalX P w K mg base 12 "clashes" (deed T C CE 0 SC.dClashes) := by
  refine F.calX sc_clashes spDeed_len fun f cdv A outer s H vs Q E hr h => ⟨_,
    (pss_one (ps_ret (pe_c C_listed hr (pa_cons (pe_c C_conflicts hr (pa_cons (pe_c C_known_of hr (pa_cons (pv 0) (pa_cons (pe_lst pa_nil) pa_nil))) (pa_cons (pe_callB (call_len_seq) (by rfl) X.len (by decide +kernel) (pa_cons (pe_fld (pv 0) rfl) pa_nil)) pa_nil))) pa_nil)))),
    spDeed_go (fun W ht x sA pA d v ns dm D iv g hp hbad hok => ?_) h⟩
  have h5 := g.len
  exact r_ret (T := T) dm (ev_call1 (ea_cons (ev_call2t (ea_cons (known_ok D g ht rfl) (ea_cons (ev_len (ev_sts DT D rfl)) ea_nil)) ⟨known_len g [] (by simp), by omega⟩ ht) ea_nil) ⟨SC.conflicts_len (by omega), fun r hr => by have := SC.conflicts_in hr; omega⟩) (deed_read D rfl hok)
abbrev s_all_cures : Stmt := topS 52
theorem sc_all_cures : FnScope ["desk", "numbers"] ["desk", "numbers"] (defScope s_all_cures) := ⟨rfl, rfl, rfl, by decide +kernel, rfl, by decide +kernel, by decide +kernel⟩
theorem c_all_cures (F : Fn K mg "all_cures" s_all_cures ["desk", "numbers"]) (X : Txt mg) (DT : DeskTxt K C) (C_known_of : Cal P w K mg base L2.CX0 9 "known_of" (sp_known_of T C)) (C_cures : Cal P w K mg base L2.CX0 5 "cures" (sp_cures T)) (C_listed : Cal P w K mg base L2.CX0 1 "listed" (sp_listed T)) : CalX P w K mg base 12 "all_cures" (deed T C CE 0 SC.dCures) := by
  refine F.calX sc_all_cures spDeed_len fun f cdv A outer s H vs Q E hr h => ⟨_,
    (pss_one (ps_ret (pe_c C_listed hr (pa_cons (pe_c C_cures hr (pa_cons (pe_c C_known_of hr (pa_cons (pv 0) (pa_cons (pe_lst pa_nil) pa_nil))) (pa_cons (pe_callB (call_len_seq) (by rfl) X.len (by decide +kernel) (pa_cons (pe_fld (pv 0) rfl) pa_nil)) pa_nil))) pa_nil)))),
    spDeed_go (fun W ht x sA pA d v ns dm D iv g hp hbad hok => ?_) h⟩
  have h5 := g.len
  exact r_ret (T := T) dm (ev_call1 (ea_cons (cures_ok DT D g ht rfl) ea_nil) ⟨SC.cures_len (by omega), fun r hr => by have := (SC.cures_in hr).1; omega⟩) (deed_read D rfl hok)
theorem pick_len {d : SC.Dk} (g : SC.Good d) : (SC.cheapestOf d).2.length ≤ 5 := by
  have h5 := g.len
  show (List.getD (α := List Nat) _ _ _).length ≤ 5
  rw [List.getD_eq_getElem?_getD]
  cases e : (SC.cures (SC.knownOf d []) d.sts.length)[((SC.cures (SC.knownOf d []) d.sts.length).map (SC.priceOf d)).idxOf (SC.leastOf ((SC.cures (SC.knownOf d []) d.sts.length).map (SC.priceOf d)))]? with
  | none => simp
  | some r =>
    have := (SC.cures_in (List.mem_of_getElem? e)).1
    show r.length ≤ 5
    omega
abbrev s_cheapest : Stmt := topS 54
theorem sc_cheapest : FnScope ["desk", "numbers", "price", "row"] ["desk", "numbers"] (defScope s_cheapest) := ⟨rfl, rfl, rfl, by decide +kernel, rfl, by decide +kernel, by decide +kernel⟩
theorem c_cheapest (F : Fn K mg "cheapest" s_cheapest ["desk", "numbers"]) (X : Txt mg) (DT : DeskTxt K C) (C_cheapest_of : Cal P w K mg base L2.CX0 10 "cheapest_of" (sp_cheapest_of T C)) : CalX P w K mg base 12 "cheapest" (deed T C CE 0 SC.dCheapest) := by
  refine F.calX sc_cheapest spDeed_len fun f cdv A outer s H vs Q E hr h => ⟨_,
    (pss_cons (ps_asg (pe_c C_cheapest_of hr (pa_cons (pv 0) pa_nil)) (SD.pg_tupK (K := K) (n := 2) (by rfl) (by rfl) (pgs_cons (pg_name (i := 2) sc_cheapest.nd rfl (Or.inl rfl)) (pgs_cons (pg_name (i := 3) sc_cheapest.nd rfl (Or.inl rfl)) pgs_nil))))
      (pss_one (ps_ret (pe_op op_cat (pe_lst (pa_cons (pv 2) pa_nil)) (pv 3))))),
    spDeed_go (fun W ht x sA pA d v ns dm D iv g hp hbad hok => ?_) h⟩
  have hl := pick_len g
  refine r_tup2 (T := T) (x := (SC.cheapestOf d).1) (y := (SC.cheapestOf d).2) dm (ev_callK1 D rfl g ht) fun v1 v2 W1 s1 j1 j2 => ?_
  exact r_ret (T := T) (dm.step s1) (ev_cat (ev_lst (l := [(SC.cheapestOf d).1]) (ea_cons (ev_var rfl j1) ea_nil) (by simp)) (ev_var rfl j2) (by rw [List.length_singleton]; omega)) fun u W2 s2 i2 => deed_read D rfl hok u W2 (s1.trans s2) i2
theorem ask_good {d : SC.Dk} {a b c : Nat} (h : SC.isSt d a b c = true) : ∀ s ∈ [(⟨a, b, c⟩ : SC.Said)], s.one < d.many ∧ s.other < d.many := fun s hs => by
  rcases List.mem_cons.mp hs with rfl | hs
  · exact ⟨(SC.isSt_in h).1, (SC.isSt_in h).2.1⟩
  · cases hs
theorem known_ask {W : Wo} {σ : L2.St} {x sA pA : Addr} {d : SC.Dk} {E : XK} {v : V} {a b c : Nat} (D : DkW C W x sA pA d) (g : SC.Good d) (ht : LamX.Tabs T W.H) (hi : σ[0]? = some (some (.ref x))) (hj : σ[1]? = some (some v)) (iv : Is W v ([a, b, c] : List Nat)) (hs : SC.isSt d a b c = true) :
    Ev T (tCall (sp_known_of T C) [] E0 (tCons (tVar 0) (tCons (tLst (tCons (tCall (spAsk T C CE) [] E (tCons (tVar 0) (tCons (tVar 1) tNil))) tNil)) tNil))) σ W (SC.knownOf d [⟨a, b, c⟩]) :=
  ev_callK2 D hi (ev_lst (l := [(⟨a, b, c⟩ : SC.Said)]) (ea_cons (ev_ask D hi (ev_var hj iv) g.kind ht hs) ea_nil) (by simp)) ⟨g, by simp, ask_good hs⟩ ht
abbrev s_follows : Stmt := topS 56
theorem sc_follows : FnScope ["desk", "numbers", "known", "many"] ["desk", "numbers"] (defScope s_follows) := ⟨rfl, rfl, rfl, by decide +kernel, rfl, by decide +kernel, by decide +kernel⟩
theorem c_follows (F : Fn K mg "follows" s_follows ["desk", "numbers"]) (X : Txt mg) (DT : DeskTxt K C) (C_known_of : Cal P w K mg base L2.CX0 9 "known_of" (sp_known_of T C)) (C_asked_of : CalX P w K mg base 4 "asked_of" (spAsk T C CE)) (C_does_imply : Cal P w K mg base L2.CX0 2 "does_imply" (sp_does_imply T)) : CalX P w K mg base 12 "follows" (deed T C CE 3 SC.dFollows) := by
  refine F.calX sc_follows spDeed_len fun f cdv A outer s H vs Q E hr h => ⟨_,
    (pss_cons (ps_par (i := 2) (j := 3) (by rfl) sc_follows.nd rfl rfl (by decide) rfl rfl (pa_cons (pe_c C_known_of hr (pa_cons (pv 0) (pa_cons (pe_lst (pa_cons (pe_cx C_asked_of hr (L2.passes_call (takes_of rfl rfl rfl rfl) fun _ _ _ _ h => h) (pa_cons (pv 0) (pa_cons (pv 1) pa_nil))) pa_nil)) pa_nil))) (pa_cons (pe_callB (call_len_seq) (by rfl) X.len (by decide +kernel) (pa_cons (pe_fld (pv 0) rfl) pa_nil)) pa_nil)) (by rfl))
      (pss_one (ps_ret (pe_lst (pa_cons (pe_ifExp (pt_val (pe_c C_does_imply hr (pa_cons (pv 2) (pa_cons (pe_op op_sub (pe_op op_shl pe_int (pv 3)) pe_int) (pa_cons (pv 3) pa_nil))))) pe_int pe_int) pa_nil))))),
    spDeed_go (fun W ht x sA pA d v ns dm D iv g hp hbad hok => ?_) h⟩
  obtain ⟨a, b, c, rfl⟩ := lst3 hp
  have h5 := g.len
  by_cases hs : SC.isSt d a b c = true
  · have hk := known_len g [⟨a, b, c⟩] (by simp)
    refine r_par (T := T) dm (ea_cons (known_ask D g ht rfl rfl iv hs) (ea_cons (ev_len (ev_sts DT D rfl)) ea_nil)) fun u v2 W1 s1 j1 j2 => ?_
    have hpos : 0 < 2 ^ d.sts.length := Nat.pow_pos (by decide)
    refine r_ret (T := T) (dm.step s1) (ev_lst (l := [if SC.doesImply (SC.knownOf d [⟨a, b, c⟩]) (2 ^ d.sts.length - 1) d.sts.length = true then 1 else 0]) (ea_cons (ev_if (et_B (ev_call3 (ea_cons (ev_var rfl j1) (ea_cons (ev_sub ((ev_shl (ev_cn 1 rfl) (ev_var rfl j2) ⟨by omega, by decide⟩).is (Nat.one_mul _)) (ev_cn 1 rfl) hpos) (ea_cons (ev_var rfl j2) ea_nil))) hk)) (fun _ => ev_cn 1 rfl) fun _ => ev_cn 0 rfl) ea_nil) (by simp)) fun u W2 s2 i2 => deed_read D (if_pos hs) hok u W2 (s1.trans s2) i2
  · have hs' : SC.isSt d a b c = false := by simpa using hs
    exact ⟨_, rfl, _, rfl, _, rfl, ht, W.S, x, sA, pA, d, v, a, b, c, dm, rfl, iv, D, g.kind, fun _ => hbad _ (if_neg hs), fun z => absurd z hs⟩
abbrev s_all_reasons : Stmt := topS 57
theorem sc_all_reasons : FnScope ["desk", "numbers", "known"] ["desk", "numbers"] (defScope s_all_reasons) := ⟨rfl, rfl, rfl, by decide +kernel, rfl, by decide +kernel, by decide +kernel⟩
theorem c_all_reasons (F : Fn K mg "all_reasons" s_all_reasons ["desk", "numbers"]) (X : Txt mg) (DT : DeskTxt K C) (C_known_of : Cal P w K mg base L2.CX0 9 "known_of" (sp_known_of T C)) (C_asked_of : CalX P w K mg base 4 "asked_of" (spAsk T C CE)) (C_reasons : Cal P w K mg base L2.CX0 5 "reasons" (sp_reasons T)) (C_listed : Cal P w K mg base L2.CX0 1 "listed" (sp_listed T)) : CalX P w K mg base 12 "all_reasons" (deed T C CE 3 SC.dReasons) := by
  refine F.calX sc_all_reasons spDeed_len fun f cdv A outer s H vs Q E hr h => ⟨_,
    (pss_cons (ps_set (i := 2) sc_all_reasons.nd rfl (Or.inl rfl) (pe_c C_known_of hr (pa_cons (pv 0) (pa_cons (pe_lst (pa_cons (pe_cx C_asked_of hr (L2.passes_call (takes_of rfl rfl rfl rfl) fun _ _ _ _ h => h) (pa_cons (pv 0) (pa_cons (pv 1) pa_nil))) pa_nil)) pa_nil))))
      (pss_one (ps_ret (pe_c C_listed hr (pa_cons (pe_c C_reasons hr (pa_cons (pv 2) (pa_cons (pe_callB (call_len_seq) (by rfl) X.len (by decide +kernel) (pa_cons (pe_fld (pv 0) rfl) pa_nil)) pa_nil))) pa_nil))))),
    spDeed_go (fun W ht x sA pA d v ns dm D iv g hp hbad hok => ?_) h⟩
  obtain ⟨a, b, c, rfl⟩ := lst3 hp
  have h5 := g.len
  by_cases hs : SC.isSt d a b c = true
  · have hk := known_len g [⟨a, b, c⟩] (by simp)
    refine r_asg (T := T) dm (known_ask D g ht rfl rfl iv hs) fun u W1 s1 j1 => ?_
    have D1 := D.step s1
    exact r_ret (T := T) (dm.step s1) (ev_call1 (ea_cons (ev_call2t (ea_cons (ev_var rfl j1) (ea_cons (ev_len (ev_sts DT D1 rfl)) ea_nil)) ⟨hk, by omega⟩ (s1.ex.tabs ht)) ea_nil) ⟨SC.reasons_len (by omega), fun r hr => by have := SC.reasons_in hr; omega⟩) fun u W2 s2 i2 => deed_read D (if_pos hs) hok u W2 (s1.trans s2) i2
  · have hs' : SC.isSt d a b c = false := by simpa using hs
    exact ⟨_, rfl, _, rfl, _, rfl, ht, W.S, x, sA, pA, d, v, a, b, c, dm, rfl, iv, D, g.kind, fun _ => hbad _ (if_neg hs), fun z => absurd z hs⟩
abbrev s_mend : Stmt := topS 58
theorem sc_mend : FnScope ["desk", "numbers", "price", "row"] ["desk", "numbers"] (defScope s_mend) := ⟨rfl, rfl, rfl, by decide +kernel, rfl, by decide +kernel, by decide +kernel⟩
theorem c_mend (F : Fn K mg "mend" s_mend ["desk", "numbers"]) (X : Txt mg) (DT : DeskTxt K C) (C_cheapest_of : Cal P w K mg base L2.CX0 10 "cheapest_of" (sp_cheapest_of T C)) (C_remove : Cal P w K mg base L2.CX0 2 "remove" (spRem T C)) : CalX P w K mg base 12 "mend" (deed T C CE 0 SC.dMend) := by
  refine F.calX sc_mend spDeed_len fun f cdv A outer s H vs Q E hr h => ⟨_,
    (pss_cons (ps_asg (pe_c C_cheapest_of hr (pa_cons (pv 0) pa_nil)) (SD.pg_tupK (K := K) (n := 2) (by rfl) (by rfl) (pgs_cons (pg_name (i := 2) sc_mend.nd rfl (Or.inl rfl)) (pgs_cons (pg_name (i := 3) sc_mend.nd rfl (Or.inl rfl)) pgs_nil))))
      (pss_cons (ps_expr (pe_c C_remove hr (pa_cons (pv 0) (pa_cons (pv 3) pa_nil))))
      (pss_one (ps_ret (pe_op op_cat (pe_lst (pa_cons (pe_callB (call_len_seq) (by rfl) X.len (by decide +kernel) (pa_cons (pe_fld (pv 0) rfl) pa_nil)) pa_nil)) (pv 3)))))),
    spDeed_go (fun W ht x sA pA d v ns dm D iv g hp hbad hok => ?_) h⟩
  have hl := pick_len g
  have hok' := hok _ _ rfl
  refine r_tup2 (T := T) (x := (SC.cheapestOf d).1) (y := (SC.cheapestOf d).2) dm (ev_callK1 D rfl g ht) fun v1 v2 W1 s1 j1 j2 => ?_
  have D1 := D.step s1
  have dm1 := dm.step s1
  have es := s1.s
  have c0 := (Chg.refl (T := T) (x := x) (sA := sA) (pA := pA) W.H).ex s1.ex
  clear s1
  obtain ⟨S1, H1⟩ := W1
  cases es
  refine r_remove (W := ⟨W.S, H1⟩) (T := T) dm1 D1 g rfl rfl j2 fun H2 sA' pA' c2 dm2 ki2 D2 => ?_
  have cc : Chg T x sA pA W.H H2 := c0.trans2 c2
  refine r_ret (W := ⟨W.S, H2⟩) (T := T) dm2 (ev_cat (ev_lst (l := [(SC.rem d (SC.cheapestOf d).2).sts.length]) (ea_cons (ev_len (ev_sts DT D2 rfl)) ea_nil) (by simp)) (ev_var rfl (ki2 j2)) (by rw [List.length_singleton]; omega)) fun u W7 s7 i7 => ?_
  have D7 := D2.step s7
  have es := s7.s
  have c7 := cc.ex s7.ex
  obtain ⟨S7, H7⟩ := W7
  cases es
  exact hok' u H7 sA' pA' c7 D7 i7
end
end PC

/-! ## PB1 -/
set_option Elab.async false
set_option linter.all false
set_option maxRecDepth 100000
set_option maxHeartbeats 2000000
namespace SC
def numCount (c : Nat) : Nat := [2, 4, 1, 0, 0, 0, 3, 3, 0].getD c 0
def deedF : Nat → Dk → List Nat → Res
  | 0 => dBegins
  | 1 => dTold
  | 2 => dDrop
  | 3 => dClashes
  | 4 => dCures
  | 5 => dCheapest
  | 6 => dFollows
  | 7 => dReasons
  | _ => dMend
def castI (l : List Nat) : List Int := l.map fun n : Nat => (n : Int)
def step9 (d : Dk) (c : Nat) (ns : List Nat) : Dk × List Int := match deedF c d ns with
  | .bad z => (d, [z])
  | .ok d' r => (d', castI r)
end SC
namespace L2
open PySem PySem.Spec PyProof.Rows
structure HeldX (P : Program) (w : World) (K : PySem.W.Frag) (mg : Str → Option Value) (base : Heap) (k : Nat) (f : Addr) (sp : Sp) : Prop where
  ex : ∃ (fd : FuncData) (ps : List Str), FnOk P w K mg base (L2.CX P w) k f fd ps sp ∧ PySem.W.keepIn K (.ref f) = true ∧ Binds K fd ps []
/-- of several defs that the slot may hold; what they raise is told -/
def tCallAX (i : Nat) (R : Addr → Sp → Prop) (W : WX) (t : TA) : TE := fun σ H Q => ∃ f sp, σ[i]? = some (some (.ref f)) ∧ R f sp ∧ t σ H fun vs H1 => sp vs H1 Q (WE W σ)
section
variable {X : Cx} {k i : Nat} {x : Str} {p pos : Pos} {e : Expr} {es : List Expr} {t : TA} {W : WX} {R : Addr → Sp → Prop}
theorem pe_callAX (A : ∀ f sp, R f sp → HeldX X.prog X.w X.K X.mg X.base k f sp) (hr : Room k X.A) (hN : X.N[i]? = some x) (hv : Vis X.env.scope x) (hx : ∀ σ, PassesAt (L2.CX X.prog X.w) X σ (WE W σ)) (ha : PA X (e :: es) t)
    (hdb : (x == ("__debug__" : Str)) = false := by decide) (hcd : (x == ("__classdict__" : Str)) = false := by decide)
    (he : starEach (e :: es) X.env = (false, eval e X.env) :: starEach es X.env := by rfl) (hpl : (backTo pos (starEach es X.env)).any (·.1) = false := by rfl) : PE X (.Call (.Name x p) (e :: es) [] pos) (tCallAX i R W t) := by
  refine ⟨fun pins s σ H Q I h => ?_⟩
  obtain ⟨f, sp, hs, hR, ht⟩ := h
  obtain ⟨fd, ps, F, hk, hb⟩ := (A f sp hR).ex
  refine wpAny_Call_Name_kw (thn ((pe_var (pos := p) hN hv hdb hcd).run pins s σ H (fun v H1 => v = .ref f ∧ H1 = H) I ⟨.ref f, hs, rfl, rfl⟩) fun u s1 ⟨v, H1, I1, r1, q1⟩ => ?_)
  obtain ⟨rfl, rfl⟩ := q1
  cases r1
  refine PySem.W.callWith_K (h₀ := X.base) I.ok.mod.kin hk (thn (ha.run pos pins s1 σ _ _ I1 ht) fun us s2 ⟨vs, H2, I2, r, q⟩ => ⟨I2.kIn, ?_⟩) he hpl
  exact run_fnS F hr hb (hx σ) I2 r q
end
end L2
namespace SD
open PySem PySem.Spec PyProof.Rows L2
section
variable {P : Program} {w : World} {K : PySem.W.Frag} {mg : Str → Option Value} {base : Heap} {T : List (Addr × Str)} {C CE : Addr}
theorem CalX.held {k : Nat} {x : Str} {sp : Sp} {f : Addr} (c : CalX P w K mg base k x sp) (h : mg x = some (.ref f)) : HeldX P w K mg base k f sp := by
  obtain ⟨f', fd, ps, F, hm, kp, b⟩ := c.ex
  rw [h] at hm
  cases hm
  exact ⟨fd, ps, F, kp, b⟩
/-- answer(desk, call, numbers) -/
def spAnswer (T : List (Addr × Str)) (C : Addr) : Sp := fun vs H Q _ => LamX.Tabs T H ∧ ∃ S x sA pA d v c ns, Wo.Dom ⟨S, H⟩ ∧ vs = [.ref x, .int (c : Nat), v] ∧ Is ⟨S, H⟩ v (ns : List Nat) ∧ DkW C ⟨S, H⟩ x sA pA d ∧ SC.Good d ∧ c < 9 ∧ ns.length = SC.numCount c ∧
  ∀ u H' sA' pA', Chg T x sA pA H H' → DkW C ⟨S, H'⟩ x sA' pA' (SC.step9 d c ns).1 → Is ⟨S, H'⟩ u ((SC.step9 d c ns).2 : List Int) → Q u H'
/-- Desk.__init__ -/
def spInit (T : List (Addr × Str)) (C : Addr) : Sp := fun vs H Q _ => ∃ x dx, vs = [.ref x] ∧ H x = some (.ins C dx []) ∧
  ∀ H' sA pA, (∀ a o, a ≠ x → H a = some o → H' a = some o) → (LamX.Tabs T H → LamX.Tabs T H') → H' x = some (.ins C dx (dkFs ⟨0, 0, [], []⟩ sA pA)) → H' sA = some (.lst []) → H' pA = some (.lst []) → sA ≠ pA → H sA = none → H pA = none → Q .non H'
theorem enc_cast (l : List Nat) : Enc.enc (SC.castI l) = Enc.enc l := by
  show D.lst _ = D.lst _
  unfold SC.castI
  rw [List.map_map]
  rfl
end
end SD
namespace PC
open PySem PySem.Spec PyProof.Rows L2 SD
section
variable {P : Program} {w : World} {K : PySem.W.Frag} {mg : Str → Option Value} {base : Heap} {T : List (Addr × Str)} {C CE fE fI cD : Addr}
def deedSp (T : List (Addr × Str)) (C CE : Addr) (c : Nat) : Sp := deed T C CE (SC.numCount c) (SC.deedF c)
/-- the nine defs -/
structure Nine (P : Program) (w : World) (K : PySem.W.Frag) (mg : Str → Option Value) (base : Heap) (T : List (Addr × Str)) (C CE : Addr) (fs : List Addr) : Prop where
  len : fs.length = 9
  all : ∀ c f, fs[c]? = some f → HeldX P w K mg base 12 f (deedSp T C CE c)
abbrev s_class : Stmt := topS 42
def clsBody : List Stmt := match s_class with
  | .ClassDef _ _ _ b _ _ _ _ _ _ _ => b
  | _ => []
def sInit : Stmt := clsBody.getD 0 (.Pass ⟨0, 0, 0, 0⟩)
theorem scI : FnScope ["self"] ["self"] (defScope sInit) := ⟨rfl, rfl, rfl, by decide +kernel, rfl, by decide +kernel, by decide +kernel⟩
theorem tabs_none {H : Hp} {p : Addr} {o : HO} (h : H p = none) (t : LamX.Tabs T H) : LamX.Tabs T (upd H p o) := (Ex.new (T := T) h).tabs t
theorem ok_init {f : Addr} {fd : FuncData} (F : Fun K "__init__" "Desk.__init__" sInit f fd) (DT : DeskTxt K C) : FnOk P w K mg base L2.CX0 1 f fd ["self"] (spInit T C) := by
  refine F.ok scI (fun vs H Q E h => ?_) (fun cdv A outer s H vs Q E hr h => ?_)
  · obtain ⟨x, dx, rfl, _⟩ := h
    rfl
  · obtain ⟨x, dx, rfl, hx, k⟩ := h
    refine ⟨_, pss_cons (ps_fld (pv 0) pe_int rfl) (pss_cons (ps_fld (pv 0) pe_int rfl) (pss_cons (ps_fld (pv 0) (pe_lst pa_nil) rfl) (pss_one (ps_fld (pv 0) (pe_lst pa_nil) rfl)))), ?_⟩
    refine ⟨_, rfl, x, C, dx, [], rfl, hx, DT.cl, DT.nk, (by show 0 < 1000; decide), _, rfl, x, C, dx, _, rfl, upd_same, DT.cl, DT.nm, (by show 1 < 1000; decide), ?_⟩
    refine ⟨Nat.zero_le _, fun q hq => ?_⟩
    have nqx : q ≠ x := fun z => by
      rw [z, upd_same] at hq
      cases hq
    have hq0 : H q = none := by
      rw [upd_upd, upd_ne nqx] at hq
      exact hq
    refine ⟨_, rfl, x, C, dx, _, rfl, ((upd_ne (Ne.symm nqx)).trans upd_same), DT.cl, DT.ns, (by show 2 < 1000; decide), ?_⟩
    refine ⟨Nat.zero_le _, fun r hr2 => ?_⟩
    have nrx : r ≠ x := fun z => by
      rw [z, upd_same] at hr2
      cases hr2
    have nrq : r ≠ q := fun z => by
      rw [z, upd_ne nqx, upd_same] at hr2
      cases hr2
    have hr0 : H r = none := by
      rw [upd_ne nrx, upd_ne nrq, upd_upd, upd_ne nrx] at hr2
      exact hr2
    refine ⟨_, rfl, x, C, dx, _, rfl, ((upd_ne (Ne.symm nrx)).trans upd_same), DT.cl, DT.np, (by show 3 < 1000; decide), ?_⟩
    have t1 : LamX.Tabs T H → LamX.Tabs T (upd (upd H x (.ins C dx (putF "kind" (.int 0) []))) x (.ins C dx (putF "many" (.int 0) (putF "kind" (.int 0) [])))) := fun t => by
      rw [upd_upd]
      exact tabs_upd hx (fun _ z => by cases z) (fun _ z => by cases z) t
    refine k _ q r (fun a o ha h => ?_) (fun t => ?_) upd_same ?_ ?_ (Ne.symm nrq) hq0 hr0
    · rw [upd_ne ha, upd_ne (ne_of_none h hr0), upd_ne ha, upd_ne (ne_of_none h hq0), upd_ne ha, upd_ne ha]
      exact h
    · have t2 := tabs_none (o := .lst []) (by rw [upd_upd, upd_ne nqx]; exact hq0) (t1 t)
      have t3 := tabs_upd (p := x) (o := .ins C dx (putF "statements" (.ref q) (putF "many" (.int 0) (putF "kind" (.int 0) [])))) ((upd_ne (Ne.symm nqx)).trans upd_same) (fun _ z => by cases z) (fun _ z => by cases z) t2
      have t4 := tabs_none (o := .lst []) hr2 t3
      exact tabs_upd (p := x) ((upd_ne (Ne.symm nrx)).trans upd_same) (fun _ z => by cases z) (fun _ z => by cases z) t4
    · rw [upd_ne nqx, upd_ne (Ne.symm nrq), upd_ne nqx, upd_same]
    · rw [upd_ne nrx, upd_same]
/-! ### answer -/
abbrev s_answer : Stmt := topS 62
theorem sc_answer : FnScope ["desk", "call", "numbers", "deed", "e"] ["desk", "call", "numbers"] (defScope s_answer) := ⟨rfl, rfl, rfl, by decide +kernel, rfl, by decide +kernel, by decide +kernel⟩
/-- the suite's reading -/
abbrev tSuite (CE : Addr) : Addr → Value → Option Addr → TS := fun a cls d => tRet (tLst (tCons (tByRef CE a cls d (tVar 4)) tNil))
theorem c_answer {fs : List Addr} (F : Fn K mg "answer" s_answer ["desk", "call", "numbers"]) (X : Txt mg) (RT : PySem.RefX.RefTxt K mg CE fE) (DS : ConstT K mg "DEEDS" cD (fs.map V.ref)) (N : Nine P w K mg base T C CE fs) : Cal P w K mg base L2.CX0 14 "answer" (spAnswer T C) := by
  refine F.cal sc_answer (fun vs H Q E h => ?_) fun f cdv A outer s H vs Q E hr h => ⟨_,
    pss_cons (ps_set (i := 3) sc_answer.nd rfl (Or.inl rfl) (pe_ix ix_tup (pe_gc DS.g) (pv 1) (fun _ _ => rfl)))
      (pss_one (ps_try_as (i := 4) (tb := fun W => tRet (tCallAX 3 (fun f sp => ∃ c, fs[c]? = some f ∧ sp = deedSp T C CE c) W (tCons (tVar 0) (tCons (tVar 2) tNil)))) (ts := tSuite CE) (Wout := fun _ _ _ _ => False) rfl rfl sc_answer.nd rfl rfl ⟨rfl, by decide, Or.inl RT.gC⟩ takes0
        (fun W pn xe tk _ => pss_one (ps_ret (by exact (pe_callAX (k := 12) (fun f sp ⟨c, h1, h2⟩ => h2 ▸ N.all c f h1) (hr.mono (by decide)) rfl (.inl rfl) (fun σ => passAt tk σ) (by exact (pa_cons (pv 0) (pa_cons (pv 2) pa_nil)))))))
        (fun a oe cls d pn hz hf => pss_one (ps_ret (by exact (pe_lst (pa_cons (pe_byRef RT hz hf (pv 4)) pa_nil))))))),
    ?_⟩
  · obtain ⟨_, S, x, sA, pA, d, v, c, ns, _, rfl, _⟩ := h
    rfl
  · obtain ⟨ht, S, x, sA, pA, d, v, c, ns, dm, rfl, iv, D, g, hc, hn, k⟩ := h
    have hcl : c < fs.length := by rw [N.len]; exact hc
    have hfc : fs[c]? = some fs[c] := List.getElem?_eq_getElem hcl
    refine ⟨_, rfl, cD, fs.map V.ref, (c : Int), V.ref fs[c], rfl, rfl, DS.sq H, atI_nat (by rw [List.getElem?_map, hfc]; rfl), ?_⟩
    refine ⟨fs[c], deedSp T C CE c, rfl, ⟨c, hfc, rfl⟩, _, rfl, _, rfl, ht, S, x, sA, pA, d, v, ns, dm, rfl, iv, D, g, hn, fun z hz => ?_, fun d' r hr u H' sA' pA' ch D' i' => ?_⟩
    · intro W1 s1 dd hd
      refine ⟨true, RT.te, fun _ a ha => ?_, fun q => Bool.noConfusion q⟩
      refine ⟨_, rfl, rfl, rfl, dd, _, rfl, upd_same, Nat.succ_le_of_lt (by decide), fun p hp => ?_⟩
      have es := s1.s
      have ex1 := s1.ex
      obtain ⟨S1, H1⟩ := W1
      cases es
      have hd : H1 dd = none := hd
      have ex2 : Ex T H (upd (upd H1 dd (.xd (numFs z))) p (.lst [.int z])) := (ex1.trans (.new hd)).trans (.new hp)
      have st : Step T ⟨S, H⟩ ⟨S, upd (upd H1 dd (.xd (numFs z))) p (.lst [.int z])⟩ := step_of ex2
      have e9 : SC.step9 d c ns = (d, [z]) := by
        unfold SC.step9
        rw [hz]
      refine k _ _ sA pA ((Chg.refl _).ex ex2) ?_ ?_
      · rw [e9]
        exact D.step st
      · rw [e9]
        have dm2 : Wo.Dom ⟨S, upd H1 dd (.xd (numFs z))⟩ := dm.step (W' := ⟨S, upd H1 dd (.xd (numFs z))⟩) (step_of (W := ⟨S, H⟩) (ex1.trans (.new hd)))
        exact is_new_lst (W := ⟨S, upd H1 dd (.xd (numFs z))⟩) (l := [z]) dm2 hp (.cons (.int z) .nil)
    · have e9 : SC.step9 d c ns = (d', SC.castI r) := by
        unfold SC.step9
        rw [hr]
      refine k u H' sA' pA' ch ?_ ?_
      · rw [e9]
        exact D'
      · rw [e9]
        show IsD _ _ (Enc.enc (SC.castI r))
        rw [enc_cast]
        exact i'
end
end PC

/-! ## MA6 -/
set_option Elab.async false
set_option linter.all false
namespace SC
theorem good0 : Good ⟨0, 0, [], []⟩ := ⟨by decide, by decide, by decide, rfl, fun s h => (by cases h), fun s h => (by cases h)⟩
theorem mem_without {α : Type} {row : List α} {gone : List Nat} {x : α} (h : x ∈ without row gone) : x ∈ row := by
  unfold without at h
  obtain ⟨p, hp, rfl⟩ := List.mem_map.mp h
  exact (List.of_mem_zip (List.mem_filter.mp hp).1).2
theorem without_len {α : Type} (row : List α) (gone : List Nat) : (without row gone).length = ((List.range row.length).filter fun i => !decide (i ∈ gone)).length := by
  unfold without
  rw [List.length_map]
  have e : ((List.range row.length).zip row).map Prod.fst = List.range row.length := List.map_fst_zip (by simp)
  rw [show ((List.range row.length).filter fun i => !decide (i ∈ gone)).length = ((((List.range row.length).zip row).map Prod.fst).filter fun i => !decide (i ∈ gone)).length by rw [e], List.filter_map, List.length_map]
  rfl
theorem without_len_le {α : Type} (row : List α) (gone : List Nat) : (without row gone).length ≤ row.length := by
  rw [without_len]
  exact Nat.le_trans (List.length_filter_le _ _) (by simp)
theorem good_rem {d : Dk} (g : Good d) (gone : List Nat) : Good (rem d gone) where
  kind := g.kind
  many := g.many
  len := Nat.le_trans (without_len_le d.sts gone) g.len
  lens := by
    show (without d.prices gone).length = (without d.sts gone).length
    rw [without_len, without_len, g.lens]
  ins := fun s hs => g.ins s (mem_without hs)
  cheap := fun p hp => g.cheap p (mem_without hp)
theorem good_step {d : Dk} (g : Good d) {c : Nat} (hc : c < 9) {ns : List Nat} (hn : ns.length = numCount c) : Good (step9 d c ns).1 := by
  have key : ∀ d' r, deedF c d ns = .ok d' r → Good d' := by
    have h9 : c = 0 ∨ c = 1 ∨ c = 2 ∨ c = 3 ∨ c = 4 ∨ c = 5 ∨ c = 6 ∨ c = 7 ∨ c = 8 := by omega
    rcases h9 with rfl | rfl | rfl | rfl | rfl | rfl | rfl | rfl | rfl
    · obtain ⟨a, b, rfl⟩ := PC.lst2 hn
      intro d' r h
      have h : (if (decide (a < 4) && decide (1 ≤ b ∧ b ≤ 4)) = true then Res.ok ⟨a, b, [], []⟩ [0] else .bad (-1)) = Res.ok d' r := h
      by_cases hb : (decide (a < 4) && decide (1 ≤ b ∧ b ≤ 4)) = true
      · rw [if_pos hb] at h
        cases h
        simp at hb
        exact ⟨hb.1, hb.2.2, Nat.zero_le _, rfl, fun s h => (by cases h), fun s h => (by cases h)⟩
      · rw [if_neg hb] at h
        cases h
    · obtain ⟨w, i, j, m, rfl⟩ := PC.lst4 hn
      intro d' r h
      have h : (if (isSt d i j m && decide (1 ≤ w ∧ w ≤ 1000)) = true then (if decide (d.sts.length < 5) = true then Res.ok { d with sts := d.sts ++ [⟨i, j, m⟩], prices := d.prices ++ [w] } [d.sts.length] else .bad (-7)) else .bad (-1)) = Res.ok d' r := h
      by_cases hb : (isSt d i j m && decide (1 ≤ w ∧ w ≤ 1000)) = true
      · rw [if_pos hb] at h
        by_cases hb2 : decide (d.sts.length < 5) = true
        · rw [if_pos hb2] at h
          cases h
          rw [Bool.and_eq_true] at hb
          have h1 := isSt_in hb.1
          have h2 := of_decide_eq_true hb.2
          have h3 := of_decide_eq_true hb2
          have h4 := g.lens
          refine ⟨g.kind, g.many, ?_, ?_, fun s hs => ?_, fun p hp => ?_⟩
          · show (d.sts ++ [_]).length ≤ 5
            rw [List.length_append, List.length_singleton]
            omega
          · show (d.prices ++ [_]).length = (d.sts ++ [_]).length
            rw [List.length_append, List.length_append, List.length_singleton, List.length_singleton]
            omega
          · rcases List.mem_append.mp hs with h | h
            · exact g.ins s h
            · rcases List.mem_cons.mp h with rfl | h
              · exact h1
              · cases h
          · rcases List.mem_append.mp hp with h | h
            · exact g.cheap p h
            · rcases List.mem_cons.mp h with rfl | h
              · exact h2.2
              · cases h
        · rw [if_neg hb2] at h
          cases h
      · rw [if_neg hb] at h
        cases h
    · obtain ⟨i, rfl⟩ := PC.lst1 hn
      intro d' r h
      have h : (if decide (i < d.sts.length) = true then Res.ok (rem d [i]) [(rem d [i]).sts.length] else .bad (-2)) = Res.ok d' r := h
      by_cases hb : decide (i < d.sts.length) = true
      · rw [if_pos hb] at h
        cases h
        exact good_rem g _
      · rw [if_neg hb] at h
        cases h
    · intro d' r h
      have h : Res.ok d _ = Res.ok d' r := h
      cases h
      exact g
    · intro d' r h
      have h : Res.ok d _ = Res.ok d' r := h
      cases h
      exact g
    · intro d' r h
      have h : Res.ok d _ = Res.ok d' r := h
      cases h
      exact g
    · obtain ⟨i, j, m, rfl⟩ := PC.lst3 hn
      intro d' r h
      have h : (if isSt d i j m = true then Res.ok d _ else .bad (-1)) = Res.ok d' r := h
      by_cases hb : isSt d i j m = true
      · rw [if_pos hb] at h
        cases h
        exact g
      · rw [if_neg hb] at h
        cases h
    · obtain ⟨i, j, m, rfl⟩ := PC.lst3 hn
      intro d' r h
      have h : (if isSt d i j m = true then Res.ok d _ else .bad (-1)) = Res.ok d' r := h
      by_cases hb : isSt d i j m = true
      · rw [if_pos hb] at h
        cases h
        exact g
      · rw [if_neg hb] at h
        cases h
    · intro d' r h
      have h : Res.ok (rem d (cheapestOf d).2) _ = Res.ok d' r := h
      cases h
      exact good_rem g _
  unfold step9
  cases e : deedF c d ns with
  | bad z => exact g
  | ok d' r => exact key d' r e
/-! ### all calls -/
def play : Nat → Dk → List Nat → List Int
  | _, _, [] => []
  | 0, _, _ :: _ => []
  | f + 1, d, c :: r => ((step9 d c (r.take (numCount c))).2.length : Int) :: ((step9 d c (r.take (numCount c))).2 ++ play f (step9 d c (r.take (numCount c))).1 (r.drop (numCount c)))
def Valid : Nat → List Nat → Prop
  | _, [] => True
  | 0, _ :: _ => False
  | f + 1, c :: r => c < 9 ∧ numCount c ≤ r.length ∧ Valid f (r.drop (numCount c))
end SC

/-! ## PB2 -/
set_option Elab.async false
set_option linter.all false
set_option maxRecDepth 100000
set_option maxHeartbeats 2000000
namespace SD
open PySem PySem.Spec PyProof.Rows L2
section
variable {α : Type} [Enc α] {K : PySem.W.Frag} {T : List (Addr × Str)} {W : Wo}
theorem iss_ints {vs : List V} {l : List Int} (h : Iss W vs (l.map Enc.enc)) : vs = l.map V.int := by
  have h : IsDs (hid W.S W.H) vs (l.map Enc.enc) := h
  induction l generalizing vs with
  | nil => cases h; rfl
  | cons n l ih =>
    cases h with
    | cons h1 h2 =>
      rw [ih h2 h2]
      cases h1
      rfl
/-- answers(calls) -/
def spAnswers (T : List (Addr × Str)) (K : PySem.W.Frag) : Sp := fun vs H Q _ => LamX.Tabs T H ∧ ∃ S0 a xs f, Wo.Dom ⟨S0, H⟩ ∧ vs = [.ref a] ∧ (∀ H' : Hp, (∀ s ∈ S0, ∀ o, H s = some o → H' s = some o) → SqL K H' a ((SC.castI xs).map V.int)) ∧ SC.Valid f xs ∧ (SC.play f ⟨0, 0, [], []⟩ xs).length ≤ 10000000 ∧
  ∀ H' p, H' p = some (.lst ((SC.play f ⟨0, 0, [], []⟩ xs).map V.int)) → Q (.ref p) H'
theorem cut_nat (xs : List V) {lo n : Nat} (h : lo + n ≤ xs.length) : cutV xs (some (lo : Int)) (some ((lo + n : Nat) : Int)) = (xs.drop lo).take n := by
  unfold cutV
  rw [HT.sIx_nat, HT.sIx_nat]
  rw [show min lo xs.length = lo by omega, show min (lo + n) xs.length - lo = n by omega]
end
end SD
namespace PC
open PySem PySem.Spec PyProof.Rows L2 SD
section
variable {P : Program} {w : World} {K : PySem.W.Frag} {mg : Str → Option Value} {base : Heap} {T : List (Addr × Str)} {C CE fE fI cD cN : Addr}
abbrev numV : List V := [2, 4, 1, 0, 0, 0, 3, 3, 0].map fun n : Nat => V.int (n : Int)
abbrev s_answers : Stmt := topS 63
theorem sc_answers : FnScope ["calls", "desk", "place", "found", "call", "numbers", "now"] ["calls"] (defScope s_answers) := ⟨rfl, rfl, rfl, by decide +kernel, rfl, by decide +kernel, by decide +kernel⟩
/-- before a turn -/
structure Lp (K : PySem.W.Frag) (T : List (Addr × Str)) (C : Addr) (H0 : Hp) (S0 : List Addr) (a : Addr) (xs : List Nat) (R : List Int) (m : Nat) (σ : L2.St) (H' : Hp) : Prop where
  ex : ∃ (x sA pA : Addr) (d : SC.Dk) (p : Addr) (place : Nat) (l : List Int) (f : Nat) (y1 y2 y3 : Option V), σ = [some (.ref a), some (.ref x), some (.int (place : Int)), some (.ref p), y1, y2, y3] ∧ Wo.Dom ⟨p :: S0, H'⟩ ∧ DkW C ⟨p :: S0, H'⟩ x sA pA d ∧ SC.Good d ∧ LamX.Tabs T H' ∧
    p ∉ S0 ∧ H' p = some (.lst (l.map V.int)) ∧ (∀ s ∈ S0, ∀ o, H0 s = some o → H' s = some o) ∧ place ≤ xs.length ∧ m = xs.length - place ∧ l ++ SC.play f d (xs.drop place) = R ∧ SC.Valid f (xs.drop place)
theorem play_nil (f : Nat) (d : SC.Dk) : SC.play f d [] = [] := by cases f <;> rfl
theorem ok_answers {fa : Addr} {fd : FuncData} (F : Fun K "answers" "answers" s_answers fa fd) (X : Txt mg) (DT : DeskTxt K C) (MK : Mk K C fI) {fdI : FuncData} (GI : FnOk P w K mg base L2.CX0 1 fI fdI ["self"] (spInit T C)) (bI : Binds K fdI ["self"] []) (gC : mg "Desk" = some (.ref C)) (NB : ConstT K mg "NUMBERS" cN numV)
    (C_answer : Cal P w K mg base L2.CX0 14 "answer" (spAnswer T C)) : FnOk P w K mg base L2.CX0 15 fa fd ["calls"] (spAnswers T K) := by
  refine F.ok sc_answers (fun vs H Q E h => ?_) fun cdv A outer s H vs Q E hr h => ⟨_,
    (pss_cons (ps_par3 (i := 1) (j := 2) (l := 3) (by rfl) sc_answers.nd rfl rfl rfl (by decide) (by decide) (by decide) rfl rfl rfl (pa_cons (pe_make0 MK GI (hr.mono (by decide)) rfl gC bI .nil pass0) (pa_cons pe_int (pa_cons (pe_lst pa_nil) pa_nil))) (by rfl))
      (pss_cons (ps_while PassesOwn.never (pt_cmpR op_lt (pv 2) (pe_callB (call_len_seq) (by rfl) X.len (by decide +kernel) (pa_cons (pv 0) pa_nil)) (nomark _)) (pss_cons (ps_set (i := 4) sc_answers.nd rfl (Or.inl rfl) (pe_ix ix_list (pv 0) (pv 2) (fun _ _ => rfl)))
      (pss_cons (ps_set (i := 5) sc_answers.nd rfl (Or.inl rfl) (pe_slice sl_list (pv 0) (po_some (pe_op op_add (pv 2) pe_int)) (po_some (pe_op op_add (pe_op op_add (pv 2) pe_int) (pe_ix ix_tup (pe_gc NB.g) (pv 4) (fun _ _ => rfl))))))
      (pss_cons (ps_set (i := 2) sc_answers.nd rfl (Or.inl rfl) (pe_op op_add (pe_op op_add (pv 2) pe_int) (pe_ix ix_tup (pe_gc NB.g) (pv 4) (fun _ _ => rfl))))
      (pss_cons (ps_set (i := 6) sc_answers.nd rfl (Or.inl rfl) (pe_c C_answer hr (pa_cons (pv 1) (pa_cons (pv 4) (pa_cons (pv 5) pa_nil)))))
      (pss_cons (ps_expr (pe_bm PySem.F.plainAttrs_list PySem.F.slot_list_append PySem.F.type_list_append mt_append (pv 3) (pa_cons (pe_callB (call_len_seq) (by rfl) X.len (by decide +kernel) (pa_cons (pv 6) pa_nil)) pa_nil)))
      (pss_one (ps_expr (pe_bm PySem.F.plainAttrs_list PySem.F.slot_list_extend PySem.F.type_list_extend mt_extend (pv 3) (pa_cons (pv 6) pa_nil))))))))))
      (pss_one (ps_ret (pv 3))))),
    ?_⟩
  · obtain ⟨_, S0, a, xs, f, _, rfl, _⟩ := h
    rfl
  · obtain ⟨ht, S0, a, xs, f0, dm, rfl, hS, hv, hlen, k⟩ := h
    intro x dx nx ndx nex
    have h1 : ∀ b o, H b = some o → upd (upd H dx (.own x)) x (.ins C dx []) b = some o := fun b o e => by
      rw [upd_ne (ne_of_none e nx), upd_ne (ne_of_none e ndx)]
      exact e
    have ht1 : LamX.Tabs T (upd (upd H dx (.own x)) x (.ins C dx [])) := tabs_none (by rw [upd_ne (Ne.symm nex)]; exact nx) (tabs_none ndx ht)
    refine ⟨x, dx, rfl, upd_same, fun H1 sA pA kp tb hx hsA hpA ne nsA npA => ⟨rfl, ?_⟩⟩
    have h2 : ∀ b o, H b = some o → H1 b = some o := fun b o e => kp b o (ne_of_none e nx) (h1 b o e)
    have nil0 : ∀ b, upd (upd H dx (.own x)) x (.ins C dx []) b = none → H b = none := fun b e => by
      cases q : H b with
      | none => rfl
      | some o =>
        rw [h1 b o q] at e
        cases e
    refine ⟨Nat.zero_le _, fun p hp => ⟨_, _, _, rfl, ?_⟩⟩
    have hpH : H p = none := by
      cases q : H p with
      | none => rfl
      | some o =>
        rw [h2 p o q] at hp
        cases hp
    have e3 : Ex T H1 (upd H1 p (.lst [])) := .new hp
    have notS : ∀ b, H b = none → b ∉ S0 := fun b e z => by
      obtain ⟨o, h, _⟩ := dm b z
      have h : H b = some o := h
      rw [e] at h
      cases h
    have pS : p ∉ S0 := notS p hpH
    have npx : x ≠ p := fun z => by
      rw [← z, hx] at hp
      cases hp
    have nps : sA ≠ p := fun z => by
      rw [← z, hsA] at hp
      cases hp
    have npp : pA ≠ p := fun z => by
      rw [← z, hpA] at hp
      cases hp
    have noS : ∀ b, b ≠ p → H b = none → b ∉ p :: S0 := fun b h e z => (List.mem_cons.mp z).elim h (notS b e)
    have D0 : DkW C ⟨p :: S0, upd H1 p (.lst [])⟩ x sA pA ⟨0, 0, [], []⟩ := ⟨⟨dx, by show upd H1 p _ x = _; rw [upd_ne npx]; exact hx⟩, noS x npx nx,
      IsD.lst (vs := []) (hid_some.mpr ⟨noS sA nps (nil0 sA nsA), by show upd H1 p _ sA = _; rw [upd_ne nps]; exact hsA⟩) .nil, IsD.lst (vs := []) (hid_some.mpr ⟨noS pA npp (nil0 pA npA), by show upd H1 p _ pA = _; rw [upd_ne npp]; exact hpA⟩) .nil, ne⟩
    have dm0 : Wo.Dom ⟨p :: S0, upd H1 p (.lst [])⟩ := fun s hs => by
      rcases List.mem_cons.mp hs with rfl | hs
      · exact ⟨_, upd_same, fun _ z => by cases z⟩
      · obtain ⟨o, e, n⟩ := dm s hs
        exact ⟨o, e3.keep s o (h2 s o e) n, n⟩
    refine ⟨Lp K T C H S0 a xs (SC.play f0 ⟨0, 0, [], []⟩ xs), ⟨xs.length, ⟨x, sA, pA, ⟨0, 0, [], []⟩, p, 0, [], f0, none, none, none, rfl, dm0, D0, SC.good0, e3.tabs (tb ht1), pS, upd_same, fun s hs o e => ?_, Nat.zero_le _, rfl, rfl, hv⟩⟩, ?_⟩
    · rw [upd_ne (fun z : s = p => pS (z ▸ hs))]
      exact h2 s o e
    · clear D0 dm0 e3 hp h2 h1 ht1 kp tb hx hsA hpA
      rintro m σ H2 ⟨x, sA, pA, d, p, place, l, f, y1, y2, y3, rfl, dm2, D, g, ht2, pS, hp, hk, hpl, rfl, hR, hV⟩
      have hq := hS H2 hk
      have hvl : ((SC.castI xs).map V.int).length = xs.length := by simp [SC.castI]
      refine ⟨_, rfl, _, rfl, a, _, rfl, .inl hq, (place : Int), (((SC.castI xs).map V.int).length : Int), rfl, rfl, _, rfl, ?_⟩
      rw [hvl]
      by_cases hlt : place < xs.length
      · rw [show decide ((place : Int) < (xs.length : Int)) = true from by simpa using hlt]
        refine iteT ⟨fun σ' H' => ∃ m', m' < xs.length - place ∧ Lp K T C H S0 a xs (SC.play f0 ⟨0, 0, [], []⟩ xs) m' σ' H', fun _ _ h => h, ?_⟩
        have ed : xs.drop place = xs[place] :: xs.drop (place + 1) := List.drop_eq_getElem_cons hlt
        generalize hcc : xs[place] = c at ed
        rw [ed] at hR hV
        cases f with
        | zero => exact hV.elim
        | succ f =>
          obtain ⟨hc, hn, hV⟩ := hV
          rw [List.length_drop] at hn
          have hnl : ([2, 4, 1, 0, 0, 0, 3, 3, 0] : List Nat)[c]? = some (SC.numCount c) := by
            have : c = 0 ∨ c = 1 ∨ c = 2 ∨ c = 3 ∨ c = 4 ∨ c = 5 ∨ c = 6 ∨ c = 7 ∨ c = 8 := by omega
            rcases this with h | h | h | h | h | h | h | h | h <;> rw [h] <;> rfl
          have hnv : numV[c]? = some (.int (SC.numCount c : Int)) := by
            show (List.map _ _)[c]? = _
            rw [List.getElem?_map, hnl]
            rfl
          have hxv : ((SC.castI xs).map V.int)[place]? = some (.int (c : Int)) := by
            unfold SC.castI
            rw [List.getElem?_map, List.getElem?_map, List.getElem?_eq_getElem hlt, hcc]
            rfl
          refine ⟨_, rfl, _, rfl, a, _, (place : Int), .int (c : Int), rfl, rfl, hq, atI_nat hxv, ?_⟩
          refine ⟨_, rfl, _, rfl, (place : Int), 1, rfl, rfl, _, rfl, _, rfl, (place : Int), 1, rfl, rfl, _, rfl, cN, numV, (c : Int), .int (SC.numCount c : Int), rfl, rfl, NB.sq _, atI_nat hnv, ((place : Int) + 1), (SC.numCount c : Int), rfl, rfl, _, rfl, a, _, rfl, hq, fun q hq3 => ?_⟩
          refine ⟨_, rfl, (place : Int), 1, rfl, rfl, _, rfl, cN, numV, (c : Int), .int (SC.numCount c : Int), rfl, rfl, NB.sq _, atI_nat hnv, ((place : Int) + 1), (SC.numCount c : Int), rfl, rfl, ?_⟩
          have e1 : (place : Int) + 1 = ((place + 1 : Nat) : Int) := by omega
          have e2 : (place : Int) + 1 + (SC.numCount c : Int) = ((place + 1 + SC.numCount c : Nat) : Int) := by omega
          rw [e2, e1, cut_nat _ (by rw [hvl]; omega)]
          generalize hns : (xs.drop (place + 1)).take (SC.numCount c) = ns at hR hV
          have ecut : (((SC.castI xs).map V.int).drop (place + 1)).take (SC.numCount c) = (SC.castI ns).map V.int := by
            rw [← hns]
            unfold SC.castI
            rw [List.map_take, List.map_take, List.map_drop, List.map_drop]
          rw [ecut]
          have hnsl : ns.length = SC.numCount c := by
            rw [← hns, List.length_take, List.length_drop]
            omega
          have st : Step T ⟨p :: S0, H2⟩ ⟨p :: S0, upd H2 q (.lst ((SC.castI ns).map V.int))⟩ := step_of (.new hq3)
          have iv : Is ⟨p :: S0, upd H2 q (.lst ((SC.castI ns).map V.int))⟩ (.ref q) ns := is_new_lst (W := ⟨p :: S0, H2⟩) (l := ns) dm2 hq3 (nats_isds ns)
          have D3 := D.step st
          have dm3 := dm2.step st
          have hp3 := st.ex.lst hp
          have hk3 : ∀ s ∈ S0, ∀ o, H s = some o → upd H2 q (.lst ((SC.castI ns).map V.int)) s = some o := fun s hs o e => by
            rw [upd_ne (ne_of_none (hk s hs o e) hq3)]
            exact hk s hs o e
          have ht3 := st.ex.tabs ht2
          generalize upd H2 q (.lst ((SC.castI ns).map V.int)) = H3 at st iv D3 dm3 hp3 hk3 ht3
          refine ⟨_, rfl, _, rfl, _, rfl, ht3, p :: S0, x, sA, pA, d, .ref q, c, ns, dm3, rfl, iv, D3, g, hc, hnsl, fun u H4 sA' pA' ch D4 i4 => ?_⟩
          obtain ⟨n1, n2, n3⟩ := D3.out
          have mp : p ∈ p :: S0 := List.mem_cons_self ..
          have dm4 : Wo.Dom ⟨p :: S0, H4⟩ := ch.dom (W := ⟨p :: S0, H3⟩) D3 dm3
          have hp4 : H4 p = some (.lst (l.map V.int)) := ch.keep p _ (fun z => n1 (z ▸ mp)) (fun z => n2 (z ▸ mp)) (fun z => n3 (z ▸ mp)) hp3 fun _ z => by cases z
          have ht4 := ch.tabs ht3
          have hk4 : ∀ s ∈ S0, ∀ o, H s = some o → H4 s = some o := fun s hs o e => by
            obtain ⟨o', e', nt⟩ := dm s hs
            have e' : H s = some o' := e'
            rw [e] at e'
            cases e'
            have ms : s ∈ p :: S0 := List.mem_cons_of_mem _ hs
            exact ch.keep s o (fun z => n1 (z ▸ ms)) (fun z => n2 (z ▸ ms)) (fun z => n3 (z ▸ ms)) (hk3 s hs o e) nt
          obtain ⟨b, ws, rfl, nb, hb, is⟩ := is_lst i4
          have hw := iss_ints is
          have nbp : b ≠ p := fun z => nb (z ▸ mp)
          have hg := SC.good_step g hc hnsl
          have hlen2 := congrArg List.length hR
          have hpl : SC.play (f + 1) d (c :: xs.drop (place + 1)) = ((SC.step9 d c ns).2.length : Int) :: ((SC.step9 d c ns).2 ++ SC.play f (SC.step9 d c ns).1 ((xs.drop (place + 1)).drop (SC.numCount c))) := by
            rw [← hns]
            rfl
          rw [hpl] at hR hlen2
          simp only [List.length_append, List.length_cons] at hlen2
          generalize SC.step9 d c ns = res at hR hlen2 hw hg D4 is
          obtain ⟨d', r⟩ := res
          have hlen2 : l.length + (r.length + (SC.play f d' ((xs.drop (place + 1)).drop (SC.numCount c))).length + 1) = (SC.play f0 ⟨0, 0, [], []⟩ xs).length := hlen2
          have hwl : ws.length = r.length := by rw [hw, List.length_map]
          refine ⟨_, rfl, .inl ⟨rfl, _, SqL.of hp4⟩, _, rfl, b, ws, rfl, .inl (SqL.of hb), p, l.map V.int, .int (ws.length : Nat), rfl, rfl, hp4, big7 (by rw [List.length_map]; omega), ?_⟩
          refine ⟨_, rfl, .inl ⟨rfl, _, SqL.of upd_same⟩, _, rfl, p, b, _, ws, rfl, rfl, upd_same, (upd_ne nbp).trans hb, big7' (by rw [List.length_append, List.length_map, List.length_singleton, hwl]; omega), ?_⟩
          rw [upd_upd]
          have efin : l.map V.int ++ [V.int (ws.length : Nat)] ++ ws = (l ++ ((r.length : Int) :: r)).map V.int := by
            rw [hw, List.length_map, List.map_append, List.map_cons, List.append_assoc]
            rfl
          rw [efin]
          refine ⟨xs.length - (place + 1 + SC.numCount c), by omega, x, sA', pA', d', p, place + 1 + SC.numCount c, l ++ ((r.length : Int) :: r), f, _, _, _, rfl, fun s hs => ?_, D4.mono (T := T) (Le.chgL mp hp4), hg, tabs_upd hp4 (fun _ z => by cases z) (fun _ z => by cases z) ht4, pS, upd_same, fun s hs o e => ?_, by omega, rfl, ?_, ?_⟩
          · by_cases hsp : s = p
            · subst hsp
              exact ⟨_, upd_same, fun _ z => by cases z⟩
            · obtain ⟨o, e, nt⟩ := dm4 s hs
              exact ⟨o, (upd_ne hsp).trans e, nt⟩
          · rw [upd_ne (fun z : s = p => pS (z ▸ hs))]
            exact hk4 s hs o e
          · rw [← hR, List.drop_drop, List.append_assoc]
            rfl
          · rw [List.drop_drop] at hV
            exact hV
      · rw [show decide ((place : Int) < (xs.length : Int)) = false from by simpa using hlt]
        refine iteF ?_
        have e0 : xs.drop place = [] := List.drop_eq_nil_of_le (by omega)
        rw [e0, play_nil, List.append_nil] at hR
        refine ⟨_, rfl, k H2 p ?_⟩
        rw [← hR]
        exact hp
end
end PC

/-! ## EN1 -/
set_option Elab.async false
set_option linter.all false
set_option maxRecDepth 100000
set_option maxHeartbeats 2000000
/-! the end of the row, with one table of code objects -/
namespace EN
open PySem PySem.Spec PyProof.Rows L2
open PySem.W (WData Codec OpenSpec Well WellAll ReadsW ReadsAllW)
theorem sqL_ext {K : PySem.W.Frag} {H H' : Hp} (e : ∀ b o, H b = some o → H' b = some o) {a : Addr} {xs : List V} (h : SqL K H a xs) : SqL K H' a xs := by
  rcases h with (h | ⟨o, h⟩) | h
  · exact .inl (.inl (e _ _ h))
  · exact .inl (.inr ⟨o, e _ _ h⟩)
  · exact .inr h
theorem sqT_ext {K : PySem.W.Frag} {H H' : Hp} (e : ∀ b o, H b = some o → H' b = some o) {a : Addr} {xs : List V} (h : SqT K H a xs) : SqT K H' a xs := by
  rcases h with (h | ⟨o, h⟩) | h
  · exact .inl (.inl (e _ _ h))
  · exact .inl (.inr ⟨o, e _ _ h⟩)
  · exact .inr h
mutual
theorem dw_ext {K : PySem.W.Frag} {H H' : Hp} (e : ∀ b o, H b = some o → H' b = some o) : ∀ (d : WData) (v : V), Dw K H v d → Dw K H' v d
  | .none, _, x => by cases x; exact .non
  | .bool b, _, x => by cases x; exact .bl b
  | .int i, _, x => by cases x; exact .int i
  | .str s, _, x => by cases x; exact .str s
  | .bytes b, v, x => by
    cases x
    exact Dw.byt _
  | .list ds, _, x => by
    cases x with
    | lst h1 h2 => exact .lst (sqL_ext e h1) (dwAll_ext e ds _ h2)
  | .tuple ds, _, x => by
    cases x with
    | tup h1 h2 => exact .tup (sqT_ext e h1) (dwAll_ext e ds _ h2)
  | .float _, _, x => by cases x
  | .dict _, _, x => by cases x
  | .bytearray _, _, x => by cases x
  | .set _, _, x => by cases x
  | .frozenset _, _, x => by cases x
  | .obj _ _, _, x => by cases x
theorem dwAll_ext {K : PySem.W.Frag} {H H' : Hp} (e : ∀ b o, H b = some o → H' b = some o) : ∀ (ds : List WData) (vs : List V), DwAll K H vs ds → DwAll K H' vs ds
  | [], _, x => by cases x; exact .nil
  | d :: ds, _, x => by
    cases x with
    | cons h1 h2 => exact .cons (dw_ext e d _ h1) (dwAll_ext e ds _ h2)
end
theorem spec_callT {P : Program} {w : World} {K : PySem.W.Frag} {mg mb : Str → Option Value} {CX : CXT} {k : Nat} {fa c PT : Addr} {fd : FuncData} {ps : List Str} {sp : Sp} {s₁ : Shared} {vals : List Value} {ds : List WData} {R : PySem.W.WRecords} {cl : Str → Option Addr} {d0 : WData}
    (KX : K.In s₁.heap) (hns : s₁.heap.Ns mainGlobals mg) (hb : s₁.heap.Ns builtinsNs mb) (hbb : ∀ x : Str, x ≠ "__name__" → mb x = bootBuiltins x) (hlim : s₁.heap.NoLimit) (hg : s₁.gens = #[])
    (hT : s₁.heap.get? PT = some { cls := .none, data := .fields #[] }) (nT : K.lookup PT = none) (CH : PySem.W.CodeHd s₁.heap c PT)
    (hbm : ∃ (bm : Addr) (ob : Obj), mg "__builtins__" = some (.ref bm) ∧ bm ≠ builtinsNs ∧ s₁.heap.get? bm = some ob ∧ ob.cls = .type "module" ∧ ob.dict = some builtinsNs ∧ ob.data = .plain)
    (hwl : WellAll w.params s₁.heap vals ds) (hpl : plWs ds = true) (hwt : ∀ d ∈ ds, d.weight ≤ 1048576) (hr : Room k callerA)
    (F : ∀ base : Heap, K.In base → base.Ns mainGlobals mg → LamX.TabB base mg c PT → FnOk P w K mg base CX k fa fd ps sp) (hbind : ∀ (s : Shared) (us : List Value), us.length = ps.length → BindsTo s fd ⟨us, []⟩ (ps.zip us)) (hlen : ds.length = ps.length)
    (hsp : ∀ (H : Hp) (xs : List V), H PT = some (.tbl #[]) → (∀ b, b ≠ PT → H b = none ∨ ∃ o u, H b = some (.frz o u)) → DwAll K H xs ds → sp xs H (fun v H' => Dw K H' v d0) fun _ _ _ => False)
    (hCX : ∀ H e s', CX [] H s₁ (fun _ _ _ => False) e s' → False) :
    codeAny (model P w) callerA (.call (.ref fa) ⟨vals, []⟩) (fun r s' => ∃ u as, r = .ok (.ret u) ∧ ReadsW R cl s'.heap u d0 as ∧ OldK s₁.heap s'.heap ∧ s'.os = s₁.os ∧ AllBare s'.gens) s₁ := by
  obtain ⟨A, ho, ar⟩ := area_all ds vals hwl hpl hwt
  have hO0 : OnlyF (argH K s₁.heap A) := argH_only ar
  have hok0 : HOk P w (argH K s₁.heap A) s₁.heap := argH_ok ar
  have hS0 := dw_all KX ar ds vals hwl hpl ho
  have hV := vals_toV ho
  have nP : argH K s₁.heap A PT = none := by
    cases q : argH K s₁.heap A PT with
    | none => rfl
    | some u =>
      obtain ⟨_, vs, _, _, ⟨e2, _⟩ | ⟨e2, _⟩⟩ := argH_is ar q
      · rw [e2] at hT
        cases hT
      · rw [e2] at hT
        cases hT
  have hK0 : ∀ b u, argH K s₁.heap A b = some u → K.lookup b = none := fun b u q => (argH_is ar q).1
  have noA0 : ∀ {b : Addr} {o : Obj}, s₁.heap.get? b = some o → (∀ vs n, o.data ≠ .seq vs n) → argH K s₁.heap A b = none := fun {b o} e d => by
    cases q : argH K s₁.heap A b with
    | none => rfl
    | some u =>
      obtain ⟨_, vs, _, _, ⟨e2, _⟩ | ⟨e2, _⟩⟩ := argH_is ar q
      · rw [e2] at e
        cases e
        exact (d _ _ rfl).elim
      · rw [e2] at e
        cases e
        exact (d _ _ rfl).elim
  have hHP : upd (argH K s₁.heap A) PT (.tbl #[]) PT = some (.tbl #[]) := upd_same
  have hO : ∀ b, b ≠ PT → upd (argH K s₁.heap A) PT (.tbl #[]) b = none ∨ ∃ o u, upd (argH K s₁.heap A) PT (.tbl #[]) b = some (.frz o u) := fun b hb => by
    rw [upd_ne hb]
    exact hO0 b
  have hok : HOk P w (upd (argH K s₁.heap A) PT (.tbl #[])) s₁.heap := fun b u q => by
    by_cases hb : b = PT
    · subst hb
      rw [upd_same] at q
      cases q
      exact hT
    · rw [upd_ne hb] at q
      obtain ⟨_, vs, h1, h2, ⟨e, rfl⟩ | ⟨e, rfl⟩⟩ := argH_is ar q
      · exact ⟨e, by rw [List.length_map]; exact h1, vs, _, vals_toV h2, e⟩
      · exact ⟨e, by rw [List.length_map]; exact h1, vs, vals_toV h2, _, e, rfl, _, rfl⟩
  have hS : DwAll K (upd (argH K s₁.heap A) PT (.tbl #[])) (vals.map toV) ds := dwAll_ext (fun b o e => by rw [upd_ne (ne_of_none e nP)]; exact e) ds _ hS0
  have nK : ∀ b o, K.lookup b = some o → upd (argH K s₁.heap A) PT (.tbl #[]) b = none := fun b o e => by
    have hb : b ≠ PT := fun z => by
      rw [z, nT] at e
      cases e
    rw [upd_ne hb]
    cases q : argH K s₁.heap A b with
    | none => rfl
    | some u =>
      rw [hK0 b u q] at e
      cases e
  have noA : ∀ {b : Addr} {o : Obj}, s₁.heap.get? b = some o → (∀ vs n, o.data ≠ .seq vs n) → o.data ≠ .fields #[] → upd (argH K s₁.heap A) PT (.tbl #[]) b = none := fun {b o} e d1 d2 => by
    have hb : b ≠ PT := fun z => by
      rw [z, hT] at e
      cases e
      exact d2 rfl
    rw [upd_ne hb]
    exact noA0 e d1
  clear hS0 hok0 hO0
  generalize upd (argH K s₁.heap A) PT (.tbl #[]) = H at hHP hO hok hS nK noA
  have base_of : ∀ {b : Addr} {o : Obj}, s₁.heap.get? b = some o → H b = none → (hidT s₁.heap H).get? b = some o := fun e n => hidT_get e n
  have nsK : ∀ {b : Addr} {m : Str → Option Value}, s₁.heap.Ns b m → (hidT s₁.heap H).Ns b m := fun {b m} ⟨o, es, ep, e, d, r⟩ => ⟨o, es, ep, base_of e (noA e (fun vs n z => by rw [d] at z; cases z) (fun z => by rw [d] at z; cases z)), d, r⟩
  have hKb : K.In (hidT s₁.heap H) := fun b o e => base_of (KX b o e) (nK b o e)
  have hM : L2.Mod K mg (hidT s₁.heap H) := ⟨hKb, nsK hns, ⟨mb, nsK hb, hbb⟩, let ⟨mc, h1, h2⟩ := hlim; ⟨mc, nsK h1, h2⟩⟩
  have TB : LamX.TabB (hidT s₁.heap H) mg c PT := by
    refine ⟨?_, ?_, fun z => ?_⟩
    · obtain ⟨o, us, file, tf, flags, tg, inF, text, tt, e1, r1, r2, r3, r4, r5, r6, r7, r8, hne⟩ := CH
      refine ⟨o, us, file, tf, flags, tg, inF, text, tt, base_of e1 (noA e1 (fun vs n z => ?_) fun z => ?_), r1, r2, r3, r4, r5, r6, r7, r8, hne⟩
      · rw [r2] at z
        cases z
      · rw [r2] at z
        cases z
        simp at r3
    · obtain ⟨bm, ob, b1, b2, b3, b4, b5, b6⟩ := hbm
      have nG : bm ≠ mainGlobals := fun q => by
        obtain ⟨o, es, ep, e, hd, _⟩ := hns
        rw [q, e] at b3
        cases b3
        rw [hd] at b6
        cases b6
      have nP : bm ≠ PT := fun q => by
        rw [q, hT] at b3
        cases b3
        cases b6
      refine ⟨bm, ob, b1, b2, nG, nP, base_of b3 (noA b3 (fun vs n z => ?_) fun z => ?_), b4, b5, b6⟩
      · rw [b6] at z
        cases z
      · rw [b6] at z
        cases z
    · obtain ⟨o, es, ep, e, hd, _⟩ := hns
      rw [z, hT] at e
      cases e
      cases hd
  have e0 : Env0 P w K mg (hidT s₁.heap H) callerA [] s₁ H := ⟨rfl, hM, fun b o e => of_hidT e, Nat.le_of_eq (hidT_size _ _), trivial, fun b hb => absurd (show b ∈ ([] : List Addr) from hb) (by simp), hok, .of_eq hg⟩
  have hl : vals.length = ps.length := by rw [wellAll_len hwl]; exact hlen
  refine codeAny_mono ((F _ hKb (nsK hns) TB).run callerA [] s₁ H ⟨vals, []⟩ vals (vals.map toV) _ _ hr e0 (hbind s₁ vals hl) hV (hsp H _ hHP hO hS)) fun r s' x => ?_
  cases r with
  | error e => exact (hCX H e s' x).elim
  | ok fl =>
    cases fl with
    | next => exact False.elim x
    | brk => exact False.elim x
    | cont => exact False.elim x
    | ret u =>
      obtain ⟨v, H', os, bare, un, hok', r', q⟩ := x
      have kept : ∀ b o, b ≠ PT → s₁.heap.get? b = some o → s'.heap.get? b = some o := fun b o hbP e => by
        cases q2 : H b with
        | none => exact un.keep b o e q2 (by intro z; exact absurd (show b ∈ ([] : List Addr) from z) (by simp)) (by simp)
        | some u2 =>
          rcases hO b hbP with z | ⟨ob, u3, z⟩
          · rw [q2] at z
            cases z
          · have z2 := un.frzs b ob _ z
            obtain ⟨e1, _⟩ := hok b _ z
            obtain ⟨e2, _⟩ := hok' b _ z2
            rw [e] at e1
            cases e1
            exact e2
      have grown : ∃ more : Array Value, s'.heap.get? PT = some { cls := .none, data := .fields more } := by
        obtain ⟨more, z⟩ := un.tbls PT #[] hHP
        exact ⟨_, hok' PT _ z⟩
      have KX' : K.In s'.heap := fun b o e => kept b o (fun z => by rw [z, nT] at e; cases e) (KX b o e)
      obtain ⟨as, hrd⟩ := Dw.reads (R := R) (cl := cl) hok' KX' d0 v u q r'
      refine ⟨u, as, rfl, hrd, ⟨fun b o e => ?_, fun b o e => ?_⟩, os, bare⟩
      · by_cases hbP : b = PT
        · obtain ⟨more, hm⟩ := grown
          rw [hbP] at e ⊢
          rw [hT] at e
          cases e
          exact .inr (.inl ⟨(CH.tab hT).isCodeTable, rfl, #[], more, rfl, by rw [Array.empty_append]; exact hm⟩)
        · exact .inl (kept b o hbP e)
      · by_cases hbP : b = PT
        · obtain ⟨more, hm⟩ := grown
          rw [hbP]
          exact ⟨_, hm⟩
        · exact ⟨o, kept b o hbP e⟩
/-- the row's goal behind the head -/
theorem walk_specT {r : OpenSpec} {k : Nat} {q : Program} {loose : List Str} {XP : (Str → Option Value) → Heap → Prop} {YP : World → Heap → Prop} {d : DefRec} {K : Params → PySem.W.Frag} {ps : List Str} {x : Str} {sp : PySem.W.Frag → Addr → Sp}
    (hwell : r.wellSaid = true) (hdf : d.params.defaults = []) (hlen : r.args.length = ps.length) (hr : Room k callerA)
    (hY : ∀ (w : World) (h : Heap), YP w h → (K w.params).In h) (hrec : ((recsOf q).any fun e => e.name == x) = true)
    (F : ∀ (w : World) (mg : Str → Option Value) (fa : Addr) (h : Heap), YP w h → (K w.params).In h → h.Ns mainGlobals mg → mg d.name = some (.ref fa) →
      ∃ (fd : FuncData) (c PT : Addr), PySem.W.tabIn (K w.params) x = some (c, PT) ∧ (K w.params).lookup PT = none ∧ (∀ (s : Shared) (us : List Value), us.length = ps.length → BindsTo s fd ⟨us, []⟩ (ps.zip us)) ∧
        ∀ base : Heap, (K w.params).In base → base.Ns mainGlobals mg → LamX.TabB base mg c PT → FnOk r.prog w (K w.params) mg base L2.CX0 k fa fd ps (sp (K w.params) PT))
    (hsp : ∀ (K : PySem.W.Frag) (PT : Addr) (H : Hp) (xs : List V) (a : Codec.denoteAll r.args), H PT = some (.tbl #[]) → (∀ b, b ≠ PT → H b = none ∨ ∃ o u, H b = some (.frz o u)) → Codec.withinAll r.args a = true → Codec.app r.args r.asked a = true → DwAll K H xs (Codec.encAll r.args a) →
      sp K PT xs H (fun v H' => Dw K H' v (r.ret.enc (Codec.app r.args r.f a))) fun _ _ _ => False) :
    PySem.W.WalkOS q loose XP YP r d [] (fun f vs => PySem.call f vs) := by
  intro w s₀ s₁ mg mb G Y fa o pm cd doc dV kV ho hd hcd hD hmg hg args vals as hpre hlay hrd hwl hlo
  obtain ⟨a, e1, e2⟩ := PySem.W.os_pre_some hpre
  obtain ⟨e3, hwi⟩ := Codec.encAll_of_decAll r.args args a e1
  subst e3
  have KX := hY w _ Y
  obtain ⟨fd, c, PT, htab, nT, hb, hF⟩ := F w mg fa _ Y KX G.T.g hmg
  obtain ⟨dT, hdT⟩ : ∃ dT, (recsOf q).find? (fun e => e.name == x) = some dT := by
    cases e : (recsOf q).find? (fun e => e.name == x) with
    | some dT => exact ⟨dT, rfl⟩
    | none =>
      obtain ⟨y, hy, hz⟩ := List.any_eq_true.mp hrec
      exact absurd hz (List.find?_eq_none.mp e y hy)
  obtain ⟨CH, hT⟩ := PySem.W.tab_of G.T KX hdT htab
  refine PySem.W.enter_call (codeAny_mono (spec_callT (R := []) (cl := classAt s₀.heap) (d0 := r.ret.enc (Codec.app r.args r.f a)) KX G.T.g G.T.b G.T.builtins G.T.nolimit hg hT nT CH G.T.bmain hwl (pl_encAll _ _) (layable_weight hlay) hr hF hb (by rw [encAll_len]; exact hlen)
    (fun H xs hP hO hS => hsp (K w.params) PT H xs a hP hO hwi e2 hS) fun H e s' z => z) fun r' s' hq => ?_)
  obtain ⟨u, as', rfl, h1, h2, h3, h4⟩ := hq
  exact ⟨.inl ⟨u, _, as', rfl, fun _ => rfl, h1, (OpenSpec.post_iff hwell hwi _ _).mpr rfl, fun z => Bool.noConfusion (show false = true from z)⟩, h2, h3, h4⟩
end EN

/-! ## EN2 -/
set_option Elab.async false
set_option linter.all false
set_option maxRecDepth 100000
set_option maxHeartbeats 2000000
/-! what the top leaves; all defs' promises -/
namespace EN
open PySem PySem.Spec PyProof.Rows L2 SD
section
variable {P : Program} {w : World} {K : PySem.W.Frag} {mg : Str → Option Value} {h : Heap}
theorem mkFn {x : Str} {st : Stmt} {ps : List Str} {f : Addr} {oc : Value} {od an : Option Addr} {osl : Array (Option Value)} {kV doc pm cdv ct : Value} (X : K.In h) (G : h.Ns mainGlobals mg) (a : PySem.W.nsIn K mainGlobals x = some (some (.ref f)))
    (l : K.lookup f = some ⟨oc, od, .func (PySem.W.fnOf x x (defArgs st) (defBody st) (defScope st) .none kV doc pm an cdv ct), osl⟩) (c : PySem.W.codeIn K cdv x = true) (k : PySem.W.keepIn K (.ref f) = true)
    (hb : ∀ (kV doc pm : Value) (an : Option Addr) (cdv ct : Value) (us : List Value), us.length = ps.length → bindArgs (PySem.W.fnOf x x (defArgs st) (defBody st) (defScope st) .none kV doc pm an cdv ct) ⟨us, []⟩ = pure (ps.zip us)) : Fn K mg x st ps :=
  ⟨f, _, fun_mk l c k, PySem.W.mg_of X G a, (fun_mk l c k).binds hb⟩
theorem mkTxt {t0 t1 t2 t3 t4 t5 : Tok} (X : K.In h) (G : h.Ns mainGlobals mg) (b0 : PySem.W.nsIn K mainGlobals "len" = some none) (b1 : PySem.W.nsIn K mainGlobals "range" = some none) (b2 : PySem.W.nsIn K mainGlobals "any" = some none) (b3 : PySem.W.nsIn K mainGlobals "all" = some none) (b4 : PySem.W.nsIn K mainGlobals "sum" = some none)
    (b5 : PySem.W.nsIn K mainGlobals "min" = some none) (b6 : PySem.W.nsIn K mainGlobals "max" = some none) (b7 : PySem.W.nsIn K mainGlobals "sorted" = some none) (b8 : PySem.W.nsIn K mainGlobals "enumerate" = some none)
    (c0 : PySem.W.nsIn K mainGlobals "POINTS" = some (some (.int 0 t0))) (c1 : PySem.W.nsIn K mainGlobals "INTERVALS" = some (some (.int 1 t1))) (c2 : PySem.W.nsIn K mainGlobals "SETS" = some (some (.int 2 t2)))
    (c3 : PySem.W.nsIn K mainGlobals "MOST_OBJECTS" = some (some (.int 4 t3))) (c4 : PySem.W.nsIn K mainGlobals "MOST_STATEMENTS" = some (some (.int 5 t4))) (c5 : PySem.W.nsIn K mainGlobals "MOST_PRICE" = some (some (.int 1000 t5))) : Txt mg :=
  ⟨PySem.W.mg_none_of X G b0, PySem.W.mg_none_of X G b1, PySem.W.mg_none_of X G b2, PySem.W.mg_none_of X G b3, PySem.W.mg_none_of X G b4, PySem.W.mg_none_of X G b5, PySem.W.mg_none_of X G b6, PySem.W.mg_none_of X G b7, PySem.W.mg_none_of X G b8,
    ⟨_, PySem.W.mg_of X G c0, ⟨_, rfl⟩⟩, ⟨_, PySem.W.mg_of X G c1, ⟨_, rfl⟩⟩, ⟨_, PySem.W.mg_of X G c2, ⟨_, rfl⟩⟩, ⟨_, PySem.W.mg_of X G c3, ⟨_, rfl⟩⟩, ⟨_, PySem.W.mg_of X G c4, ⟨_, rfl⟩⟩, ⟨_, PySem.W.mg_of X G c5, ⟨_, rfl⟩⟩⟩
theorem mkOrd {f c PT : Addr} {oc o1 : Value} {od an o2 : Option Addr} {osl sl2 : Array (Option Value)} {kV doc pm ct : Value} {vs : Array Value} (X : K.In h) (G : h.Ns mainGlobals mg) (a : PySem.W.nsIn K mainGlobals "ordered" = some (some (.ref f)))
    (l : K.lookup f = some ⟨oc, od, .func (PySem.W.fnOf "ordered" "ordered" (defArgs (topS 30)) (defBody (topS 30)) (defScope (topS 30)) .none kV doc pm an (.ref c) ct), osl⟩) (cd : PySem.W.codeIn K (.ref c) "ordered" = true) (k : PySem.W.keepIn K (.ref f) = true)
    (lc : K.lookup c = some ⟨o1, o2, .fields vs, sl2⟩) (hv : vs[11]? = some (.ref PT)) (np : PySem.W.typeIn K (.ref PT) = none) : ∃ (c PT : Addr), FnC K mg "ordered" (topS 30) ["parts", "many"] c ∧ PySem.W.tabIn K "ordered" = some (c, PT) ∧ K.lookup PT = none := by
  refine ⟨c, PT, ⟨f, oc, od, kV, doc, pm, an, ct, osl, l, cd, k, PySem.W.mg_of X G a, (fun_mk (st := topS 30) l cd k).binds fun _ _ _ _ _ _ us hl => match us, hl with | [_, _], _ => rfl⟩, ?_, Option.map_eq_none_iff.mp np⟩
  unfold PySem.W.tabIn
  rw [a]
  simp only []
  rw [l]
  simp only [PySem.W.fnOf]
  rw [lc]
  simp only []
  rw [hv]
theorem mkAns {f : Addr} {oc : Value} {od an : Option Addr} {osl : Array (Option Value)} {kV doc pm cdv ct : Value} (X : K.In h) (G : h.Ns mainGlobals mg) (a : PySem.W.nsIn K mainGlobals "answers" = some (some (.ref f)))
    (l : K.lookup f = some ⟨oc, od, .func (PySem.W.fnOf "answers" "answers" (defArgs (topS 63)) (defBody (topS 63)) (defScope (topS 63)) .none kV doc pm an cdv ct), osl⟩) (c : PySem.W.codeIn K cdv "answers" = true) (k : PySem.W.keepIn K (.ref f) = true) :
    ∃ (f : Addr) (fd : FuncData), Fun K "answers" "answers" (topS 63) f fd ∧ mg "answers" = some (.ref f) := ⟨f, _, fun_mk l c k, PySem.W.mg_of X G a⟩
theorem mkDesk {C : Addr} (X : K.In h) (G : h.Ns mainGlobals mg) (a : PySem.W.nsIn K mainGlobals "Desk" = some (some (.ref C))) (pg : PySem.W.plainGet K C Str.empty = true) (hd : PySem.W.hasDictIn K C = true) (po : PySem.W.plainOver K C = true) (sa : PySem.W.findIn K (.ref C) "__setattr__" = some (some (.builtin "object.__setattr__")))
    (nk : PySem.W.findIn K (.ref C) "kind" = some none) (nm : PySem.W.findIn K (.ref C) "many" = some none) (ns : PySem.W.findIn K (.ref C) "statements" = some none) (np : PySem.W.findIn K (.ref C) "prices" = some none) (mk : PySem.W.makesIn K C = true) (kc : PySem.W.keepIn K (.ref C) = true) :
    ∃ C : Addr, DeskTxt K C ∧ mg "Desk" = some (.ref C) ∧ PySem.W.makesIn K C = true ∧ PySem.W.keepIn K (.ref C) = true := ⟨C, ⟨⟨pg, hd, po, sa⟩, nk, nm, ns, np⟩, PySem.W.mg_of X G a, mk, kc⟩
theorem mkInit {C fI : Addr} {oc : Value} {od an : Option Addr} {osl : Array (Option Value)} {kV doc pm cdv ct : Value} (X : K.In h) (G : h.Ns mainGlobals mg) (a : PySem.W.nsIn K mainGlobals "Desk" = some (some (.ref C))) (i : PySem.W.findIn K (.ref C) "__init__" = some (some (.ref fI))) (fi : PySem.W.isFn K (.ref fI) = true)
    (l : K.lookup fI = some ⟨oc, od, .func (PySem.W.fnOf "__init__" "Desk.__init__" (defArgs PC.sInit) (defBody PC.sInit) (defScope PC.sInit) .none kV doc pm an cdv ct), osl⟩) (c : PySem.W.codeIn K cdv "Desk.__init__" = true) (k : PySem.W.keepIn K (.ref fI) = true) :
    ∃ (C fI : Addr) (fdI : FuncData), mg "Desk" = some (.ref C) ∧ PySem.W.findIn K (.ref C) "__init__" = some (some (.ref fI)) ∧ PySem.W.isFn K (.ref fI) = true ∧ Fun K "__init__" "Desk.__init__" PC.sInit fI fdI := ⟨C, fI, _, PySem.W.mg_of X G a, i, fi, fun_mk l c k⟩
theorem mkRef {C f1 : Addr} {nm q : Str} {N : Addr} {bs : List Value} {sn : List Str} {sub : List Value} {ab : Bool} {col : Option Bool} {dd : Option Addr} {m0 m1 m2 m3 m5 : Option Value} {od1 an1 : Option Addr} {sl1 : Array (Option Value)} {oc1 dc1 pm1 cd1 ct1 : Value} (X : K.In h) (G : h.Ns mainGlobals mg)
    (aC : PySem.W.nsIn K mainGlobals "Refused" = some (some (.ref C)))
    (xL : K.lookup C = some (excClassObj nm q C N bs [.type "ValueError", .type "Exception", .type "BaseException", .type "object"] true sn sub ab col dd m0 m1 m2 m3 m5 "ValueError.__new__"))
    (sa : PySem.W.findIn K (.ref C) "__setattr__" = some (some (.builtin "object.__setattr__"))) (ga : PySem.W.findIn K (.ref C) "__getattribute__" = some (some (.builtin "BaseException.__getattribute__"))) (gg : PySem.W.findIn K (.ref C) "__getattr__" = some none) (nb : PySem.W.findIn K (.ref C) "number" = some none)
    (a1 : PySem.W.findIn K (.ref C) "__init__" = some (some (.ref f1))) (t1 : PySem.W.typeIn K (.ref f1) = some (.type "function"))
    (l1 : K.lookup f1 = some ⟨oc1, od1, .func (PySem.W.fnOf "__init__" "Refused.__init__" (PySem.RefX.iA ⟨156, 17, 156, 21⟩ ⟨156, 23, 156, 29⟩) (PySem.RefX.iB ⟨157, 8, 157, 12⟩ ⟨157, 8, 157, 19⟩ ⟨157, 22, 157, 28⟩ ⟨157, 8, 157, 28⟩) PySem.RefX.iS .none .none dc1 pm1 an1 cd1 ct1), sl1⟩) (c1 : PySem.W.codeIn K cd1 "Refused.__init__" = true)
    (kC : PySem.W.keepIn K (.ref C) = true) (eC : PySem.W.subIn K (.ref C) (.type "BaseException") = some true) (tC : PySem.W.typeIn K (.ref C) = some (.type "type")) (hC : PySem.W.hasDictIn K C = true) (iC : PySem.W.isClsIn K C = true) (sC : PySem.W.subIn K (.ref C) (.ref C) = some true) : ∃ (CE fE : Addr), PySem.RefX.RefTxt K mg CE fE :=
  ⟨C, f1, { gC := PySem.W.mg_of X G aC, cls := ⟨nm, q, N, bs, _, sn, sub, ab, col, dd, m0, m1, m2, m3, m5, xL, by decide +kernel⟩, sa := sa, ga := ga, gg := gg, noN := nb, iC := a1, tC := t1, kC := kC, exC := eC, tyC := tC, hdC := hC, te := exm_self eC iC tC sC, fn := ⟨_, _, _, _, _, _, _, _, _, _, _, _, _, _, l1, c1⟩ }⟩
theorem mkConst {x : Str} {c : Addr} {xs : List V} {od : Option Addr} {its : Array Value} {n : Nat} {sl : Array (Option Value)} (X : K.In h) (G : h.Ns mainGlobals mg) (a : PySem.W.nsIn K mainGlobals x = some (some (.ref c))) (l : K.lookup c = some ⟨.type "tuple", od, .seq its n, sl⟩) (z : its.size ≤ sizeLine) (v : Vals xs its.toList) : ∃ c : Addr, ConstT K mg x c xs :=
  ⟨c, ⟨_, PySem.W.mg_of X G a, rfl⟩, fun _ => .inr ⟨_, its, n, l, rfl, rfl, z, v⟩⟩
theorem mkDeeds {c d0 d1 d2 d3 d4 d5 d6 d7 d8 : Addr} {od : Option Addr} {its : Array Value} {n : Nat} {sl : Array (Option Value)} (X : K.In h) (G : h.Ns mainGlobals mg) (a : PySem.W.nsIn K mainGlobals "DEEDS" = some (some (.ref c))) (l : K.lookup c = some ⟨.type "tuple", od, .seq its n, sl⟩) (z : its.size ≤ sizeLine) (v : Vals ([d0, d1, d2, d3, d4, d5, d6, d7, d8].map V.ref) its.toList)
    (m0 : PySem.W.nsIn K mainGlobals "begins" = some (some (.ref d0))) (m1 : PySem.W.nsIn K mainGlobals "told" = some (some (.ref d1))) (m2 : PySem.W.nsIn K mainGlobals "drop" = some (some (.ref d2))) (m3 : PySem.W.nsIn K mainGlobals "clashes" = some (some (.ref d3))) (m4 : PySem.W.nsIn K mainGlobals "all_cures" = some (some (.ref d4)))
    (m5 : PySem.W.nsIn K mainGlobals "cheapest" = some (some (.ref d5))) (m6 : PySem.W.nsIn K mainGlobals "follows" = some (some (.ref d6))) (m7 : PySem.W.nsIn K mainGlobals "all_reasons" = some (some (.ref d7))) (m8 : PySem.W.nsIn K mainGlobals "mend" = some (some (.ref d8))) :
    ∃ (c d0 d1 d2 d3 d4 d5 d6 d7 d8 : Addr), ConstT K mg "DEEDS" c ([d0, d1, d2, d3, d4, d5, d6, d7, d8].map V.ref) ∧ mg "begins" = some (.ref d0) ∧ mg "told" = some (.ref d1) ∧ mg "drop" = some (.ref d2) ∧ mg "clashes" = some (.ref d3) ∧ mg "all_cures" = some (.ref d4) ∧ mg "cheapest" = some (.ref d5) ∧ mg "follows" = some (.ref d6) ∧ mg "all_reasons" = some (.ref d7) ∧ mg "mend" = some (.ref d8) :=
  ⟨c, d0, d1, d2, d3, d4, d5, d6, d7, d8, ⟨⟨_, PySem.W.mg_of X G a, rfl⟩, fun _ => .inr ⟨_, its, n, l, rfl, rfl, z, v⟩⟩, PySem.W.mg_of X G m0, PySem.W.mg_of X G m1, PySem.W.mg_of X G m2, PySem.W.mg_of X G m3, PySem.W.mg_of X G m4, PySem.W.mg_of X G m5, PySem.W.mg_of X G m6, PySem.W.mg_of X G m7, PySem.W.mg_of X G m8⟩
end
structure Facts (K : PySem.W.Frag) (mg : Str → Option Value) : Prop where
  f_raised : Fn K mg "raised" (topS 5) ["ranks", "least"]
  f_with_rank : Fn K mg "with_rank" (topS 6) ["ranks", "place"]
  f_many_ranks : Fn K mg "many_ranks" (topS 7) ["ranks"]
  f_longer_orders : Fn K mg "longer_orders" (topS 8) ["ranks"]
  f_orders : Fn K mg "orders" (topS 9) ["many"]
  f_with_interval : Fn K mg "with_interval" (topS 10) ["ranks"]
  f_interval_orders : Fn K mg "interval_orders" (topS 11) ["many"]
  f_holders : Fn K mg "holders" (topS 12) ["many", "one"]
  f_venn : Fn K mg "venn" (topS 13) ["many"]
  f_worlds : Fn K mg "worlds" (topS 14) ["kind", "many"]
  f_compared : Fn K mg "compared" (topS 16) ["one", "other"]
  f_interval_inner : Fn K mg "interval_inner" (topS 17) ["start", "end", "other", "last"]
  f_interval_relation : Fn K mg "interval_relation" (topS 18) ["start", "end", "other", "last"]
  f_set_relation : Fn K mg "set_relation" (topS 19) ["regions", "mine", "theirs"]
  f_relation_in : Fn K mg "relation_in" (topS 20) ["kind", "many", "world", "one", "other"]
  f_set_reader : Fn K mg "set_reader" (topS 22) ["many", "one", "other"]
  f_holds_in : Fn K mg "holds_in" (topS 23) ["kind", "many", "world", "statement"]
  f_set_masks : Fn K mg "set_masks" (topS 24) ["many", "statements"]
  f_masks : Fn K mg "masks" (topS 25) ["kind", "many", "statements"]
  f_is_within : Fn K mg "is_within" (topS 26) ["part", "whole"]
  f_is_consistent : Fn K mg "is_consistent" (topS 27) ["known", "part"]
  f_numbers_of : Fn K mg "numbers_of" (topS 28) ["part", "many"]
  f_minimal : Fn K mg "minimal" (topS 29) ["parts"]
  f_conflicts : Fn K mg "conflicts" (topS 31) ["known", "many"]
  f_cures : Fn K mg "cures" (topS 32) ["known", "many"]
  f_does_imply : Fn K mg "does_imply" (topS 33) ["known", "part", "many"]
  f_reasons : Fn K mg "reasons" (topS 34) ["known", "many"]
  f_demand : Fn K mg "demand" (topS 37) ["is_good", "number"]
  f_is_statement : Fn K mg "is_statement" (topS 43) ["desk", "one", "other", "relations"]
  f_known_of : Fn K mg "known_of" (topS 44) ["desk", "others"]
  f_listed : Fn K mg "listed" (topS 45) ["rows"]
  f_begins : Fn K mg "begins" (topS 46) ["desk", "numbers"]
  f_told : Fn K mg "told" (topS 47) ["desk", "numbers"]
  f_without : Fn K mg "without" (topS 48) ["row", "gone"]
  f_remove : Fn K mg "remove" (topS 49) ["desk", "gone"]
  f_drop : Fn K mg "drop" (topS 50) ["desk", "numbers"]
  f_clashes : Fn K mg "clashes" (topS 51) ["desk", "numbers"]
  f_all_cures : Fn K mg "all_cures" (topS 52) ["desk", "numbers"]
  f_cheapest_of : Fn K mg "cheapest_of" (topS 53) ["desk"]
  f_cheapest : Fn K mg "cheapest" (topS 54) ["desk", "numbers"]
  f_asked_of : Fn K mg "asked_of" (topS 55) ["desk", "numbers"]
  f_follows : Fn K mg "follows" (topS 56) ["desk", "numbers"]
  f_all_reasons : Fn K mg "all_reasons" (topS 57) ["desk", "numbers"]
  f_mend : Fn K mg "mend" (topS 58) ["desk", "numbers"]
  f_answer : Fn K mg "answer" (topS 62) ["desk", "call", "numbers"]
  txt : Txt mg
  ord : ∃ (c PT : Addr), FnC K mg "ordered" (topS 30) ["parts", "many"] c ∧ PySem.W.tabIn K "ordered" = some (c, PT) ∧ K.lookup PT = none
  ans : ∃ (f : Addr) (fd : FuncData), Fun K "answers" "answers" (topS 63) f fd ∧ mg "answers" = some (.ref f)
  dsk : ∃ C : Addr, DeskTxt K C ∧ mg "Desk" = some (.ref C) ∧ PySem.W.makesIn K C = true ∧ PySem.W.keepIn K (.ref C) = true
  ini : ∃ (C fI : Addr) (fdI : FuncData), mg "Desk" = some (.ref C) ∧ PySem.W.findIn K (.ref C) "__init__" = some (some (.ref fI)) ∧ PySem.W.isFn K (.ref fI) = true ∧ Fun K "__init__" "Desk.__init__" PC.sInit fI fdI
  ref : ∃ (CE fE : Addr), PySem.RefX.RefTxt K mg CE fE
  rel : ∃ c : Addr, ConstT K mg "RELATIONS" c PC.relV
  num : ∃ c : Addr, ConstT K mg "NUMBERS" c PC.numV
  dee : ∃ (c d0 d1 d2 d3 d4 d5 d6 d7 d8 : Addr), ConstT K mg "DEEDS" c ([d0, d1, d2, d3, d4, d5, d6, d7, d8].map V.ref) ∧ mg "begins" = some (.ref d0) ∧ mg "told" = some (.ref d1) ∧ mg "drop" = some (.ref d2) ∧ mg "clashes" = some (.ref d3) ∧ mg "all_cures" = some (.ref d4) ∧ mg "cheapest" = some (.ref d5) ∧ mg "follows" = some (.ref d6) ∧ mg "all_reasons" = some (.ref d7) ∧ mg "mend" = some (.ref d8)
/-- the row's def promises -/
def spRow (K : PySem.W.Frag) (PT : Addr) : Sp := spAnswers [(PT, RS.lamQ)] K
theorem nine_of {P : Program} {w : World} {K : PySem.W.Frag} {mg : Str → Option Value} {base : Heap} {T : List (Addr × Str)} {C CE d0 d1 d2 d3 d4 d5 d6 d7 d8 : Addr} (h0 : HeldX P w K mg base 12 d0 (PC.deedSp T C CE 0)) (h1 : HeldX P w K mg base 12 d1 (PC.deedSp T C CE 1)) (h2 : HeldX P w K mg base 12 d2 (PC.deedSp T C CE 2)) (h3 : HeldX P w K mg base 12 d3 (PC.deedSp T C CE 3)) (h4 : HeldX P w K mg base 12 d4 (PC.deedSp T C CE 4))
    (h5 : HeldX P w K mg base 12 d5 (PC.deedSp T C CE 5)) (h6 : HeldX P w K mg base 12 d6 (PC.deedSp T C CE 6)) (h7 : HeldX P w K mg base 12 d7 (PC.deedSp T C CE 7)) (h8 : HeldX P w K mg base 12 d8 (PC.deedSp T C CE 8)) : PC.Nine P w K mg base T C CE [d0, d1, d2, d3, d4, d5, d6, d7, d8] := by
  refine ⟨rfl, fun c f hc => ?_⟩
  have hl := (List.getElem?_eq_some_iff.mp hc).1
  have hl : c < 9 := hl
  have h9 : c = 0 ∨ c = 1 ∨ c = 2 ∨ c = 3 ∨ c = 4 ∨ c = 5 ∨ c = 6 ∨ c = 7 ∨ c = 8 := by omega
  rcases h9 with rfl | rfl | rfl | rfl | rfl | rfl | rfl | rfl | rfl <;> (cases hc; assumption)
theorem all_of {P : Program} {w : World} {K : PySem.W.Frag} {h : Heap} {mg : Str → Option Value} {fa : Addr} (X : K.In h) (G : h.Ns mainGlobals mg) (hfa : mg "answers" = some (.ref fa)) (S : Facts K mg) :
    ∃ (fd : FuncData) (c PT : Addr), PySem.W.tabIn K "ordered" = some (c, PT) ∧ K.lookup PT = none ∧ (∀ (s : Shared) (us : List Value), us.length = (["calls"] : List Str).length → BindsTo s fd ⟨us, []⟩ ((["calls"] : List Str).zip us)) ∧
      ∀ base : Heap, K.In base → base.Ns mainGlobals mg → LamX.TabB base mg c PT → FnOk P w K mg base L2.CX0 15 fa fd ["calls"] (spRow K PT) := by
  obtain ⟨c, PT, OD, htab, nT⟩ := S.ord
  obtain ⟨f, fd, FA, hf⟩ := S.ans
  have e := hfa.symm.trans hf
  cases e
  obtain ⟨C, DT, gC, mk, kc⟩ := S.dsk
  obtain ⟨C', fI, fdI, gC', iI, fnI, FI⟩ := S.ini
  have e := gC.symm.trans gC'
  cases e
  obtain ⟨CE, fE, RT⟩ := S.ref
  obtain ⟨cR, R⟩ := S.rel
  obtain ⟨cN, NB⟩ := S.num
  obtain ⟨cD, d0, d1, d2, d3, d4, d5, d6, d7, d8, DS, g0, g1, g2, g3, g4, g5, g6, g7, g8⟩ := S.dee
  refine ⟨fd, c, PT, htab, nT, ?_, fun base _ _ TB => ?_⟩
  · obtain ⟨oc, od, kV, doc, pm, an, cdv, ct, osl, rfl, lk, hcd⟩ := FA.ex
    exact fun s us hu => match us, hu with | [_], _ => .of_eq rfl
  generalize hT : [(PT, RS.lamQ)] = T
  have hm : (PT, RS.lamQ) ∈ T := by rw [← hT]; exact List.mem_cons_self ..
  have hu : ∀ p ∈ T, p.1 = PT → p.2 = RS.lamQ := fun p hp _ => by
    rw [← hT] at hp
    rcases List.mem_cons.mp hp with rfl | hp
    · rfl
    · cases hp
  have C_raised : Cal P w K mg base L2.CX0 1 "raised" (PC.sp_raised T) := PC.c_raised S.f_raised S.txt
  have C_with_rank : Cal P w K mg base L2.CX0 2 "with_rank" (PC.sp_with_rank T) := PC.c_with_rank S.f_with_rank S.txt C_raised
  have C_many_ranks : Cal P w K mg base L2.CX0 1 "many_ranks" (PC.sp_many_ranks T) := PC.c_many_ranks S.f_many_ranks S.txt
  have C_longer_orders : Cal P w K mg base L2.CX0 3 "longer_orders" (PC.sp_longer_orders T) := PC.c_longer_orders S.f_longer_orders S.txt C_with_rank C_many_ranks
  have C_orders : Cal P w K mg base L2.CX0 4 "orders" (PC.sp_orders T) := PC.c_orders S.f_orders S.txt C_longer_orders
  have C_with_interval : Cal P w K mg base L2.CX0 4 "with_interval" (PC.sp_with_interval T) := PC.c_with_interval S.f_with_interval S.txt C_longer_orders
  have C_interval_orders : Cal P w K mg base L2.CX0 5 "interval_orders" (PC.sp_interval_orders T) := PC.c_interval_orders S.f_interval_orders S.txt C_with_interval
  have C_holders : Cal P w K mg base L2.CX0 1 "holders" (PC.sp_holders T) := PC.c_holders S.f_holders S.txt
  have C_venn : Cal P w K mg base L2.CX0 2 "venn" (PC.sp_venn T) := PC.c_venn S.f_venn S.txt C_holders
  have C_worlds : Cal P w K mg base L2.CX0 6 "worlds" (PC.sp_worlds T) := PC.c_worlds S.f_worlds S.txt C_orders C_interval_orders C_venn
  have C_compared : Cal P w K mg base L2.CX0 1 "compared" (PC.sp_compared T) := PC.c_compared S.f_compared S.txt
  have C_interval_inner : Cal P w K mg base L2.CX0 2 "interval_inner" (PC.sp_interval_inner T) := PC.c_interval_inner S.f_interval_inner S.txt C_compared
  have C_interval_relation : Cal P w K mg base L2.CX0 3 "interval_relation" (PC.sp_interval_relation T) := PC.c_interval_relation S.f_interval_relation S.txt C_interval_inner
  have C_set_relation : Cal P w K mg base L2.CX0 1 "set_relation" (PC.sp_set_relation T) := PC.c_set_relation S.f_set_relation S.txt
  have C_relation_in : Cal P w K mg base L2.CX0 5 "relation_in" (PC.sp_relation_in T) := PC.c_relation_in S.f_relation_in S.txt C_compared C_interval_relation C_set_relation C_holders
  have C_set_reader : Cal P w K mg base L2.CX0 2 "set_reader" (PC.sp_set_reader T) := PC.c_set_reader S.f_set_reader S.txt C_holders
  have C_holds_in : Cal P w K mg base L2.CX0 6 "holds_in" (PC.sp_holds_in T) := PC.c_holds_in S.f_holds_in S.txt C_relation_in
  have C_set_masks : Cal P w K mg base L2.CX0 7 "set_masks" (PC.sp_set_masks T) := PC.c_set_masks S.f_set_masks S.txt C_set_reader C_worlds C_set_relation
  have C_masks : Cal P w K mg base L2.CX0 8 "masks" (PC.sp_masks T) := PC.c_masks S.f_masks S.txt C_set_masks C_worlds C_holds_in
  have C_is_within : Cal P w K mg base L2.CX0 1 "is_within" (PC.sp_is_within T) := PC.c_is_within S.f_is_within S.txt
  have C_is_consistent : Cal P w K mg base L2.CX0 2 "is_consistent" (PC.sp_is_consistent T) := PC.c_is_consistent S.f_is_consistent S.txt C_is_within
  have C_numbers_of : Cal P w K mg base L2.CX0 1 "numbers_of" (PC.sp_numbers_of T) := PC.c_numbers_of S.f_numbers_of S.txt
  have C_minimal : Cal P w K mg base L2.CX0 2 "minimal" (PC.sp_minimal T) := PC.c_minimal S.f_minimal S.txt C_is_within
  have C_ordered : Cal P w K mg base L2.CX0 4 "ordered" (PC.sp_ordered T) := PC.c_ordered OD S.txt TB hm hu C_numbers_of
  have C_conflicts : Cal P w K mg base L2.CX0 5 "conflicts" (PC.sp_conflicts T) := PC.c_conflicts S.f_conflicts S.txt C_is_consistent C_minimal C_ordered
  have C_cures : Cal P w K mg base L2.CX0 5 "cures" (PC.sp_cures T) := PC.c_cures S.f_cures S.txt C_is_consistent C_minimal C_ordered
  have C_does_imply : Cal P w K mg base L2.CX0 2 "does_imply" (PC.sp_does_imply T) := PC.c_does_imply S.f_does_imply S.txt C_is_within
  have C_reasons : Cal P w K mg base L2.CX0 5 "reasons" (PC.sp_reasons T) := PC.c_reasons S.f_reasons S.txt C_does_imply C_minimal C_ordered
  have C_demand : CalX P w K mg base 3 "demand" (spDemand CE) := PC.c_demand S.f_demand S.txt RT
  have C_is_statement : Cal P w K mg base L2.CX0 1 "is_statement" (PC.sp_is_statement T C) := PC.c_is_statement S.f_is_statement S.txt DT R
  have C_known_of : Cal P w K mg base L2.CX0 9 "known_of" (PC.sp_known_of T C) := PC.c_known_of S.f_known_of S.txt DT C_masks
  have C_listed : Cal P w K mg base L2.CX0 1 "listed" (PC.sp_listed T) := PC.c_listed S.f_listed S.txt
  have C_without : Cal P w K mg base L2.CX0 1 "without" (PC.sp_without T) := PC.c_without S.f_without S.txt
  have C_remove : Cal P w K mg base L2.CX0 2 "remove" (spRem T C) := PC.c_remove S.f_remove S.txt DT C_without
  have C_cheapest_of : Cal P w K mg base L2.CX0 10 "cheapest_of" (PC.sp_cheapest_of T C) := PC.c_cheapest_of S.f_cheapest_of S.txt DT C_cures C_known_of
  have C_asked_of : CalX P w K mg base 4 "asked_of" (spAsk T C CE) := PC.c_asked_of S.f_asked_of S.txt C_demand C_is_statement
  have C_begins : CalX P w K mg base 12 "begins" (PC.deed T C CE 2 SC.dBegins) := PC.c_begins S.f_begins S.txt DT R C_demand
  have C_told : CalX P w K mg base 12 "told" (PC.deed T C CE 4 SC.dTold) := PC.c_told S.f_told S.txt DT C_demand C_is_statement
  have C_drop : CalX P w K mg base 12 "drop" (PC.deed T C CE 1 SC.dDrop) := PC.c_drop S.f_drop S.txt DT C_demand C_remove
  have C_clashes : CalX P w K mg base 12 "clashes" (PC.deed T C CE 0 SC.dClashes) := PC.c_clashes S.f_clashes S.txt DT C_known_of C_conflicts C_listed
  have C_all_cures : CalX P w K mg base 12 "all_cures" (PC.deed T C CE 0 SC.dCures) := PC.c_all_cures S.f_all_cures S.txt DT C_known_of C_cures C_listed
  have C_cheapest : CalX P w K mg base 12 "cheapest" (PC.deed T C CE 0 SC.dCheapest) := PC.c_cheapest S.f_cheapest S.txt DT C_cheapest_of
  have C_follows : CalX P w K mg base 12 "follows" (PC.deed T C CE 3 SC.dFollows) := PC.c_follows S.f_follows S.txt DT C_known_of C_asked_of C_does_imply
  have C_all_reasons : CalX P w K mg base 12 "all_reasons" (PC.deed T C CE 3 SC.dReasons) := PC.c_all_reasons S.f_all_reasons S.txt DT C_known_of C_asked_of C_reasons C_listed
  have C_mend : CalX P w K mg base 12 "mend" (PC.deed T C CE 0 SC.dMend) := PC.c_mend S.f_mend S.txt DT C_cheapest_of C_remove
  have N : PC.Nine P w K mg base T C CE [d0, d1, d2, d3, d4, d5, d6, d7, d8] := nine_of (C_begins.held g0) (C_told.held g1) (C_drop.held g2) (C_clashes.held g3) (C_all_cures.held g4) (C_cheapest.held g5) (C_follows.held g6) (C_all_reasons.held g7) (C_mend.held g8)
  have C_answer : Cal P w K mg base L2.CX0 14 "answer" (spAnswer T C) := PC.c_answer S.f_answer S.txt RT DS N
  have bI : Binds K fdI ["self"] [] := FI.binds fun _ _ _ _ _ _ us hl => match us, hl with | [_], _ => rfl
  have GI : FnOk P w K mg base L2.CX0 1 fI fdI ["self"] (spInit T C) := PC.ok_init FI DT
  have := PC.ok_answers (T := T) (base := base) (P := P) (w := w) FA S.txt DT ⟨mk, iI, fnI, kc⟩ GI bI gC NB C_answer
  subst hT
  exact this
end EN

/-! ## MB1 -/
set_option Elab.async false
set_option linter.all false
set_option maxHeartbeats 4000000
namespace SC
/-! points, intervals, positions: facts hold together iff some world has them -/
theorem cmp_cases (a b : Nat) : (a < b ∧ cmp a b = 0) ∨ (a = b ∧ cmp a b = 1) ∨ (b < a ∧ cmp a b = 2) := by
  rcases Nat.lt_trichotomy a b with h | h | h
  · exact .inl ⟨h, cmp_lt.mpr h⟩
  · exact .inr (.inl ⟨h, cmp_eq.mpr h⟩)
  · exact .inr (.inr ⟨h, cmp_gt.mpr h⟩)
theorem sat_app {a b : List Qr.Edge} {v : Nat → Nat} : Sat (a ++ b) v ↔ Sat a v ∧ Sat b v := by
  unfold Sat
  simp only [List.mem_append]
  constructor
  · intro h
    exact ⟨fun e he => h e (.inl he), fun e he => h e (.inr he)⟩
  · rintro ⟨h1, h2⟩ e (he | he)
    · exact h1 e he
    · exact h2 e he
theorem sat_edges {L : List Qr.Comp} {v : Nat → Nat} (h3 : ∀ c ∈ L, c.c < 3) : Sat (Qr.edges L) v ↔ ∀ c ∈ L, cmp (v c.i) (v c.j) = c.c := by
  unfold Sat Qr.edges
  simp only [List.mem_flatMap]
  constructor
  · intro h c hc
    have hc3 := h3 c hc
    have hh := fun e he => h e ⟨c, hc, he⟩
    by_cases h0 : c.c = 0
    · rw [if_pos h0] at hh
      have := hh _ (List.mem_cons_self ..)
      rw [h0, cmp_lt]
      simp [stp] at this
      omega
    · rw [if_neg h0] at hh
      by_cases h2 : c.c = 2
      · rw [if_pos h2] at hh
        have := hh _ (List.mem_cons_self ..)
        rw [h2, cmp_gt]
        simp [stp] at this
        omega
      · rw [if_neg h2] at hh
        have a1 := hh _ (List.mem_cons_self ..)
        have a2 := hh _ (List.mem_cons_of_mem _ (List.mem_cons_self ..))
        rw [show c.c = 1 by omega, cmp_eq]
        simp [stp] at a1 a2
        omega
  · rintro h e ⟨c, hc, he⟩
    have hcc := h c hc
    have hc3 := h3 c hc
    by_cases h0 : c.c = 0
    · rw [if_pos h0] at he
      rw [h0, cmp_lt] at hcc
      rcases List.mem_cons.mp he with rfl | he
      · simp [stp]; omega
      · cases he
    · rw [if_neg h0] at he
      by_cases h2 : c.c = 2
      · rw [if_pos h2] at he
        rw [h2, cmp_gt] at hcc
        rcases List.mem_cons.mp he with rfl | he
        · simp [stp]; omega
        · cases he
      · rw [if_neg h2] at he
        rw [show c.c = 1 by omega, cmp_eq] at hcc
        rcases List.mem_cons.mp he with rfl | he
        · simp [stp]; omega
        · rcases List.mem_cons.mp he with rfl | he
          · simp [stp]; omega
          · cases he
theorem mem_edges {L : List Qr.Comp} {e : Qr.Edge} (h : e ∈ Qr.edges L) : ∃ c ∈ L, (e.i = c.i ∧ e.j = c.j) ∨ (e.i = c.j ∧ e.j = c.i) := by
  unfold Qr.edges at h
  obtain ⟨c, hc, he⟩ := List.mem_flatMap.mp h
  refine ⟨c, hc, ?_⟩
  split at he
  · rcases List.mem_cons.mp he with rfl | he
    · exact .inl ⟨rfl, rfl⟩
    · cases he
  · split at he
    · rcases List.mem_cons.mp he with rfl | he
      · exact .inr ⟨rfl, rfl⟩
      · cases he
    · rcases List.mem_cons.mp he with rfl | he
      · exact .inl ⟨rfl, rfl⟩
      · rcases List.mem_cons.mp he with rfl | he
        · exact .inr ⟨rfl, rfl⟩
        · cases he
theorem spans_lt (r : Nat) : ∀ c ∈ Qr.spans r, c.i < 4 ∧ c.j < 4 ∧ c.c < 3 := by
  unfold Qr.spans
  split <;> simp
def FOk (k n : Nat) (F : List Qr.Fact) : Prop := ∀ f ∈ F, f.i < n ∧ f.j < n ∧ f.r < Qr.size k
/-! points -/
theorem told0 {n : Nat} {F : List Qr.Fact} (hF : FOk 0 n F) (v : Nat → Nat) : Sat (Qr.told 0 n F) v ↔ ∀ f ∈ F, cmp (v f.i) (v f.j) = f.r := by
  unfold Qr.told
  rw [if_neg (by decide), List.append_nil, sat_edges]
  · simp only [List.mem_flatMap]
    constructor
    · intro h f hf
      exact h ⟨f.i, f.j, f.r⟩ ⟨f, hf, by simp [Qr.comps]⟩
    · rintro h c ⟨f, hf, hc⟩
      simp [Qr.comps] at hc
      subst hc
      exact h f hf
  · intro c hc
    obtain ⟨f, hf, hc⟩ := List.mem_flatMap.mp hc
    simp [Qr.comps] at hc
    subst hc
    exact (hF f hf).2.2
theorem bound0 {n : Nat} {F : List Qr.Fact} (hF : FOk 0 n F) : ∀ e ∈ Qr.told 0 n F, e.i < n * Qr.marks 0 ∧ e.j < n * Qr.marks 0 := by
  intro e he
  unfold Qr.told at he
  rw [if_neg (by decide), List.append_nil] at he
  obtain ⟨c, hc, h⟩ := mem_edges he
  obtain ⟨f, hf, hc⟩ := List.mem_flatMap.mp hc
  simp [Qr.comps] at hc
  subst hc
  have := hF f hf
  simp [Qr.marks]
  rcases h with ⟨h1, h2⟩ | ⟨h1, h2⟩ <;> simp only [] at h1 h2 <;> omega
theorem can0 {n : Nat} {F : List Qr.Fact} (hF : FOk 0 n F) : Qr.can 0 n F = true ↔ ∃ w ∈ worlds 0 n, ∀ f ∈ F, relIn 0 n w f.i f.j = f.r := by
  show (Qr.heights 0 n F).isSome = true ↔ _
  rw [heights_iff (bound0 hF)]
  show _ ↔ ∃ w ∈ (orders n).map Wd.ranks, _
  constructor
  · rintro ⟨v, hv⟩
    rw [told0 hF] at hv
    obtain ⟨w, hw, hl, hc⟩ := orders_all v n
    refine ⟨_, List.mem_map.mpr ⟨w, hw, rfl⟩, fun f hf => ?_⟩
    show cmp (w.getD f.i 0) (w.getD f.j 0) = f.r
    rw [hc _ _ (hF f hf).1 (hF f hf).2.1]
    exact hv f hf
  · rintro ⟨w, hw, h⟩
    obtain ⟨l, hl, rfl⟩ := List.mem_map.mp hw
    exact ⟨fun c => l.getD c 0, (told0 hF _).mpr h⟩
/-! positions -/
theorem told3 {n : Nat} {F : List Qr.Fact} (hF : FOk 3 n F) (v : Nat → Nat) : Sat (Qr.told 3 n F) v ↔ ∀ f ∈ F, cmp (v (2 * f.i)) (v (2 * f.j)) = f.r / 3 ∧ cmp (v (2 * f.i + 1)) (v (2 * f.j + 1)) = f.r % 3 := by
  unfold Qr.told
  rw [if_neg (by decide), List.append_nil, sat_edges]
  · simp only [List.mem_flatMap]
    constructor
    · intro h f hf
      exact ⟨h ⟨2 * f.i, 2 * f.j, f.r / 3⟩ ⟨f, hf, by simp [Qr.comps]⟩, h ⟨2 * f.i + 1, 2 * f.j + 1, f.r % 3⟩ ⟨f, hf, by simp [Qr.comps]⟩⟩
    · rintro h c ⟨f, hf, hc⟩
      simp [Qr.comps] at hc
      rcases hc with rfl | rfl
      · exact (h f hf).1
      · exact (h f hf).2
  · intro c hc
    obtain ⟨f, hf, hc⟩ := List.mem_flatMap.mp hc
    have := (hF f hf).2.2
    have h9 : Qr.size 3 = 9 := rfl
    simp [Qr.comps] at hc
    rcases hc with rfl | rfl <;> simp only [] <;> omega
theorem bound3 {n : Nat} {F : List Qr.Fact} (hF : FOk 3 n F) : ∀ e ∈ Qr.told 3 n F, e.i < n * Qr.marks 3 ∧ e.j < n * Qr.marks 3 := by
  intro e he
  unfold Qr.told at he
  rw [if_neg (by decide), List.append_nil] at he
  obtain ⟨c, hc, h⟩ := mem_edges he
  obtain ⟨f, hf, hc⟩ := List.mem_flatMap.mp hc
  have := hF f hf
  simp [Qr.comps] at hc
  simp [Qr.marks]
  rcases hc with rfl | rfl <;> rcases h with ⟨h1, h2⟩ | ⟨h1, h2⟩ <;> simp only [] at h1 h2 <;> omega
theorem can3 {n : Nat} {F : List Qr.Fact} (hF : FOk 3 n F) : Qr.can 3 n F = true ↔ ∃ w ∈ worlds 3 n, ∀ f ∈ F, relIn 3 n w f.i f.j = f.r := by
  show (Qr.heights 3 n F).isSome = true ↔ _
  rw [heights_iff (bound3 hF)]
  show _ ↔ ∃ w ∈ (orders n).flatMap fun a => (orders n).map (Wd.two a), _
  constructor
  · rintro ⟨v, hv⟩
    rw [told3 hF] at hv
    obtain ⟨a, ha, hl, hc⟩ := orders_all (fun i => v (2 * i)) n
    obtain ⟨b, hb, hl2, hc2⟩ := orders_all (fun i => v (2 * i + 1)) n
    refine ⟨_, List.mem_flatMap.mpr ⟨a, ha, List.mem_map.mpr ⟨b, hb, rfl⟩⟩, fun f hf => ?_⟩
    show 3 * cmp (a.getD f.i 0) (a.getD f.j 0) + cmp (b.getD f.i 0) (b.getD f.j 0) = f.r
    rw [hc _ _ (hF f hf).1 (hF f hf).2.1, hc2 _ _ (hF f hf).1 (hF f hf).2.1, (hv f hf).1, (hv f hf).2]
    omega
  · rintro ⟨w, hw, h⟩
    obtain ⟨a, ha, hw⟩ := List.mem_flatMap.mp hw
    obtain ⟨b, hb, rfl⟩ := List.mem_map.mp hw
    refine ⟨fun c => if c % 2 = 0 then a.getD (c / 2) 0 else b.getD (c / 2) 0, (told3 hF _).mpr fun f hf => ?_⟩
    have hr : 3 * cmp (a.getD f.i 0) (a.getD f.j 0) + cmp (b.getD f.i 0) (b.getD f.j 0) = f.r := h f hf
    have h1 := cmp_le2 (a.getD f.i 0) (a.getD f.j 0)
    have h2 := cmp_le2 (b.getD f.i 0) (b.getD f.j 0)
    have e0 : ∀ i, 2 * i % 2 = 0 := fun i => by omega
    have e1 : ∀ i, 2 * i / 2 = i := fun i => by omega
    have e2 : ∀ i, ¬ (2 * i + 1) % 2 = 0 := fun i => by omega
    have e3 : ∀ i, (2 * i + 1) / 2 = i := fun i => by omega
    simp only [e0, e1, e2, e3, if_true, if_false]
    omega
/-! intervals -/
def pts (s e o l x : Nat) : Nat := if x = 0 then s else if x = 1 then e else if x = 2 then o else l
theorem interval_of {s e o l r : Nat} (h1 : s < e) (h2 : o < l) (hr : r < 13) (h : ∀ c ∈ Qr.spans r, cmp (pts s e o l c.i) (pts s e o l c.j) = c.c) : intervalRel s e o l = r := by
  have h13 : r = 0 ∨ r = 1 ∨ r = 2 ∨ r = 3 ∨ r = 4 ∨ r = 5 ∨ r = 6 ∨ r = 7 ∨ r = 8 ∨ r = 9 ∨ r = 10 ∨ r = 11 ∨ r = 12 := by omega
  rcases h13 with rfl | rfl | rfl | rfl | rfl | rfl | rfl | rfl | rfl | rfl | rfl | rfl | rfl <;>
  simp [Qr.spans, pts, cmp_lt, cmp_eq, cmp_gt] at h <;>
  rcases cmp_cases s o with ⟨k1, k2⟩ | ⟨k1, k2⟩ | ⟨k1, k2⟩ <;> rcases cmp_cases e l with ⟨m1, m2⟩ | ⟨m1, m2⟩ | ⟨m1, m2⟩ <;>
  unfold intervalRel inner <;> rw [k2, m2] <;> (repeat' split) <;> first | rfl | omega
theorem interval_has {s e o l : Nat} (h1 : s < e) (h2 : o < l) : intervalRel s e o l < 13 ∧ ∀ c ∈ Qr.spans (intervalRel s e o l), cmp (pts s e o l c.i) (pts s e o l c.j) = c.c := by
  have key : ∀ r, intervalRel s e o l = r → r < 13 ∧ ∀ c ∈ Qr.spans r, cmp (pts s e o l c.i) (pts s e o l c.j) = c.c := by
    intro r
    rcases cmp_cases s o with ⟨k1, k2⟩ | ⟨k1, k2⟩ | ⟨k1, k2⟩ <;> rcases cmp_cases e l with ⟨m1, m2⟩ | ⟨m1, m2⟩ | ⟨m1, m2⟩ <;> unfold intervalRel inner <;> rw [k2, m2] <;> (repeat' split) <;> rintro rfl <;>
    first
      | omega
      | (refine ⟨by decide, ?_⟩; simp [Qr.spans, pts, cmp_lt, cmp_eq, cmp_gt]; omega)
      | (refine ⟨by decide, ?_⟩; simp [Qr.spans, pts, cmp_lt, cmp_eq, cmp_gt, *])
  exact key _ rfl
end SC

/-! ## MB2 -/
set_option Elab.async false
set_option linter.all false
set_option maxHeartbeats 4000000
namespace SC
theorem at_pts (v : Nat → Nat) (i j : Nat) {x : Nat} (h : x < 4) : v (if x < 2 then 2 * i + x else 2 * j + (x - 2)) = pts (v (2 * i)) (v (2 * i + 1)) (v (2 * j)) (v (2 * j + 1)) x := by
  have : x = 0 ∨ x = 1 ∨ x = 2 ∨ x = 3 := by omega
  rcases this with rfl | rfl | rfl | rfl <;> simp [pts]
theorem told1 {n : Nat} {F : List Qr.Fact} (v : Nat → Nat) : Sat (Qr.told 1 n F) v ↔ (∀ i, i < n → v (2 * i) < v (2 * i + 1)) ∧ ∀ f ∈ F, ∀ c ∈ Qr.spans f.r, cmp (pts (v (2 * f.i)) (v (2 * f.i + 1)) (v (2 * f.j)) (v (2 * f.j + 1)) c.i) (pts (v (2 * f.i)) (v (2 * f.i + 1)) (v (2 * f.j)) (v (2 * f.j + 1)) c.j) = c.c := by
  unfold Qr.told
  rw [if_pos rfl, sat_app, sat_edges]
  · constructor
    · rintro ⟨h1, h2⟩
      refine ⟨fun i hi => ?_, fun f hf c hc => ?_⟩
      · have := h2 ⟨2 * i, 2 * i + 1, true⟩ (List.mem_map.mpr ⟨i, List.mem_range.mpr hi, rfl⟩)
        simp [stp] at this
        omega
      · have hs := spans_lt f.r c hc
        have := h1 ⟨if c.i < 2 then 2 * f.i + c.i else 2 * f.j + (c.i - 2), if c.j < 2 then 2 * f.i + c.j else 2 * f.j + (c.j - 2), c.c⟩ (List.mem_flatMap.mpr ⟨f, hf, by
          unfold Qr.comps
          rw [if_neg (by decide), if_neg (by decide)]
          exact List.mem_map.mpr ⟨c, hc, rfl⟩⟩)
        simp only [] at this
        rw [at_pts v f.i f.j hs.1, at_pts v f.i f.j hs.2.1] at this
        exact this
    · rintro ⟨h1, h2⟩
      refine ⟨fun c hc => ?_, fun e he => ?_⟩
      · obtain ⟨f, hf, hc⟩ := List.mem_flatMap.mp hc
        unfold Qr.comps at hc
        rw [if_neg (by decide), if_neg (by decide)] at hc
        obtain ⟨c', hc', rfl⟩ := List.mem_map.mp hc
        have hs := spans_lt f.r c' hc'
        have := h2 f hf c' hc'
        rw [← at_pts v f.i f.j hs.1, ← at_pts v f.i f.j hs.2.1] at this
        exact this
      · obtain ⟨i, hi, rfl⟩ := List.mem_map.mp he
        have := h1 i (List.mem_range.mp hi)
        simp [stp]
        omega
  · intro c hc
    obtain ⟨f, hf, hc⟩ := List.mem_flatMap.mp hc
    unfold Qr.comps at hc
    rw [if_neg (by decide), if_neg (by decide)] at hc
    obtain ⟨c', hc', rfl⟩ := List.mem_map.mp hc
    exact (spans_lt f.r c' hc').2.2
theorem bound1 {n : Nat} {F : List Qr.Fact} (hF : FOk 1 n F) : ∀ e ∈ Qr.told 1 n F, e.i < n * Qr.marks 1 ∧ e.j < n * Qr.marks 1 := by
  intro e he
  unfold Qr.told at he
  rw [if_pos rfl] at he
  have hm : n * Qr.marks 1 = 2 * n := by simp [Qr.marks]; omega
  rw [hm]
  rcases List.mem_append.mp he with he | he
  · obtain ⟨c, hc, h⟩ := mem_edges he
    obtain ⟨f, hf, hc⟩ := List.mem_flatMap.mp hc
    unfold Qr.comps at hc
    rw [if_neg (by decide), if_neg (by decide)] at hc
    obtain ⟨c', hc', rfl⟩ := List.mem_map.mp hc
    have hs := spans_lt f.r c' hc'
    have hf := hF f hf
    simp only [] at h
    have b : ∀ x, x < 4 → (if x < 2 then 2 * f.i + x else 2 * f.j + (x - 2)) < 2 * n := by
      intro x hx
      split <;> omega
    rcases h with ⟨h1, h2⟩ | ⟨h1, h2⟩
    · rw [h1, h2]
      exact ⟨b _ hs.1, b _ hs.2.1⟩
    · rw [h1, h2]
      exact ⟨b _ hs.2.1, b _ hs.1⟩
  · obtain ⟨i, hi, rfl⟩ := List.mem_map.mp he
    have := List.mem_range.mp hi
    simp only []
    omega
theorem can1 {n : Nat} {F : List Qr.Fact} (hF : FOk 1 n F) : Qr.can 1 n F = true ↔ ∃ w ∈ worlds 1 n, ∀ f ∈ F, relIn 1 n w f.i f.j = f.r := by
  show (Qr.heights 1 n F).isSome = true ↔ _
  rw [heights_iff (bound1 hF)]
  show _ ↔ ∃ w ∈ (intervalOrders n).map Wd.ranks, _
  constructor
  · rintro ⟨v, hv⟩
    rw [told1] at hv
    obtain ⟨w, hw, hl, hc⟩ := intervals_all v n hv.1
    have hi := (intervals_is hw).2
    refine ⟨_, List.mem_map.mpr ⟨w, hw, rfl⟩, fun f hf => ?_⟩
    obtain ⟨b1, b2, b3⟩ := hF f hf
    show intervalRel (w.getD (2 * f.i) 0) (w.getD (2 * f.i + 1) 0) (w.getD (2 * f.j) 0) (w.getD (2 * f.j + 1) 0) = f.r
    refine interval_of (hi _ b1) (hi _ b2) b3 fun c hcc => ?_
    have hs := spans_lt f.r c hcc
    have h2 := hv.2 f hf c hcc
    rw [← at_pts v f.i f.j hs.1, ← at_pts v f.i f.j hs.2.1] at h2
    rw [← at_pts (fun x => w.getD x 0) f.i f.j hs.1, ← at_pts (fun x => w.getD x 0) f.i f.j hs.2.1]
    have b : ∀ x, x < 4 → (if x < 2 then 2 * f.i + x else 2 * f.j + (x - 2)) < 2 * n := by
      intro x hx
      split <;> omega
    rw [hc _ _ (b _ hs.1) (b _ hs.2.1)]
    exact h2
  · rintro ⟨w, hw, h⟩
    obtain ⟨l, hl, rfl⟩ := List.mem_map.mp hw
    have hi := (intervals_is hl).2
    refine ⟨fun c => l.getD c 0, told1 _ |>.mpr ⟨hi, fun f hf c hc => ?_⟩⟩
    obtain ⟨b1, b2, b3⟩ := hF f hf
    have hr : intervalRel (l.getD (2 * f.i) 0) (l.getD (2 * f.i + 1) 0) (l.getD (2 * f.j) 0) (l.getD (2 * f.j + 1) 0) = f.r := h f hf
    have := (interval_has (hi _ b1) (hi _ b2)).2 c (by rw [hr]; exact hc)
    exact this
theorem rel1_lt {n : Nat} {w : Wd} (hw : w ∈ worlds 1 n) {i j : Nat} (hi : i < n) (hj : j < n) : relIn 1 n w i j < 13 := by
  obtain ⟨l, hl, rfl⟩ := List.mem_map.mp (show w ∈ (intervalOrders n).map Wd.ranks from hw)
  have h := (intervals_is hl).2
  exact (interval_has (h _ hi) (h _ hj)).1
theorem rel1_turn {n : Nat} {w : Wd} (hw : w ∈ worlds 1 n) {i j : Nat} (hi : i < n) (hj : j < n) : relIn 1 n w j i = 12 - relIn 1 n w i j := by
  obtain ⟨l, hl, rfl⟩ := List.mem_map.mp (show w ∈ (intervalOrders n).map Wd.ranks from hw)
  have h := (intervals_is hl).2
  have h1 := h _ hi
  have h2 := h _ hj
  show intervalRel (l.getD (2 * j) 0) (l.getD (2 * j + 1) 0) (l.getD (2 * i) 0) (l.getD (2 * i + 1) 0) = 12 - intervalRel (l.getD (2 * i) 0) (l.getD (2 * i + 1) 0) (l.getD (2 * j) 0) (l.getD (2 * j + 1) 0)
  generalize l.getD (2 * i) 0 = s at *
  generalize l.getD (2 * i + 1) 0 = e at *
  generalize l.getD (2 * j) 0 = o at *
  generalize l.getD (2 * j + 1) 0 = q at *
  obtain ⟨k1, k2⟩ := interval_has h1 h2
  refine interval_of h2 h1 (by omega) ?_
  have h13 : intervalRel s e o q = 0 ∨ intervalRel s e o q = 1 ∨ intervalRel s e o q = 2 ∨ intervalRel s e o q = 3 ∨ intervalRel s e o q = 4 ∨ intervalRel s e o q = 5 ∨ intervalRel s e o q = 6 ∨ intervalRel s e o q = 7 ∨ intervalRel s e o q = 8 ∨ intervalRel s e o q = 9 ∨ intervalRel s e o q = 10 ∨ intervalRel s e o q = 11 ∨ intervalRel s e o q = 12 := by omega
  rcases h13 with r | r | r | r | r | r | r | r | r | r | r | r | r <;> rw [r] at k2 ⊢ <;> simp [Qr.spans, pts, cmp_lt, cmp_eq, cmp_gt] at k2 ⊢ <;> omega
theorem cmp_turn (a b : Nat) : cmp b a = 2 - cmp a b := by
  rcases cmp_cases a b with ⟨h, e⟩ | ⟨h, e⟩ | ⟨h, e⟩ <;> rw [e]
  · exact cmp_gt.mpr h
  · exact cmp_eq.mpr h.symm
  · exact cmp_lt.mpr h
end SC

/-! ## MB3 -/
set_option Elab.async false
set_option linter.all false
set_option maxHeartbeats 4000000
namespace SC
/-! sets -/
theorem bit_add {a k c : Nat} (h : a < 2 ^ k) : (a + 2 ^ k).testBit c = (a.testBit c || decide (c = k)) := by
  rw [Nat.add_comm]
  rcases Nat.lt_trichotomy c k with z | z | z
  · rw [Nat.testBit_two_pow_add_gt z, show decide (c = k) = false from decide_eq_false (by omega), Bool.or_false]
  · subst z
    rw [Nat.testBit_two_pow_add_eq, Nat.testBit_lt_two_pow h]
    simp
  · have h2 : 2 ^ (k + 1) ≤ 2 ^ c := Nat.pow_le_pow_right (by decide) z
    have h3 : 2 ^ (k + 1) = 2 ^ k * 2 := Nat.pow_succ 2 k
    rw [Nat.testBit_lt_two_pow (by omega), Nat.testBit_lt_two_pow (by omega), show decide (c = k) = false from decide_eq_false (by omega)]
    rfl
theorem fold_bits (p : Nat → Prop) [DecidablePred p] : ∀ m, (List.range' 1 m).foldl (fun a r => if p r then a + 2 ^ r else a) 0 < 2 ^ (m + 1) ∧ ∀ c, ((List.range' 1 m).foldl (fun a r => if p r then a + 2 ^ r else a) 0).testBit c = decide (1 ≤ c ∧ c ≤ m ∧ p c)
  | 0 => ⟨by simp, fun c => by
    simp
    omega⟩
  | m + 1 => by
    obtain ⟨h1, h2⟩ := fold_bits p m
    have e : (List.range' 1 (m + 1)).foldl (fun a r => if p r then a + 2 ^ r else a) 0 = if p (1 + m) then (List.range' 1 m).foldl (fun a r => if p r then a + 2 ^ r else a) 0 + 2 ^ (1 + m) else (List.range' 1 m).foldl (fun a r => if p r then a + 2 ^ r else a) 0 := by
      rw [List.range'_1_concat, List.foldl_append]
      rfl
    have e2 : 2 ^ (m + 1 + 1) = 2 ^ (m + 1) * 2 := Nat.pow_succ 2 (m + 1)
    rw [e, Nat.add_comm 1 m]
    by_cases hp : p (m + 1)
    · rw [if_pos hp]
      refine ⟨by omega, fun c => ?_⟩
      rw [bit_add h1, h2, Bool.eq_iff_iff]
      simp only [Bool.or_eq_true, decide_eq_true_eq]
      constructor
      · rintro (⟨a, b, d⟩ | rfl)
        · exact ⟨a, by omega, d⟩
        · exact ⟨by omega, Nat.le_refl _, hp⟩
      · rintro ⟨a, b, d⟩
        by_cases hc : c = m + 1
        · exact .inr hc
        · exact .inl ⟨a, by omega, d⟩
    · rw [if_neg hp]
      refine ⟨by omega, fun c => ?_⟩
      rw [h2, Bool.eq_iff_iff]
      simp only [decide_eq_true_eq]
      constructor
      · rintro ⟨a, b, d⟩
        exact ⟨a, by omega, d⟩
      · rintro ⟨a, b, d⟩
        refine ⟨a, ?_, d⟩
        by_cases hc : c = m + 1
        · subst hc; exact absurd d hp
        · omega
abbrev In (c i : Nat) : Prop := c / 2 ^ i % 2 = 1
theorem holders_bit (n i c : Nat) : (holders n i).testBit c = decide (1 ≤ c ∧ c < 2 ^ n ∧ In c i) := by
  have h := (fold_bits (fun r => In r i) (2 ^ n - 1)).2 c
  have hp : 0 < 2 ^ n := Nat.pow_pos (by decide)
  unfold holders
  rw [h, Bool.eq_iff_iff]
  simp only [decide_eq_true_eq]
  constructor
  · rintro ⟨a, b, d⟩
    exact ⟨a, by omega, d⟩
  · rintro ⟨a, b, d⟩
    exact ⟨a, by omega, d⟩
theorem ne_zero_bit {x : Nat} : x ≠ 0 ↔ ∃ c, x.testBit c = true := by
  constructor
  · intro h
    apply Classical.byContradiction
    intro hn
    refine h (Nat.eq_of_testBit_eq fun i => ?_)
    rw [Nat.zero_testBit]
    cases e : x.testBit i with
    | false => rfl
    | true => exact absurd ⟨i, e⟩ hn
  · rintro ⟨c, h⟩ rfl
    rw [Nat.zero_testBit] at h
    cases h
theorem sub_ne_zero {x t : Nat} : x - (x &&& t) ≠ 0 ↔ ∃ c, x.testBit c = true ∧ t.testBit c = false := by
  have hle : x &&& t ≤ x := Nat.and_le_left
  constructor
  · intro h
    apply Classical.byContradiction
    intro hn
    have : x &&& t = x := Nat.eq_of_testBit_eq fun i => by
      rw [Nat.testBit_and]
      cases e : x.testBit i with
      | false => rfl
      | true =>
        cases e2 : t.testBit i with
        | true => rfl
        | false => exact absurd ⟨i, e, e2⟩ hn
    omega
  · rintro ⟨c, h1, h2⟩ h
    have : x &&& t = x := by omega
    have h3 := congrArg (fun y => y.testBit c) this
    simp only [Nat.testBit_and, h1, h2] at h3
    cases h3
def Both (R i j : Nat) : Prop := ∃ c, R.testBit c = true ∧ In c i ∧ In c j
def One (R i j : Nat) : Prop := ∃ c, R.testBit c = true ∧ In c i ∧ ¬ In c j
def Cells (n R : Nat) : Prop := ∀ c, R.testBit c = true → 1 ≤ c ∧ c < 2 ^ n
section
variable {n R i j : Nat}
theorem bit_h (hR : Cells n R) {c : Nat} (h : R.testBit c = true) : (holders n i).testBit c = decide (In c i) := by
  obtain ⟨h1, h2⟩ := hR c h
  rw [holders_bit, Bool.eq_iff_iff]
  simp only [decide_eq_true_eq]
  exact ⟨fun x => x.2.2, fun x => ⟨h1, h2, x⟩⟩
theorem both_iff (hR : Cells n R) : ((R &&& holders n i) &&& holders n j) ≠ 0 ↔ Both R i j := by
  rw [ne_zero_bit]
  constructor
  · rintro ⟨c, h⟩
    rw [Nat.testBit_and, Nat.testBit_and, Bool.and_eq_true, Bool.and_eq_true] at h
    obtain ⟨⟨h1, h2⟩, h3⟩ := h
    rw [bit_h hR h1] at h2 h3
    exact ⟨c, h1, of_decide_eq_true h2, of_decide_eq_true h3⟩
  · rintro ⟨c, h1, h2, h3⟩
    refine ⟨c, ?_⟩
    rw [Nat.testBit_and, Nat.testBit_and, bit_h hR h1, bit_h hR h1, h1, decide_eq_true h2, decide_eq_true h3]
    rfl
theorem one_iff (hR : Cells n R) : (R &&& holders n i) - ((R &&& holders n i) &&& holders n j) ≠ 0 ↔ One R i j := by
  rw [sub_ne_zero]
  constructor
  · rintro ⟨c, h, h3⟩
    rw [Nat.testBit_and, Bool.and_eq_true] at h
    obtain ⟨h1, h2⟩ := h
    rw [bit_h hR h1] at h2 h3
    exact ⟨c, h1, of_decide_eq_true h2, of_decide_eq_false h3⟩
  · rintro ⟨c, h1, h2, h3⟩
    refine ⟨c, ?_, ?_⟩
    · rw [Nat.testBit_and, bit_h hR h1, h1, decide_eq_true h2]
      rfl
    · rw [bit_h hR h1, decide_eq_false h3]
theorem rel2_cases (hR : Cells n R) : (¬ Both R i j ∧ relIn 2 n (.regions R) i j = 0) ∨ (Both R i j ∧ One R i j ∧ One R j i ∧ relIn 2 n (.regions R) i j = 1) ∨ (Both R i j ∧ One R i j ∧ ¬ One R j i ∧ relIn 2 n (.regions R) i j = 4) ∨
    (Both R i j ∧ ¬ One R i j ∧ One R j i ∧ relIn 2 n (.regions R) i j = 2) ∨ (Both R i j ∧ ¬ One R i j ∧ ¬ One R j i ∧ relIn 2 n (.regions R) i j = 3) := by
  have e1 := both_iff (i := i) (j := j) hR
  have e2 := one_iff (i := i) (j := j) hR
  have e3 := one_iff (i := j) (j := i) hR
  show (_ ∧ setRel R (holders n i) (holders n j) = 0) ∨ (_ ∧ _ ∧ _ ∧ setRel R (holders n i) (holders n j) = 1) ∨ (_ ∧ _ ∧ _ ∧ setRel R (holders n i) (holders n j) = 4) ∨ (_ ∧ _ ∧ _ ∧ setRel R (holders n i) (holders n j) = 2) ∨ (_ ∧ _ ∧ _ ∧ setRel R (holders n i) (holders n j) = 3)
  unfold setRel
  by_cases b : Both R i j
  · have b' : ¬ ((R &&& holders n i) &&& holders n j) = 0 := e1.mpr b
    rw [if_neg b']
    by_cases o : One R i j
    · rw [if_pos (e2.mpr o)]
      by_cases t : One R j i
      · rw [if_pos (e3.mpr t)]
        exact .inr (.inl ⟨b, o, t, rfl⟩)
      · rw [if_neg (fun z => t (e3.mp z))]
        exact .inr (.inr (.inl ⟨b, o, t, rfl⟩))
    · rw [if_neg (fun z => o (e2.mp z))]
      by_cases t : One R j i
      · rw [if_pos (e3.mpr t)]
        exact .inr (.inr (.inr (.inl ⟨b, o, t, rfl⟩)))
      · rw [if_neg (fun z => t (e3.mp z))]
        exact .inr (.inr (.inr (.inr ⟨b, o, t, rfl⟩)))
  · have b' : ((R &&& holders n i) &&& holders n j) = 0 := by
      apply Classical.byContradiction
      intro z
      exact b (e1.mp z)
    rw [if_pos b']
    exact .inl ⟨b, rfl⟩
theorem inAll_iff {h : Nat} (hR : Cells n (2 * h)) : inAll n h = true ↔ ∀ i, i < n → ∃ c, (2 * h).testBit c = true ∧ In c i := by
  unfold inAll
  rw [List.all_eq_true]
  constructor
  · intro a i hi
    have := a (holders n i) (List.mem_map.mpr ⟨i, List.mem_range.mpr hi, rfl⟩)
    have := of_decide_eq_true this
    obtain ⟨c, hc⟩ := ne_zero_bit.mp this
    rw [Nat.testBit_and, Bool.and_eq_true] at hc
    have h2 := hc.2
    rw [bit_h hR hc.1] at h2
    exact ⟨c, hc.1, of_decide_eq_true h2⟩
  · intro a x hx
    obtain ⟨i, hi, rfl⟩ := List.mem_map.mp hx
    obtain ⟨c, h1, h2⟩ := a i (List.mem_range.mp hi)
    refine decide_eq_true (ne_zero_bit.mpr ⟨c, ?_⟩)
    rw [Nat.testBit_and, bit_h hR h1, h1, decide_eq_true h2]
    rfl
theorem cells_of {h : Nat} (hh : h < 2 ^ (2 ^ n - 1)) : Cells n (2 * h) := by
  intro c hc
  have hp : 0 < 2 ^ n := Nat.pow_pos (by decide)
  have e : 2 ^ (2 ^ n) = 2 ^ (2 ^ n - 1) * 2 := by
    rw [← Nat.pow_succ]
    congr 1
    omega
  refine ⟨?_, ?_⟩
  · apply Classical.byContradiction
    intro z
    have : c = 0 := by omega
    subst this
    rw [Nat.testBit_zero] at hc
    have := of_decide_eq_true hc
    omega
  · apply Classical.byContradiction
    intro z
    have h2 : 2 ^ (2 ^ n) ≤ 2 ^ c := Nat.pow_le_pow_right (by decide) (by omega)
    rw [Nat.testBit_lt_two_pow (by omega)] at hc
    cases hc
end
theorem mem_worlds2 {n : Nat} {w : Wd} : w ∈ worlds 2 n ↔ ∃ R, w = .regions R ∧ Cells n R ∧ ∀ i, i < n → ∃ c, R.testBit c = true ∧ In c i := by
  show w ∈ (venn n).map Wd.regions ↔ _
  constructor
  · intro h
    obtain ⟨R, hR, rfl⟩ := List.mem_map.mp h
    obtain ⟨x, hx, rfl⟩ := List.mem_map.mp hR
    obtain ⟨h1, h2⟩ := List.mem_filter.mp hx
    have hc := cells_of (List.mem_range.mp h1)
    exact ⟨_, rfl, hc, (inAll_iff hc).mp h2⟩
  · rintro ⟨R, rfl, hc, ha⟩
    have hp : 0 < 2 ^ n := Nat.pow_pos (by decide)
    have h0 : R.testBit 0 = false := by
      cases e : R.testBit 0 with
      | false => rfl
      | true => exact absurd (hc 0 e).1 (by decide)
    have he : 2 * (R / 2) = R := by
      rw [Nat.testBit_zero] at h0
      have := of_decide_eq_false h0
      omega
    have hlt : R < 2 ^ (2 ^ n) := by
      apply Nat.lt_pow_two_of_testBit
      intro i hi
      cases e : R.testBit i with
      | false => rfl
      | true => exact absurd (hc i e).2 (by omega)
    have e : 2 ^ (2 ^ n) = 2 ^ (2 ^ n - 1) * 2 := by
      rw [← Nat.pow_succ]
      congr 1
      omega
    refine List.mem_map.mpr ⟨R, List.mem_map.mpr ⟨R / 2, List.mem_filter.mpr ⟨List.mem_range.mpr (by omega), ?_⟩, he⟩, rfl⟩
    exact (inAll_iff (h := R / 2) (by rw [he]; exact hc)).mpr (by rw [he]; exact ha)
end SC

/-! ## MB4 -/
set_option Elab.async false
set_option linter.all false
set_option maxHeartbeats 4000000
namespace SC
theorem in_iff {c i : Nat} : Qr.in_ c i = true ↔ In c i := by
  unfold Qr.in_
  exact beq_iff_eq
def MayP (f : Qr.Fact) (c : Nat) : Prop := (f.r = 0 → ¬ (In c f.i ∧ In c f.j)) ∧ (f.r = 2 → In c f.i → In c f.j) ∧ (f.r = 4 → In c f.j → In c f.i) ∧ (f.r = 3 → (In c f.i ↔ In c f.j))
theorem may_iff {F : List Qr.Fact} {c : Nat} : Qr.may F c = true ↔ ∀ f ∈ F, MayP f c := by
  unfold Qr.may
  rw [List.all_eq_true]
  refine forall_congr' fun f => forall_congr' fun _ => ?_
  unfold MayP
  by_cases h0 : f.r = 0
  · rw [if_pos h0]
    simp only [h0, ← in_iff]
    cases Qr.in_ c f.i <;> cases Qr.in_ c f.j <;> simp
  · rw [if_neg h0]
    by_cases h2 : f.r = 2
    · rw [if_pos h2]
      simp only [h2, ← in_iff]
      cases Qr.in_ c f.i <;> cases Qr.in_ c f.j <;> simp
    · rw [if_neg h2]
      by_cases h4 : f.r = 4
      · rw [if_pos h4]
        simp only [h4, ← in_iff]
        cases Qr.in_ c f.i <;> cases Qr.in_ c f.j <;> simp
      · rw [if_neg h4]
        by_cases h3 : f.r = 3
        · rw [if_pos h3]
          simp only [h3, ← in_iff]
          cases Qr.in_ c f.i <;> cases Qr.in_ c f.j <;> simp
        · rw [if_neg h3]
          simp [h0, h2, h3, h4]
theorem full_iff {n : Nat} {F : List Qr.Fact} {cs : List Nat} : Qr.full n F cs = true ↔ (∀ i, i < n → ∃ c ∈ cs, In c i) ∧ ∀ f ∈ F, (f.r = 1 → (∃ c ∈ cs, In c f.i ∧ In c f.j) ∧ (∃ c ∈ cs, In c f.i ∧ ¬ In c f.j) ∧ ∃ c ∈ cs, In c f.j ∧ ¬ In c f.i) ∧ (f.r = 2 → ∃ c ∈ cs, In c f.j ∧ ¬ In c f.i) ∧ (f.r = 4 → ∃ c ∈ cs, In c f.i ∧ ¬ In c f.j) := by
  unfold Qr.full
  rw [Bool.and_eq_true, List.all_eq_true, List.all_eq_true]
  refine and_congr ?_ (forall_congr' fun f => forall_congr' fun _ => ?_)
  · constructor
    · intro h i hi
      obtain ⟨c, hc, h2⟩ := List.any_eq_true.mp (h i (List.mem_range.mpr hi))
      exact ⟨c, hc, in_iff.mp h2⟩
    · intro h i hi
      obtain ⟨c, hc, h2⟩ := h i (List.mem_range.mp hi)
      exact List.any_eq_true.mpr ⟨c, hc, in_iff.mpr h2⟩
  · have eb : (cs.any fun c => Qr.in_ c f.i && Qr.in_ c f.j) = true ↔ ∃ c ∈ cs, In c f.i ∧ In c f.j := by
      rw [List.any_eq_true]
      simp only [Bool.and_eq_true, in_iff]
    have eo : ∀ i j, (cs.any fun c => Qr.in_ c i && !Qr.in_ c j) = true ↔ ∃ c ∈ cs, In c i ∧ ¬ In c j := by
      intro i j
      rw [List.any_eq_true]
      simp only [Bool.and_eq_true, Bool.not_eq_true', in_iff]
      refine exists_congr fun c => and_congr_right fun _ => and_congr_right fun _ => ?_
      rw [← in_iff, Bool.not_eq_true]
    simp only []
    by_cases h1 : f.r = 1
    · rw [if_pos h1]
      simp only [Bool.and_eq_true, eb, eo, h1]
      simp
    · rw [if_neg h1]
      by_cases h2 : f.r = 2
      · rw [if_pos h2, eo]
        simp [h2]
      · rw [if_neg h2]
        by_cases h4 : f.r = 4
        · rw [if_pos h4, eo]
          simp [h4]
        · rw [if_neg h4]
          simp [h1, h2, h4]
theorem mem_cells {n : Nat} {F : List Qr.Fact} {c : Nat} : c ∈ Qr.cells n F ↔ 1 ≤ c ∧ c < 2 ^ n ∧ Qr.may F c = true := by
  unfold Qr.cells
  rw [List.mem_filter, List.mem_range, Bool.and_eq_true]
  constructor
  · rintro ⟨h1, h2, h3⟩
    have : c ≠ 0 := by simpa using h2
    exact ⟨by omega, h1, h3⟩
  · rintro ⟨h1, h2, h3⟩
    exact ⟨h2, by simp; omega, h3⟩
theorem can2 {n : Nat} {F : List Qr.Fact} (hF : FOk 2 n F) : Qr.can 2 n F = true ↔ ∃ w ∈ worlds 2 n, ∀ f ∈ F, relIn 2 n w f.i f.j = f.r := by
  have e0 : Qr.can 2 n F = true ↔ Qr.full n F (Qr.cells n F) = true := by
    unfold Qr.can Qr.picture
    rw [if_pos rfl]
    simp only
    split <;> simp_all
  have hp : 0 < 2 ^ n := Nat.pow_pos (by decide)
  rw [e0, full_iff]
  constructor
  · rintro ⟨h1, h2⟩
    have hb := (fold_bits (fun r => Qr.may F r = true) (2 ^ n - 1)).2
    generalize (List.range' 1 (2 ^ n - 1)).foldl (fun a r => if Qr.may F r = true then a + 2 ^ r else a) 0 = R at hb
    have hm : ∀ c, R.testBit c = true ↔ c ∈ Qr.cells n F := by
      intro c
      rw [hb, decide_eq_true_iff, mem_cells]
      constructor
      · rintro ⟨a, b, d⟩
        exact ⟨a, by omega, d⟩
      · rintro ⟨a, b, d⟩
        exact ⟨a, by omega, d⟩
    have hC : Cells n R := fun c hc => by
      have := mem_cells.mp ((hm c).mp hc)
      exact ⟨this.1, this.2.1⟩
    refine ⟨.regions R, mem_worlds2.mpr ⟨R, rfl, hC, fun i hi => ?_⟩, fun f hf => ?_⟩
    · obtain ⟨c, hc, h⟩ := h1 i hi
      exact ⟨c, (hm c).mpr hc, h⟩
    · obtain ⟨b1, b2, b3⟩ := hF f hf
      have b3 : f.r < 5 := b3
      have may : ∀ c, R.testBit c = true → MayP f c := fun c hc => may_iff.mp (mem_cells.mp ((hm c).mp hc)).2.2 f hf
      obtain ⟨q1, q2, q4⟩ := h2 f hf
      obtain ⟨ci, hci, ii⟩ := h1 f.i b1
      obtain ⟨cj, hcj, jj⟩ := h1 f.j b2
      have one_of : ∀ {a b}, (∃ c ∈ Qr.cells n F, In c a ∧ ¬ In c b) → One R a b := fun ⟨c, hc, x⟩ => ⟨c, (hm c).mpr hc, x⟩
      have hr : f.r = 0 ∨ f.r = 1 ∨ f.r = 2 ∨ f.r = 3 ∨ f.r = 4 := by omega
      have cs := rel2_cases (i := f.i) (j := f.j) hC
      rcases hr with hr | hr | hr | hr | hr
      · have nb : ¬ Both R f.i f.j := fun ⟨c, h, x⟩ => (may c h).1 hr x
        rcases cs with ⟨_, e⟩ | ⟨b, _⟩ | ⟨b, _⟩ | ⟨b, _⟩ | ⟨b, _⟩
        · rw [e, hr]
        all_goals exact absurd b nb
      · obtain ⟨⟨c, hc, x⟩, o, t⟩ := q1 hr
        have b : Both R f.i f.j := ⟨c, (hm c).mpr hc, x⟩
        have o := one_of o
        have t := one_of t
        rcases cs with ⟨nb, _⟩ | ⟨_, _, _, e⟩ | ⟨_, _, nt, _⟩ | ⟨_, no, _⟩ | ⟨_, no, _⟩
        · exact absurd b nb
        · rw [e, hr]
        · exact absurd t nt
        · exact absurd o no
        · exact absurd o no
      · have t := one_of (q2 hr)
        have b : Both R f.i f.j := ⟨ci, (hm ci).mpr hci, ii, (may ci ((hm ci).mpr hci)).2.1 hr ii⟩
        have no : ¬ One R f.i f.j := fun ⟨c, h, x, y⟩ => y ((may c h).2.1 hr x)
        rcases cs with ⟨nb, _⟩ | ⟨_, o, _⟩ | ⟨_, o, _⟩ | ⟨_, _, _, e⟩ | ⟨_, _, nt, _⟩
        · exact absurd b nb
        · exact absurd o no
        · exact absurd o no
        · rw [e, hr]
        · exact absurd t nt
      · have b : Both R f.i f.j := ⟨ci, (hm ci).mpr hci, ii, ((may ci ((hm ci).mpr hci)).2.2.2 hr).mp ii⟩
        have no : ¬ One R f.i f.j := fun ⟨c, h, x, y⟩ => y (((may c h).2.2.2 hr).mp x)
        have nt : ¬ One R f.j f.i := fun ⟨c, h, x, y⟩ => y (((may c h).2.2.2 hr).mpr x)
        rcases cs with ⟨nb, _⟩ | ⟨_, o, _⟩ | ⟨_, o, _⟩ | ⟨_, _, t, _⟩ | ⟨_, _, _, e⟩
        · exact absurd b nb
        · exact absurd o no
        · exact absurd o no
        · exact absurd t nt
        · rw [e, hr]
      · have o := one_of (q4 hr)
        have b : Both R f.i f.j := ⟨cj, (hm cj).mpr hcj, (may cj ((hm cj).mpr hcj)).2.2.1 hr jj, jj⟩
        have nt : ¬ One R f.j f.i := fun ⟨c, h, x, y⟩ => y ((may c h).2.2.1 hr x)
        rcases cs with ⟨nb, _⟩ | ⟨_, _, t, _⟩ | ⟨_, _, _, e⟩ | ⟨_, no, _⟩ | ⟨_, no, _⟩
        · exact absurd b nb
        · exact absurd t nt
        · rw [e, hr]
        · exact absurd o no
        · exact absurd o no
  · rintro ⟨w, hw, h⟩
    obtain ⟨R, rfl, hC, ha⟩ := mem_worlds2.mp hw
    have mayR : ∀ c, R.testBit c = true → c ∈ Qr.cells n F := fun c hc => by
      have hcc := hC c hc
      refine mem_cells.mpr ⟨hcc.1, hcc.2, may_iff.mpr fun f hf => ?_⟩
      have hr := h f hf
      have cs := rel2_cases (i := f.i) (j := f.j) hC
      rw [hr] at cs
      refine ⟨fun e x => ?_, fun e x => ?_, fun e x => ?_, fun e => ?_⟩
      · have b : Both R f.i f.j := ⟨c, hc, x⟩
        rcases cs with ⟨nb, _⟩ | ⟨_, _, _, z⟩ | ⟨_, _, _, z⟩ | ⟨_, _, _, z⟩ | ⟨_, _, _, z⟩
        · exact nb b
        all_goals omega
      · apply Classical.byContradiction
        intro y
        have o : One R f.i f.j := ⟨c, hc, x, y⟩
        rcases cs with ⟨_, z⟩ | ⟨_, _, _, z⟩ | ⟨_, _, _, z⟩ | ⟨_, no, _, z⟩ | ⟨_, _, _, z⟩
        · omega
        · omega
        · omega
        · exact no o
        · omega
      · apply Classical.byContradiction
        intro y
        have t : One R f.j f.i := ⟨c, hc, x, y⟩
        rcases cs with ⟨_, z⟩ | ⟨_, _, _, z⟩ | ⟨_, _, nt, z⟩ | ⟨_, no, _, z⟩ | ⟨_, _, _, z⟩
        · omega
        · omega
        · exact nt t
        · omega
        · omega
      · constructor
        · intro x
          apply Classical.byContradiction
          intro y
          have o : One R f.i f.j := ⟨c, hc, x, y⟩
          rcases cs with ⟨_, z⟩ | ⟨_, _, _, z⟩ | ⟨_, _, nt, z⟩ | ⟨_, _, _, z⟩ | ⟨_, no, _, z⟩
          · omega
          · omega
          · omega
          · omega
          · exact no o
        · intro x
          apply Classical.byContradiction
          intro y
          have t : One R f.j f.i := ⟨c, hc, x, y⟩
          rcases cs with ⟨_, z⟩ | ⟨_, _, _, z⟩ | ⟨_, _, _, z⟩ | ⟨_, _, _, z⟩ | ⟨_, _, nt, z⟩
          · omega
          · omega
          · omega
          · omega
          · exact nt t
    refine ⟨fun i hi => ?_, fun f hf => ?_⟩
    · obtain ⟨c, hc, x⟩ := ha i hi
      exact ⟨c, mayR c hc, x⟩
    · have hr := h f hf
      have cs := rel2_cases (i := f.i) (j := f.j) hC
      rw [hr] at cs
      have of_one : ∀ {a b}, One R a b → ∃ c ∈ Qr.cells n F, In c a ∧ ¬ In c b := fun ⟨c, hc, x⟩ => ⟨c, mayR c hc, x⟩
      refine ⟨fun e => ?_, fun e => ?_, fun e => ?_⟩
      · rcases cs with ⟨_, z⟩ | ⟨⟨c, hc, x⟩, o, t, z⟩ | ⟨_, _, _, z⟩ | ⟨_, _, _, z⟩ | ⟨_, _, _, z⟩
        · omega
        · exact ⟨⟨c, mayR c hc, x⟩, of_one o, of_one t⟩
        all_goals omega
      · rcases cs with ⟨_, z⟩ | ⟨_, _, _, z⟩ | ⟨_, _, _, z⟩ | ⟨_, _, t, z⟩ | ⟨_, _, _, z⟩
        · omega
        · omega
        · omega
        · exact of_one t
        · omega
      · rcases cs with ⟨_, z⟩ | ⟨_, _, _, z⟩ | ⟨_, o, _, z⟩ | ⟨_, _, _, z⟩ | ⟨_, _, _, z⟩
        · omega
        · omega
        · exact of_one o
        · omega
        · omega
end SC

/-! ## MB5 -/
set_option Elab.async false
set_option linter.all false
set_option maxHeartbeats 4000000
namespace SC
/-! any kind -/
theorem can_iff {k n : Nat} (hk : k < 4) {F : List Qr.Fact} (hF : FOk k n F) : Qr.can k n F = true ↔ ∃ w ∈ worlds k n, ∀ f ∈ F, relIn k n w f.i f.j = f.r := by
  have : k = 0 ∨ k = 1 ∨ k = 2 ∨ k = 3 := by omega
  rcases this with rfl | rfl | rfl | rfl
  · exact can0 hF
  · exact can1 hF
  · exact can2 hF
  · exact can3 hF
theorem rel_lt {k n : Nat} (hk : k < 4) {w : Wd} (hw : w ∈ worlds k n) {i j : Nat} (hi : i < n) (hj : j < n) : relIn k n w i j < Qr.size k := by
  have : k = 0 ∨ k = 1 ∨ k = 2 ∨ k = 3 := by omega
  rcases this with rfl | rfl | rfl | rfl
  · obtain ⟨l, hl, rfl⟩ := List.mem_map.mp (show w ∈ (orders n).map Wd.ranks from hw)
    have h := cmp_le2 (l.getD i 0) (l.getD j 0)
    exact Nat.lt_succ_of_le h
  · exact rel1_lt hw hi hj
  · obtain ⟨R, rfl, hC, _⟩ := mem_worlds2.mp hw
    show relIn 2 n (.regions R) i j < 5
    rcases rel2_cases (i := i) (j := j) hC with ⟨_, e⟩ | ⟨_, _, _, e⟩ | ⟨_, _, _, e⟩ | ⟨_, _, _, e⟩ | ⟨_, _, _, e⟩ <;> rw [e] <;> decide
  · obtain ⟨a, ha, hw⟩ := List.mem_flatMap.mp (show w ∈ (orders n).flatMap fun a => (orders n).map (Wd.two a) from hw)
    obtain ⟨b, hb, rfl⟩ := List.mem_map.mp hw
    have h1 := cmp_le2 (a.getD i 0) (a.getD j 0)
    have h2 := cmp_le2 (b.getD i 0) (b.getD j 0)
    show 3 * cmp (a.getD i 0) (a.getD j 0) + cmp (b.getD i 0) (b.getD j 0) < 9
    omega
theorem both_comm {R i j : Nat} : Both R i j ↔ Both R j i := ⟨fun ⟨c, h, x, y⟩ => ⟨c, h, y, x⟩, fun ⟨c, h, x, y⟩ => ⟨c, h, y, x⟩⟩
theorem rel_turn {k n : Nat} (hk : k < 4) {w : Wd} (hw : w ∈ worlds k n) {i j : Nat} (hi : i < n) (hj : j < n) : relIn k n w j i = Qr.turned k (relIn k n w i j) := by
  have : k = 0 ∨ k = 1 ∨ k = 2 ∨ k = 3 := by omega
  rcases this with rfl | rfl | rfl | rfl
  · obtain ⟨l, hl, rfl⟩ := List.mem_map.mp (show w ∈ (orders n).map Wd.ranks from hw)
    have h := cmp_turn (l.getD i 0) (l.getD j 0)
    show cmp (l.getD j 0) (l.getD i 0) = 3 - 1 - cmp (l.getD i 0) (l.getD j 0)
    omega
  · have h := rel1_turn hw hi hj
    show relIn 1 n w j i = 13 - 1 - relIn 1 n w i j
    omega
  · obtain ⟨R, rfl, hC, _⟩ := mem_worlds2.mp hw
    have c1 := rel2_cases (i := i) (j := j) hC
    have c2 := rel2_cases (i := j) (j := i) hC
    rw [← both_comm] at c2
    rcases c1 with ⟨a, e⟩ | ⟨a, b, c, e⟩ | ⟨a, b, c, e⟩ | ⟨a, b, c, e⟩ | ⟨a, b, c, e⟩ <;> rw [e] <;>
    rcases c2 with ⟨a', e'⟩ | ⟨a', b', c', e'⟩ | ⟨a', b', c', e'⟩ | ⟨a', b', c', e'⟩ | ⟨a', b', c', e'⟩ <;> rw [e'] <;> first | rfl | contradiction
  · obtain ⟨a, ha, hw⟩ := List.mem_flatMap.mp (show w ∈ (orders n).flatMap fun a => (orders n).map (Wd.two a) from hw)
    obtain ⟨b, hb, rfl⟩ := List.mem_map.mp hw
    have h1 := cmp_le2 (a.getD i 0) (a.getD j 0)
    have h2 := cmp_le2 (b.getD i 0) (b.getD j 0)
    have h3 := cmp_turn (a.getD i 0) (a.getD j 0)
    have h4 := cmp_turn (b.getD i 0) (b.getD j 0)
    show 3 * cmp (a.getD j 0) (a.getD i 0) + cmp (b.getD j 0) (b.getD i 0) = 9 - 1 - (3 * cmp (a.getD i 0) (a.getD j 0) + cmp (b.getD i 0) (b.getD j 0))
    omega
/-! the search -/
theorem has_iff {m r : Nat} : Qr.has m r = true ↔ m.testBit r = true := by
  unfold Qr.has
  rw [Nat.testBit_eq_decide_div_mod_eq, beq_iff_eq, decide_eq_true_iff]
theorem mem_list {k m t : Nat} : t ∈ Qr.list k m ↔ t < Qr.size k ∧ m.testBit t = true := by
  unfold Qr.list
  rw [List.mem_filter, List.mem_range, has_iff]
open Qr02 (Book News)
theorem search_iff {b : Book} (hk : b.kind < 4) : ∀ (ps : List (Nat × Nat)) (l : List Qr.Fact), (∀ p ∈ ps, p.1 < b.things ∧ p.2 < b.things) → FOk b.kind b.things l → Qr.can b.kind b.things l = true →
    ((Qr02.search b ps l).isSome = true ↔ ∃ w ∈ worlds b.kind b.things, (∀ f ∈ l, relIn b.kind b.things w f.i f.j = f.r) ∧ ∀ p ∈ ps, (b.left p.1 p.2).testBit (relIn b.kind b.things w p.1 p.2) = true)
  | [], l, _, hl, hc => by
    obtain ⟨w, hw, h⟩ := (can_iff hk hl).mp hc
    constructor
    · intro _
      exact ⟨w, hw, h, fun p hp => by cases hp⟩
    · intro _
      rfl
  | p :: ps, l, hp, hl, hc => by
    have hp0 := hp p (List.mem_cons_self ..)
    have hps := fun q hq => hp q (List.mem_cons_of_mem _ hq)
    have hl2 : ∀ t, t < Qr.size b.kind → FOk b.kind b.things (l ++ [⟨p.1, p.2, t⟩]) := fun t ht f hf => by
      rcases List.mem_append.mp hf with hf | hf
      · exact hl f hf
      · rcases List.mem_cons.mp hf with rfl | hf
        · exact ⟨hp0.1, hp0.2, ht⟩
        · cases hf
    show (List.findSome? _ _).isSome = true ↔ _
    rw [List.isSome_findSome?, List.any_eq_true]
    constructor
    · rintro ⟨t, ht, h⟩
      obtain ⟨ht1, ht2⟩ := mem_list.mp ht
      split at h
      · rename_i hc2
        obtain ⟨w, hw, h1, h2⟩ := (search_iff hk ps _ hps (hl2 t ht1) hc2).mp h
        have hr := h1 ⟨p.1, p.2, t⟩ (List.mem_append_right _ (List.mem_cons_self ..))
        refine ⟨w, hw, fun f hf => h1 f (List.mem_append_left _ hf), fun q hq => ?_⟩
        rcases List.mem_cons.mp hq with rfl | hq
        · rw [show relIn b.kind b.things w q.1 q.2 = t from hr]
          exact ht2
        · exact h2 q hq
      · cases h
    · rintro ⟨w, hw, h1, h2⟩
      have ht1 := rel_lt hk hw hp0.1 hp0.2
      have hall : ∀ f ∈ l ++ [⟨p.1, p.2, relIn b.kind b.things w p.1 p.2⟩], relIn b.kind b.things w f.i f.j = f.r := fun f hf => by
        rcases List.mem_append.mp hf with hf | hf
        · exact h1 f hf
        · rcases List.mem_cons.mp hf with rfl | hf
          · rfl
          · cases hf
      have hc2 := (can_iff hk (hl2 _ ht1)).mpr ⟨w, hw, hall⟩
      refine ⟨_, mem_list.mpr ⟨ht1, h2 p (List.mem_cons_self ..)⟩, ?_⟩
      rw [if_pos hc2]
      exact (search_iff hk ps _ hps (hl2 _ ht1) hc2).mpr ⟨w, hw, hall, fun q hq => h2 q (List.mem_cons_of_mem _ hq)⟩
theorem all_bit {k r : Nat} : (Qr.all k).testBit r = decide (r < Qr.size k) := by
  unfold Qr.all
  rw [Nat.testBit_two_pow_sub_one]
theorem left_bit {i j r : Nat} : ∀ (l : List News) (m : Nat), (l.foldl (fun m x => if x.i = i ∧ x.j = j then Qr.meet m x.m else m) m).testBit r = true ↔ m.testBit r = true ∧ ∀ x ∈ l, x.i = i ∧ x.j = j → x.m.testBit r = true
  | [], m => by simp
  | x :: l, m => by
    rw [List.foldl_cons, left_bit l]
    by_cases h : x.i = i ∧ x.j = j
    · rw [if_pos h]
      have : (Qr.meet m x.m).testBit r = (m.testBit r && x.m.testBit r) := by
        unfold Qr.meet
        exact Nat.testBit_and ..
      rw [this, Bool.and_eq_true]
      simp only [List.forall_mem_cons]
      constructor
      · rintro ⟨⟨a, c⟩, d⟩
        exact ⟨a, fun _ => c, d⟩
      · rintro ⟨a, c, d⟩
        exact ⟨⟨a, c h⟩, d⟩
    · rw [if_neg h]
      simp only [List.forall_mem_cons]
      constructor
      · rintro ⟨a, d⟩
        exact ⟨a, fun z => absurd z h, d⟩
      · rintro ⟨a, _, d⟩
        exact ⟨a, d⟩
theorem mem_pairs {n : Nat} {p : Nat × Nat} : p ∈ Qr02.pairs n ↔ p.1 < p.2 ∧ p.2 < n := by
  unfold Qr02.pairs
  rw [List.mem_flatMap]
  constructor
  · rintro ⟨j, hj, h⟩
    obtain ⟨i, hi, rfl⟩ := List.mem_map.mp h
    exact ⟨List.mem_range.mp hi, List.mem_range.mp hj⟩
  · rintro ⟨h1, h2⟩
    exact ⟨p.2, List.mem_range.mpr h2, List.mem_map.mpr ⟨p.1, List.mem_range.mpr h1, rfl⟩⟩
theorem way_iff {b : Book} (hk : b.kind < 4) (hn : b.things ≤ 4) (hb : ∀ x ∈ b.news, x.i < x.j ∧ x.j < b.things) : b.way.isSome = true ↔ ∃ w ∈ worlds b.kind b.things, ∀ x ∈ b.news, x.m.testBit (relIn b.kind b.things w x.i x.j) = true := by
  have h0 : FOk b.kind b.things [] := fun f hf => by cases hf
  have hps : ∀ p ∈ Qr02.pairs b.things, p.1 < b.things ∧ p.2 < b.things := fun p hp => by
    have := mem_pairs.mp hp
    omega
  have hc : Qr.can b.kind b.things [] = true := by
    obtain ⟨w, hw⟩ := worlds_ex b.kind hn
    exact (can_iff hk h0).mpr ⟨w, hw, fun f hf => by cases hf⟩
  unfold Qr02.Book.way
  rw [if_pos hc, search_iff hk _ _ hps h0 hc]
  constructor
  · rintro ⟨w, hw, _, h⟩
    refine ⟨w, hw, fun x hx => ?_⟩
    have hx2 := hb x hx
    have h2 := h (x.i, x.j) (mem_pairs.mpr hx2)
    exact (left_bit _ _).mp h2 |>.2 x hx ⟨rfl, rfl⟩
  · rintro ⟨w, hw, h⟩
    refine ⟨w, hw, (fun f hf => by cases hf), fun p hp => ?_⟩
    have hp2 := hps p hp
    refine (left_bit _ _).mpr ⟨?_, fun x hx he => ?_⟩
    · rw [all_bit]
      exact decide_eq_true (rel_lt hk hw hp2.1 hp2.2)
    · have := h x hx
      rw [he.1, he.2] at this
      exact this
end SC

/-! ## MB6 -/
set_option Elab.async false
set_option linter.all false
set_option maxHeartbeats 4000000
namespace SC
/-! sets of relations; statements -/
theorem bit_set {m r : Nat} (h : m.testBit r = false) (c : Nat) : (m + 2 ^ r).testBit c = (m.testBit c || decide (c = r)) := by
  have e1 : m % 2 ^ (r + 1) = m % 2 ^ r := Nat.eq_of_testBit_eq fun i => by
    rw [Nat.testBit_mod_two_pow, Nat.testBit_mod_two_pow]
    by_cases z : i = r
    · subst z
      rw [h]
      simp
    · have : decide (i < r + 1) = decide (i < r) := by
        rw [Bool.eq_iff_iff]
        simp only [decide_eq_true_eq]
        omega
      rw [this]
  have hb : m % 2 ^ r < 2 ^ r := Nat.mod_lt _ (Nat.pow_pos (by decide))
  have e2 : 2 ^ (r + 1) * (m / 2 ^ (r + 1)) + m % 2 ^ r = m := by
    rw [← e1]
    exact Nat.div_add_mod ..
  have e3 : 2 ^ (r + 1) = 2 ^ r * 2 := Nat.pow_succ 2 r
  have k1 := Nat.two_pow_add_eq_or_of_lt (i := r + 1) (b := m % 2 ^ r) (by omega) (m / 2 ^ (r + 1))
  have k2 := Nat.two_pow_add_eq_or_of_lt (i := r + 1) (b := m % 2 ^ r + 2 ^ r) (by omega) (m / 2 ^ (r + 1))
  have l1 : m.testBit c = ((2 ^ (r + 1) * (m / 2 ^ (r + 1))).testBit c || (m % 2 ^ r).testBit c) := by
    conv => lhs; rw [← e2, k1]
    rw [Nat.testBit_or]
  have l2 : (m + 2 ^ r).testBit c = ((2 ^ (r + 1) * (m / 2 ^ (r + 1))).testBit c || (m % 2 ^ r + 2 ^ r).testBit c) := by
    conv => lhs; rw [← e2, Nat.add_assoc, k2]
    rw [Nat.testBit_or]
  rw [l2, bit_add hb, l1, Bool.or_assoc]
theorem mask_bit : ∀ (l : List Nat) (m c : Nat), (l.foldl (fun m r => if Qr.has m r = true then m else m + 2 ^ r) m).testBit c = true ↔ m.testBit c = true ∨ c ∈ l
  | [], m, c => by simp
  | r :: l, m, c => by
    rw [List.foldl_cons, mask_bit l]
    by_cases h : Qr.has m r = true
    · rw [if_pos h]
      have := has_iff.mp h
      constructor
      · rintro (a | a)
        · exact .inl a
        · exact .inr (List.mem_cons_of_mem _ a)
      · rintro (a | a)
        · exact .inl a
        · rcases List.mem_cons.mp a with rfl | a
          · exact .inl this
          · exact .inr a
    · rw [if_neg h]
      have h2 : m.testBit r = false := by
        cases e : m.testBit r with
        | false => rfl
        | true => exact absurd (has_iff.mpr e) h
      rw [bit_set h2, Bool.or_eq_true, decide_eq_true_iff]
      constructor
      · rintro ((a | a) | a)
        · exact .inl a
        · exact .inr (by rw [a]; exact List.mem_cons_self ..)
        · exact .inr (List.mem_cons_of_mem _ a)
      · rintro (a | a)
        · exact .inl (.inl a)
        · rcases List.mem_cons.mp a with a | a
          · exact .inl (.inr a)
          · exact .inr a
theorem turned_lt {k t : Nat} (hk : k < 4) (ht : t < Qr.size k) : Qr.turned k t < Qr.size k ∧ Qr.turned k (Qr.turned k t) = t := by
  have key : ∀ k, k < 4 → ∀ t, t < Qr.size k → Qr.turned k t < Qr.size k ∧ Qr.turned k (Qr.turned k t) = t := by decide
  exact key k hk t ht
theorem turnedAll_bit {k m r : Nat} (hk : k < 4) (hr : r < Qr.size k) : (Qr.turnedAll k m).testBit (Qr.turned k r) = m.testBit r := by
  rw [Bool.eq_iff_iff]
  unfold Qr.turnedAll Qr.mask
  rw [mask_bit, List.mem_map]
  constructor
  · rintro (a | ⟨t, ht, e⟩)
    · rw [Nat.zero_testBit] at a
      cases a
    · obtain ⟨h1, h2⟩ := mem_list.mp ht
      have e1 := (turned_lt hk h1).2
      have e2 := (turned_lt hk hr).2
      rw [e, e2] at e1
      rw [e1]
      exact h2
  · intro h
    exact .inr ⟨r, mem_list.mpr ⟨hr, h⟩, rfl⟩
theorem turnedAll_lt {k m : Nat} (hk : k < 4) : Qr.turnedAll k m < 2 ^ Qr.size k := by
  apply Nat.lt_pow_two_of_testBit
  intro i hi
  cases e : (Qr.turnedAll k m).testBit i with
  | false => rfl
  | true =>
    unfold Qr.turnedAll Qr.mask at e
    rcases (mask_bit _ _ _).mp e with a | a
    · rw [Nat.zero_testBit] at a
      cases a
    · obtain ⟨t, ht, rfl⟩ := List.mem_map.mp a
      have := (turned_lt hk (mem_list.mp ht).1).1
      omega
open Qr02 (Book News)
/-- a statement as the specification keeps it -/
def ord (k : Nat) (s : Said) : News := if s.one < s.other then ⟨s.one, s.other, s.rel⟩ else ⟨s.other, s.one, Qr.turnedAll k s.rel⟩
structure SOk (k n : Nat) (s : Said) : Prop where
  a : s.one < n
  b : s.other < n
  ne : s.one ≠ s.other
  r : s.rel < 2 ^ Qr.size k
theorem ord_in {k n : Nat} {s : Said} (h : SOk k n s) : (ord k s).i < (ord k s).j ∧ (ord k s).j < n := by
  obtain ⟨a, b, ne, r⟩ := h
  unfold ord
  split
  · exact ⟨by assumption, b⟩
  · exact ⟨by show s.other < s.one; omega, a⟩
theorem ord_lt {k n : Nat} (hk : k < 4) {s : Said} (h : SOk k n s) : (ord k s).m < 2 ^ Qr.size k := by
  unfold ord
  split
  · exact h.r
  · exact turnedAll_lt hk
theorem holds_ord {k n : Nat} (hk : k < 4) {w : Wd} (hw : w ∈ worlds k n) {s : Said} (h : SOk k n s) : (ord k s).m.testBit (relIn k n w (ord k s).i (ord k s).j) = holdsIn k n w s := by
  have e : holdsIn k n w s = s.rel.testBit (relIn k n w s.one s.other) := by
    unfold holdsIn
    rw [Nat.testBit_eq_decide_div_mod_eq]
  rw [e]
  unfold ord
  split
  · rfl
  · show (Qr.turnedAll k s.rel).testBit (relIn k n w s.other s.one) = _
    rw [rel_turn hk hw h.a h.b]
    exact turnedAll_bit hk (rel_lt hk hw h.a h.b)
/-! masks -/
theorem maskOf_bit {α : Type} (p : α → Bool) (l : List α) (c : Nat) : (maskOf p l).testBit c = true ↔ ∃ x, l[c]? = some x ∧ p x = true := by
  have key : ∀ i, i ≤ l.length → (((List.range l.length).zip l).take i).foldl (maskStep p) 0 < 2 ^ i ∧ ((((List.range l.length).zip l).take i).foldl (maskStep p) 0).testBit c = decide (c < i ∧ ∃ x, l[c]? = some x ∧ p x = true) := by
    intro i
    induction i with
    | zero => intro _; simp
    | succ i ih =>
      intro hi
      obtain ⟨h1, h2⟩ := ih (by omega)
      have hz : ((List.range l.length).zip l)[i]? = some (i, l[i]) := by
        rw [List.getElem?_zip_eq_some]
        exact ⟨List.getElem?_range (by omega), List.getElem?_eq_getElem (by omega)⟩
      rw [SD.take_succ_of hz, List.foldl_append]
      show maskStep p _ (i, l[i]) < _ ∧ (maskStep p _ (i, l[i])).testBit c = _
      generalize (((List.range l.length).zip l).take i).foldl (maskStep p) 0 = acc at h1 h2
      have e3 : 2 ^ (i + 1) = 2 ^ i * 2 := Nat.pow_succ 2 i
      have hli : l[i]? = some l[i] := List.getElem?_eq_getElem (by omega)
      unfold maskStep
      by_cases hp : p l[i] = true
      · rw [if_pos hp]
        refine ⟨by show _ + 2 ^ i < _; omega, ?_⟩
        show (_ + 2 ^ i).testBit c = _
        rw [bit_add h1, h2, Bool.eq_iff_iff]
        simp only [Bool.or_eq_true, decide_eq_true_eq]
        constructor
        · rintro (⟨a, b⟩ | rfl)
          · exact ⟨by omega, b⟩
          · exact ⟨by omega, _, hli, hp⟩
        · rintro ⟨a, b⟩
          by_cases z : c = i
          · exact .inr z
          · exact .inl ⟨by omega, b⟩
      · rw [if_neg hp]
        refine ⟨by omega, ?_⟩
        rw [h2, Bool.eq_iff_iff]
        simp only [decide_eq_true_eq]
        constructor
        · rintro ⟨a, b⟩
          exact ⟨by omega, b⟩
        · rintro ⟨a, x, hx, hpx⟩
          refine ⟨?_, x, hx, hpx⟩
          by_cases z : c = i
          · subst z
            rw [hli] at hx
            cases hx
            exact absurd hpx hp
          · omega
  have h := (key l.length (Nat.le_refl _)).2
  rw [List.take_of_length_le (by simp)] at h
  unfold maskOf
  rw [h, decide_eq_true_iff]
  constructor
  · exact fun x => x.2
  · rintro ⟨x, hx, hp⟩
    exact ⟨(List.getElem?_eq_some_iff.mp hx).1, x, hx, hp⟩
theorem within_iff {p m : Nat} : isWithin p m = true ↔ ∀ c, p.testBit c = true → m.testBit c = true := by
  unfold isWithin
  rw [decide_eq_true_iff]
  constructor
  · intro h c hc
    cases e : m.testBit c with
    | true => rfl
    | false => exact absurd h (sub_ne_zero.mpr ⟨c, hc, e⟩)
  · intro h
    apply Classical.byContradiction
    intro z
    obtain ⟨c, h1, h2⟩ := sub_ne_zero.mp z
    rw [h c h1] at h2
    cases h2
theorem mem_known {d : Dk} (g : Good d) {o : List Said} (ho : ∀ s ∈ o, s.one < d.many) {m : Nat} : m ∈ knownOf d o ↔ ∃ w ∈ worlds d.kind d.many, m = maskOf (holdsIn d.kind d.many w) (d.sts ++ o) := by
  unfold knownOf masks
  by_cases h0 : d.many = 0
  · rw [if_pos h0]
    have e1 : d.sts = [] := by
      cases e : d.sts with
      | nil => rfl
      | cons s l =>
        have := (g.ins s (by rw [e]; exact List.mem_cons_self ..)).1
        omega
    have e2 : o = [] := by
      cases e : o with
      | nil => rfl
      | cons s l =>
        have := ho s (by rw [e]; exact List.mem_cons_self ..)
        omega
    subst e2
    rw [e1]
    constructor
    · intro h
      have : m = 0 := by simpa using h
      obtain ⟨w, hw⟩ := worlds_ex d.kind g.many
      exact ⟨w, hw, this⟩
    · rintro ⟨w, hw, rfl⟩
      exact List.mem_cons_self ..
  · rw [if_neg h0, mem_rising, mem_putAll, List.mem_map]
    exact ⟨fun ⟨w, hw, e⟩ => ⟨w, hw, e.symm⟩, fun ⟨w, hw, e⟩ => ⟨w, hw, e.symm⟩⟩
theorem mem_numbersOf {p n i : Nat} : i ∈ numbersOf p n ↔ i < n ∧ p.testBit i = true := by
  unfold numbersOf
  rw [List.mem_filter, List.mem_range, Nat.testBit_eq_decide_div_mod_eq]
theorem size_rel {k : Nat} (hk : k < 4) : relCount k = Qr.size k := by
  have : k = 0 ∨ k = 1 ∨ k = 2 ∨ k = 3 := by omega
  rcases this with rfl | rfl | rfl | rfl <;> rfl
theorem good_sok {d : Dk} (g : Good d) {s : Said} (hs : s ∈ d.sts) : SOk d.kind d.many s := by
  obtain ⟨a, b, c, e⟩ := g.ins s hs
  rw [size_rel g.kind] at e
  exact ⟨a, b, c, e⟩
/-- the specification's book -/
def bookOf (d : Dk) : Book := ⟨d.kind, d.many, d.sts.map (ord d.kind)⟩
theorem news_in {d : Dk} (g : Good d) : ∀ x ∈ (bookOf d).news, x.i < x.j ∧ x.j < d.many := by
  intro x hx
  obtain ⟨s, hs, rfl⟩ := List.mem_map.mp hx
  exact ord_in (good_sok g hs)
theorem mem_some {b : Book} {s : List Nat} {x : News} : x ∈ (Qr04.some_ b s).news ↔ ∃ i ∈ s, b.news[i]? = some x := by
  show x ∈ s.filterMap (fun i => b.news[i]?) ↔ _
  rw [List.mem_filterMap]
theorem can_known {d : Dk} (g : Good d) {part : Nat} : Qr04.can (bookOf d) (numbersOf part d.sts.length) = true ↔ ∃ w ∈ worlds d.kind d.many, ∀ i, i < d.sts.length → part.testBit i = true → ∀ s, d.sts[i]? = some s → holdsIn d.kind d.many w s = true := by
  unfold Qr04.can
  rw [way_iff (b := Qr04.some_ (bookOf d) (numbersOf part d.sts.length)) g.kind g.many (fun x hx => by
    obtain ⟨i, _, h⟩ := mem_some.mp hx
    exact news_in g x (List.mem_of_getElem? h))]
  refine exists_congr fun w => and_congr_right fun hw => ?_
  have hw : w ∈ worlds d.kind d.many := hw
  constructor
  · intro h i hi hp s hs
    have hx := h (ord d.kind s) (mem_some.mpr ⟨i, mem_numbersOf.mpr ⟨hi, hp⟩, by
      show (d.sts.map _)[i]? = _
      rw [List.getElem?_map, hs]
      rfl⟩)
    rw [← holds_ord g.kind hw (good_sok g (List.mem_of_getElem? hs))]
    exact hx
  · intro h x hx
    obtain ⟨i, hi, hx⟩ := mem_some.mp hx
    obtain ⟨h1, h2⟩ := mem_numbersOf.mp hi
    have hx : (d.sts.map (ord d.kind))[i]? = some x := hx
    rw [List.getElem?_map] at hx
    cases e : d.sts[i]? with
    | none => rw [e] at hx; cases hx
    | some s =>
      rw [e] at hx
      cases hx
      have := h i h1 h2 s e
      rw [← holds_ord g.kind hw (good_sok g (List.mem_of_getElem? e))] at this
      exact this
theorem can_eq {d : Dk} (g : Good d) {part : Nat} (hp : part < 2 ^ d.sts.length) : Qr04.can (bookOf d) (numbersOf part d.sts.length) = isConsistent (knownOf d []) part := by
  rw [Bool.eq_iff_iff, can_known g]
  unfold isConsistent
  rw [List.any_eq_true]
  have hlt : ∀ c, part.testBit c = true → c < d.sts.length := fun c hc => by
    apply Classical.byContradiction
    intro z
    rw [Nat.testBit_lt_two_pow (Nat.lt_of_lt_of_le hp (Nat.pow_le_pow_right (by decide) (by omega)))] at hc
    cases hc
  constructor
  · rintro ⟨w, hw, h⟩
    refine ⟨_, (mem_known g (fun s hs => by cases hs)).mpr ⟨w, hw, rfl⟩, within_iff.mpr fun c hc => ?_⟩
    rw [List.append_nil, maskOf_bit]
    have hl := hlt c hc
    have e : d.sts[c]? = some d.sts[c] := List.getElem?_eq_getElem hl
    exact ⟨_, e, h c hl hc _ e⟩
  · rintro ⟨m, hm, h⟩
    obtain ⟨w, hw, rfl⟩ := (mem_known g (fun s hs => by cases hs)).mp hm
    refine ⟨w, hw, fun i hi hpi s hs => ?_⟩
    have := within_iff.mp h i hpi
    rw [List.append_nil, maskOf_bit] at this
    obtain ⟨x, hx, hx2⟩ := this
    rw [hs] at hx
    cases hx
    exact hx2
theorem compl_bit {k : Nat} (hk : k < 4) {c r : Nat} (hc : c < 2 ^ Qr.size k) (hr : r < Qr.size k) : (Qr.all k - c).testBit r = !c.testBit r := by
  have : Qr.all k - c = 2 ^ Qr.size k - (c + 1) := by
    unfold Qr.all
    omega
  rw [this, Nat.testBit_two_pow_sub_succ hc, decide_eq_true hr, Bool.true_and]
theorem follows_eq {d : Dk} (g : Good d) {st : Said} (hst : SOk d.kind d.many st) {part : Nat} (hp : part < 2 ^ d.sts.length) : Qr04.follows (bookOf d) (numbersOf part d.sts.length) (ord d.kind st) = doesImply (knownOf d [st]) part d.sts.length := by
  have hk := g.kind
  have hlt : ∀ c, part.testBit c = true → c < d.sts.length := fun c hc => by
    apply Classical.byContradiction
    intro z
    rw [Nat.testBit_lt_two_pow (Nat.lt_of_lt_of_le hp (Nat.pow_le_pow_right (by decide) (by omega)))] at hc
    cases hc
  have hin := ord_in hst
  have hcl := ord_lt hk hst
  have ho : ∀ s ∈ [st], s.one < d.many := fun s hs => by
    rcases List.mem_cons.mp hs with rfl | hs
    · exact hst.a
    · cases hs
  have hlast : (d.sts ++ [st])[d.sts.length]? = some st := by simp
  have key : ((Qr04.some_ (bookOf d) (numbersOf part d.sts.length)).with_ ⟨(ord d.kind st).i, (ord d.kind st).j, Qr.all d.kind - (ord d.kind st).m⟩).way.isSome = true ↔ ((knownOf d [st]).any fun m => isWithin part m && decide (m / 2 ^ d.sts.length % 2 = 0)) = true := by
    rw [way_iff (b := (Qr04.some_ (bookOf d) (numbersOf part d.sts.length)).with_ ⟨(ord d.kind st).i, (ord d.kind st).j, Qr.all d.kind - (ord d.kind st).m⟩) g.kind g.many (fun x hx => by
      rcases List.mem_append.mp hx with hx | hx
      · obtain ⟨i, _, h⟩ := mem_some.mp hx
        exact news_in g x (List.mem_of_getElem? h)
      · rcases List.mem_cons.mp hx with rfl | hx
        · exact hin
        · cases hx), List.any_eq_true]
    constructor
    · rintro ⟨w, hw, h⟩
      have hw : w ∈ worlds d.kind d.many := hw
      refine ⟨_, (mem_known g ho).mpr ⟨w, hw, rfl⟩, ?_⟩
      rw [Bool.and_eq_true, within_iff, decide_eq_true_iff]
      refine ⟨fun c hc => ?_, ?_⟩
      · have hl := hlt c hc
        have e : d.sts[c]? = some d.sts[c] := List.getElem?_eq_getElem hl
        rw [maskOf_bit]
        refine ⟨d.sts[c], by rw [List.getElem?_append_left hl]; exact e, ?_⟩
        have := h (ord d.kind d.sts[c]) (List.mem_append_left _ (mem_some.mpr ⟨c, mem_numbersOf.mpr ⟨hl, hc⟩, by
          show (d.sts.map _)[c]? = _
          rw [List.getElem?_map, e]
          rfl⟩))
        rw [← holds_ord hk hw (good_sok g (List.mem_of_getElem? e))]
        exact this
      · have h2 := h ⟨(ord d.kind st).i, (ord d.kind st).j, Qr.all d.kind - (ord d.kind st).m⟩ (List.mem_append_right _ (List.mem_cons_self ..))
        have h2 : (Qr.all d.kind - (ord d.kind st).m).testBit (relIn d.kind d.many w (ord d.kind st).i (ord d.kind st).j) = true := h2
        rw [compl_bit hk hcl (rel_lt hk hw (by omega) (by omega)), holds_ord hk hw hst] at h2
        have h3 : (maskOf (holdsIn d.kind d.many w) (d.sts ++ [st])).testBit d.sts.length = false := by
          cases e : (maskOf (holdsIn d.kind d.many w) (d.sts ++ [st])).testBit d.sts.length with
          | false => rfl
          | true =>
            obtain ⟨x, hx, hx2⟩ := (maskOf_bit _ _ _).mp e
            rw [hlast] at hx
            cases hx
            rw [hx2] at h2
            cases h2
        rw [Nat.testBit_eq_decide_div_mod_eq] at h3
        have := of_decide_eq_false h3
        omega
    · rintro ⟨m, hm, h⟩
      obtain ⟨w, hw, rfl⟩ := (mem_known g ho).mp hm
      rw [Bool.and_eq_true, within_iff, decide_eq_true_iff] at h
      obtain ⟨h1, h2⟩ := h
      refine ⟨w, hw, fun x hx => ?_⟩
      rcases List.mem_append.mp hx with hx | hx
      · obtain ⟨i, hi, hx⟩ := mem_some.mp hx
        obtain ⟨q1, q2⟩ := mem_numbersOf.mp hi
        have hx : (d.sts.map (ord d.kind))[i]? = some x := hx
        rw [List.getElem?_map] at hx
        cases e : d.sts[i]? with
        | none => rw [e] at hx; cases hx
        | some s =>
          rw [e] at hx
          cases hx
          have := h1 i q2
          rw [maskOf_bit, List.getElem?_append_left q1, e] at this
          obtain ⟨x, hx, hx2⟩ := this
          cases hx
          rw [← holds_ord hk hw (good_sok g (List.mem_of_getElem? e))] at hx2
          exact hx2
      · rcases List.mem_cons.mp hx with rfl | hx
        · show (Qr.all d.kind - (ord d.kind st).m).testBit (relIn d.kind d.many w (ord d.kind st).i (ord d.kind st).j) = true
          rw [compl_bit hk hcl (rel_lt hk hw (by omega) (by omega)), holds_ord hk hw hst]
          have h3 : (maskOf (holdsIn d.kind d.many w) (d.sts ++ [st])).testBit d.sts.length = false := by
            rw [Nat.testBit_eq_decide_div_mod_eq]
            exact decide_eq_false (by omega)
          cases e : holdsIn d.kind d.many w st with
          | false => rfl
          | true =>
            rw [(maskOf_bit _ _ _).mpr ⟨st, hlast, e⟩] at h3
            cases h3
        · cases hx
  unfold Qr04.follows doesImply
  rw [← Option.not_isSome]
  cases e : ((Qr04.some_ (bookOf d) (numbersOf part d.sts.length)).with_ ⟨(ord d.kind st).i, (ord d.kind st).j, Qr.all d.kind - (ord d.kind st).m⟩).way.isSome with
  | true =>
    have := key.mp e
    rw [show (bookOf d).kind = d.kind from rfl, e, this]
  | false =>
    have : ((knownOf d [st]).any fun m => isWithin part m && decide (m / 2 ^ d.sts.length % 2 = 0)) = false := by
      cases e2 : ((knownOf d [st]).any fun m => isWithin part m && decide (m / 2 ^ d.sts.length % 2 = 0)) with
      | false => rfl
      | true =>
        rw [key.mpr e2] at e
        cases e
    rw [show (bookOf d).kind = d.kind from rfl, e, this]
end SC

/-! ## MB7 -/
set_option Elab.async false
set_option linter.all false
set_option maxHeartbeats 4000000
set_option maxRecDepth 100000
namespace SC
/-! the least sets -/
open Qr04 (within least sets)
theorem within_set {a b : List Nat} : within a b = true ↔ ∀ x ∈ a, x ∈ b := by
  unfold Qr04.within
  rw [List.all_eq_true]
  simp only [List.contains_iff_mem]
def gd (f : List Nat → Bool) (P : List (List Nat)) (s : List Nat) : Bool := f s && !(P.any fun t => f t && (decide (t ≠ s) && within t s))
theorem gd_iff {f : List Nat → Bool} {P : List (List Nat)} {s : List Nat} : gd f P s = true ↔ f s = true ∧ ∀ t ∈ P, f t = true → t ≠ s → within t s = false := by
  unfold gd
  rw [Bool.and_eq_true, Bool.not_eq_true', List.any_eq_false]
  refine and_congr_right fun _ => forall_congr' fun t => forall_congr' fun _ => ?_
  rw [Bool.and_eq_true, Bool.and_eq_true, decide_eq_true_iff]
  constructor
  · intro h h1 h2
    cases e : within t s with
    | false => rfl
    | true => exact absurd ⟨h1, h2, e⟩ h
  · rintro h ⟨h1, h2, h3⟩
    rw [h h1 h2] at h3
    cases h3
def stepL (f : List Nat → Bool) (m : List (List Nat)) (s : List Nat) : List (List Nat) := if (m.any fun k => within k s) = true then m else if f s = true then m ++ [s] else m
theorem least_inv (f : List Nat → Bool) (L : List (List Nat)) (hp : L.Pairwise fun a b => within b a = false) (hn : L.Nodup) : ∀ n, n ≤ L.length → (L.take n).foldl (stepL f) [] = (L.take n).filter (gd f (L.take n)) ∧ ∀ t ∈ L.take n, f t = true → ∃ k ∈ (L.take n).foldl (stepL f) [], within k t = true
  | 0, _ => by simp
  | n + 1, h => by
    obtain ⟨h1, h2⟩ := least_inv f L hp hn n (by omega)
    have hx : L[n]? = some L[n] := List.getElem?_eq_getElem (by omega)
    generalize L[n] = s at hx
    have et : L.take (n + 1) = L.take n ++ [s] := by rw [List.take_add_one, hx]; rfl
    have hsub : (L.take n ++ [s]).Pairwise fun a b => within b a = false := et ▸ hp.sublist (List.take_sublist ..)
    have hns : (L.take n ++ [s]).Nodup := et ▸ hn.sublist (List.take_sublist ..)
    have hbef : ∀ x ∈ L.take n, within s x = false := fun x hx => (List.pairwise_append.mp hsub).2.2 x hx s (List.mem_cons_self ..)
    have hnot : s ∉ L.take n := fun z => (List.nodup_append.mp hns).2.2 s z s (List.mem_cons_self ..) rfl
    rw [et, List.foldl_append]
    show stepL f _ s = _ ∧ ∀ t ∈ _, _ → ∃ k ∈ stepL f _ s, _
    have eold : (L.take n).filter (gd f (L.take n ++ [s])) = (L.take n).filter (gd f (L.take n)) := by
      refine List.filter_congr fun y hy => ?_
      rw [Bool.eq_iff_iff, gd_iff, gd_iff]
      refine and_congr_right fun _ => ?_
      constructor
      · intro h t ht
        exact h t (List.mem_append_left _ ht)
      · intro h t ht
        rcases List.mem_append.mp ht with ht | ht
        · exact h t ht
        · rcases List.mem_cons.mp ht with rfl | ht
          · exact fun _ _ => hbef y hy
          · cases ht
    rw [List.filter_append, eold, ← h1]
    generalize hacc : (L.take n).foldl (stepL f) [] = acc at h1 h2 ⊢
    unfold stepL
    by_cases ha : (acc.any fun k => within k s) = true
    · rw [if_pos ha]
      obtain ⟨k, hk, hks⟩ := List.any_eq_true.mp ha
      have hk2 := hk
      rw [h1, List.mem_filter] at hk2
      obtain ⟨hkP, hkg⟩ := hk2
      have hng : ¬ gd f (L.take n ++ [s]) s = true := fun z => by
        have := (gd_iff.mp z).2 k (List.mem_append_left _ hkP) (gd_iff.mp hkg).1 (fun e => hnot (e ▸ hkP))
        rw [hks] at this
        cases this
      rw [List.filter_cons_of_neg hng]
      refine ⟨by simp, fun t ht hf => ?_⟩
      rcases List.mem_append.mp ht with ht | ht
      · exact h2 t ht hf
      · rcases List.mem_cons.mp ht with rfl | ht
        · exact ⟨k, hk, hks⟩
        · cases ht
    · rw [if_neg ha]
      by_cases hf : f s = true
      · rw [if_pos hf]
        have hg : gd f (L.take n ++ [s]) s = true := gd_iff.mpr ⟨hf, fun t ht hft hne => by
          rcases List.mem_append.mp ht with ht | ht
          · cases e : within t s with
            | false => rfl
            | true =>
              obtain ⟨k, hk, hkt⟩ := h2 t ht hft
              refine absurd (List.any_eq_true.mpr ⟨k, hk, show within k s = true from within_set.mpr fun x hx => within_set.mp e x (within_set.mp hkt x hx)⟩) ha
          · rcases List.mem_cons.mp ht with rfl | ht
            · exact absurd rfl hne
            · cases ht⟩
        rw [List.filter_cons_of_pos hg]
        refine ⟨by simp, fun t ht hft => ?_⟩
        rcases List.mem_append.mp ht with ht | ht
        · obtain ⟨k, hk, hkt⟩ := h2 t ht hft
          exact ⟨k, List.mem_append_left _ hk, hkt⟩
        · rcases List.mem_cons.mp ht with rfl | ht
          · exact ⟨t, List.mem_append_right _ (List.mem_cons_self ..), within_set.mpr fun x hx => hx⟩
          · cases ht
      · rw [if_neg hf]
        have hng : ¬ gd f (L.take n ++ [s]) s = true := fun z => hf (gd_iff.mp z).1
        rw [List.filter_cons_of_neg hng]
        refine ⟨by simp, fun t ht hft => ?_⟩
        rcases List.mem_append.mp ht with ht | ht
        · exact h2 t ht hft
        · rcases List.mem_cons.mp ht with rfl | ht
          · exact absurd hft hf
          · cases ht
theorem least_is (f : List Nat → Bool) (L : List (List Nat)) (hp : L.Pairwise fun a b => within b a = false) (hn : L.Nodup) : least f L = L.filter (gd f L) := by
  have := (least_inv f L hp hn L.length (Nat.le_refl _)).1
  rw [List.take_length] at this
  exact this
/-! the sets of up to five -/
theorem le5 {n : Nat} (h : n ≤ 5) : n = 0 ∨ n = 1 ∨ n = 2 ∨ n = 3 ∨ n = 4 ∨ n = 5 := by omega
theorem sets_perm {n : Nat} (h : n ≤ 5) : (sets n).Perm ((List.range (2 ^ n)).map fun p => numbersOf p n) := by
  refine List.isPerm_iff.mp ?_
  rcases le5 h with rfl | rfl | rfl | rfl | rfl | rfl <;> decide +kernel
theorem sets_up {n : Nat} (h : n ≤ 5) : (sets n).Pairwise fun a b => keyLe a b = true := by
  rcases le5 h with rfl | rfl | rfl | rfl | rfl | rfl <;> decide +kernel
theorem sets_apart {n : Nat} (h : n ≤ 5) : (sets n).Pairwise fun a b => within b a = false := by
  rcases le5 h with rfl | rfl | rfl | rfl | rfl | rfl <;> decide +kernel
theorem sets_nodup {n : Nat} (h : n ≤ 5) : (sets n).Nodup := by
  rcases le5 h with rfl | rfl | rfl | rfl | rfl | rfl <;> decide +kernel
theorem numbers_inj {n o p : Nat} (ho : o < 2 ^ n) (hp : p < 2 ^ n) (h : numbersOf o n = numbersOf p n) : o = p := by
  refine Nat.eq_of_testBit_eq fun i => ?_
  by_cases hi : i < n
  · have := mem_numbersOf (p := o) (n := n) (i := i)
    rw [h, mem_numbersOf] at this
    rw [Bool.eq_iff_iff]
    constructor
    · exact fun x => (this.mpr ⟨hi, x⟩).2
    · exact fun x => (this.mp ⟨hi, x⟩).2
  · have h2 : 2 ^ n ≤ 2 ^ i := Nat.pow_le_pow_right (by decide) (by omega)
    rw [Nat.testBit_lt_two_pow (by omega), Nat.testBit_lt_two_pow (by omega)]
theorem within_numbers {n o p : Nat} (ho : o < 2 ^ n) : within (numbersOf o n) (numbersOf p n) = isWithin o p := by
  rw [Bool.eq_iff_iff, within_set, within_iff]
  constructor
  · intro h c hc
    have hcn : c < n := by
      apply Classical.byContradiction
      intro z
      rw [Nat.testBit_lt_two_pow (Nat.lt_of_lt_of_le ho (Nat.pow_le_pow_right (by decide) (by omega)))] at hc
      cases hc
    exact (mem_numbersOf.mp (h c (mem_numbersOf.mpr ⟨hcn, hc⟩))).2
  · intro h x hx
    obtain ⟨h1, h2⟩ := mem_numbersOf.mp hx
    exact mem_numbersOf.mpr ⟨h1, h x h2⟩
theorem keyLe_anti {a b : List Nat} (h1 : keyLe a b = true) (h2 : keyLe b a = true) : a = b := by
  have e := List.le_antisymm (of_decide_eq_true h1) (of_decide_eq_true h2)
  unfold keyOf castRow at e
  have e := (List.cons.inj e).2
  exact (List.map_inj_right fun x y h => by omega).mp e
theorem ordered_up (parts : List Nat) (n : Nat) : (ordered parts n).Pairwise fun a b => keyLe a b = true := by
  unfold ordered
  refine List.pairwise_mergeSort (fun a b c h1 h2 => ?_) (fun a b => ?_) _
  · exact decide_eq_true (List.le_trans (of_decide_eq_true h1) (of_decide_eq_true h2))
  · rcases List.le_total (keyOf a) (keyOf b) with h | h
    · rw [show keyLe a b = true from decide_eq_true h]; rfl
    · rw [show keyLe b a = true from decide_eq_true h, Bool.or_true]
theorem least_ordered {n : Nat} (h : n ≤ 5) (f : List Nat → Bool) (p : Nat → Bool) (hf : ∀ o, o < 2 ^ n → f (numbersOf o n) = p o) : least f (sets n) = ordered (minimal ((List.range (2 ^ n)).filter p)) n := by
  rw [least_is f _ (sets_apart h) (sets_nodup h)]
  have hperm := sets_perm h
  have hgd : ∀ part, part < 2 ^ n → gd f (sets n) (numbersOf part n) = (p part && !(((List.range (2 ^ n)).filter p).any fun o => decide (o ≠ part) && isWithin o part)) := by
    intro part hp
    unfold gd
    rw [hf part hp, hperm.any_eq, List.any_map, List.any_filter]
    congr 2
    rw [Bool.eq_iff_iff, List.any_eq_true, List.any_eq_true]
    refine exists_congr fun o => and_congr_right fun ho => ?_
    have ho := List.mem_range.mp ho
    show (f (numbersOf o n) && (decide (numbersOf o n ≠ numbersOf part n) && within (numbersOf o n) (numbersOf part n))) = true ↔ _
    rw [hf o ho, within_numbers ho, show decide (numbersOf o n ≠ numbersOf part n) = decide (o ≠ part) from by
      rw [Bool.eq_iff_iff, decide_eq_true_iff, decide_eq_true_iff]
      exact ⟨fun a b => a (by rw [b]), fun a b => a (numbers_inj ho hp b)⟩]
  have e1 : (minimal ((List.range (2 ^ n)).filter p)).map (fun q => numbersOf q n) = ((List.range (2 ^ n)).map fun q => numbersOf q n).filter (gd f (sets n)) := by
    unfold minimal
    rw [List.filter_filter, List.filter_map]
    congr 1
    refine List.filter_congr fun part hp => ?_
    show _ = gd f (sets n) (numbersOf part n)
    rw [hgd part (List.mem_range.mp hp), Bool.and_comm]
  have e2 : ((sets n).filter (gd f (sets n))).Perm (ordered (minimal ((List.range (2 ^ n)).filter p)) n) := by
    unfold ordered
    rw [e1]
    exact (hperm.filter _).trans (List.mergeSort_perm _ _).symm
  exact e2.eq_of_pairwise (fun a b _ _ h1 h2 => keyLe_anti h1 h2) ((sets_up h).sublist List.filter_sublist) (ordered_up _ _)
end SC

/-! ## MB8 -/
set_option Elab.async false
set_option linter.all false
set_option maxHeartbeats 4000000
set_option maxRecDepth 100000
namespace SC
open Qr04 (within least sets others)
/-! the calls answer as the specification's -/
theorem others_numbers {n part : Nat} (h : part < 2 ^ n) : others n (numbersOf part n) = numbersOf (2 ^ n - 1 - part) n := by
  unfold Qr04.others
  conv => rhs; unfold numbersOf
  refine List.filter_congr fun i hi => ?_
  have hi := List.mem_range.mp hi
  have e : 2 ^ n - 1 - part = 2 ^ n - (part + 1) := by omega
  rw [e, ← Nat.testBit_eq_decide_div_mod_eq, Nat.testBit_two_pow_sub_succ h, decide_eq_true hi, Bool.true_and]
  rw [show (numbersOf part n).contains i = part.testBit i from by
    rw [Bool.eq_iff_iff, List.contains_iff_mem, mem_numbersOf]
    exact ⟨fun x => x.2, fun x => ⟨hi, x⟩⟩]
theorem news_len (d : Dk) : (bookOf d).news.length = d.sts.length := List.length_map _
section
variable {d : Dk} (g : Good d)
include g
theorem clashes_eq : Qr04.clashes (bookOf d) = conflicts (knownOf d []) d.sts.length := by
  unfold Qr04.clashes conflicts
  rw [news_len]
  exact least_ordered g.len _ _ fun o ho => by rw [can_eq g ho]
theorem cures_eq : Qr04.cures (bookOf d) = cures (knownOf d []) d.sts.length := by
  unfold Qr04.cures cures
  rw [news_len]
  exact least_ordered g.len _ _ fun o ho => by rw [others_numbers ho, can_eq g (by omega)]
theorem reasons_eq {st : Said} (hs : SOk d.kind d.many st) : Qr04.reasons (bookOf d) (ord d.kind st) = reasons (knownOf d [st]) d.sts.length := by
  unfold Qr04.reasons reasons
  rw [news_len]
  exact least_ordered g.len _ _ fun o ho => by rw [follows_eq g hs ho]
theorem follows_all {st : Said} (hs : SOk d.kind d.many st) : Qr04.follows (bookOf d) (List.range (bookOf d).news.length) (ord d.kind st) = doesImply (knownOf d [st]) (2 ^ d.sts.length - 1) d.sts.length := by
  have hp : 0 < 2 ^ d.sts.length := Nat.pow_pos (by decide)
  have e : List.range (bookOf d).news.length = numbersOf (2 ^ d.sts.length - 1) d.sts.length := by
    rw [news_len]
    unfold numbersOf
    rw [List.filter_eq_self.mpr]
    intro i hi
    rw [← Nat.testBit_eq_decide_div_mod_eq, Nat.testBit_two_pow_sub_one]
    exact decide_eq_true (List.mem_range.mp hi)
  rw [e, follows_eq g hs (by omega)]
end
theorem listed_fold : ∀ (rows : List (List Nat)) (a : List Nat), rows.foldl (fun a r => a ++ [r.length] ++ r) a = a ++ rows.flatMap fun s => s.length :: s
  | [], a => by simp
  | r :: rows, a => by
    rw [List.foldl_cons, listed_fold rows]
    simp
theorem listed_eq (rows : List (List Nat)) : listed rows = rows.length :: rows.flatMap fun s => s.length :: s := by
  unfold listed
  rw [listed_fold]
  rfl
/-! the cheapest -/
theorem sum_fold : ∀ (l : List Nat) (a : Nat), l.foldl (fun a b => a + b) a = a + l.sum
  | [], a => rfl
  | x :: l, a => by
    rw [List.foldl_cons, sum_fold l, List.sum_cons]
    omega
theorem sum_eq (l : List Nat) : Qr04.sum l = l.sum := by
  unfold Qr04.sum
  rw [sum_fold]
  omega
theorem fold_pick (P : List Nat → Nat) : ∀ (l : List (List Nat)) (b : List Nat), ∃ (j : Nat) (r : List Nat), l.foldl (fun (a : Option (List Nat)) s => match a with
    | none => some s
    | some b => if P s < P b then some s else some b) (some b) = some r ∧ (b :: l)[j]? = some r ∧ (∀ y ∈ b :: l, P r ≤ P y) ∧ ∀ k y, k < j → (b :: l)[k]? = some y → P r < P y
  | [], b => by
    refine ⟨0, b, rfl, rfl, fun y hy => ?_, fun k y hk => absurd hk (Nat.not_lt_zero _)⟩
    rcases List.mem_cons.mp hy with rfl | hy
    · exact Nat.le_refl _
    · cases hy
  | s :: l, b => by
    rw [List.foldl_cons]
    simp only
    by_cases h : P s < P b
    · rw [if_pos h]
      obtain ⟨j, r, h1, h2, h3, h4⟩ := fold_pick P l s
      have hs := h3 s (List.mem_cons_self ..)
      refine ⟨j + 1, r, h1, by simpa using h2, fun y hy => ?_, fun k y hk hy => ?_⟩
      · rcases List.mem_cons.mp hy with rfl | hy
        · omega
        · exact h3 y hy
      · cases k with
        | zero =>
          simp at hy
          rw [← hy]
          omega
        | succ k => exact h4 k y (by omega) (by simpa using hy)
    · rw [if_neg h]
      obtain ⟨j, r, h1, h2, h3, h4⟩ := fold_pick P l b
      have hb := h3 b (List.mem_cons_self ..)
      cases j with
      | zero =>
        simp at h2
        subst h2
        refine ⟨0, b, h1, rfl, fun y hy => ?_, fun k y hk => absurd hk (Nat.not_lt_zero _)⟩
        rcases List.mem_cons.mp hy with rfl | hy
        · exact Nat.le_refl _
        · rcases List.mem_cons.mp hy with rfl | hy
          · omega
          · exact h3 y (List.mem_cons_of_mem _ hy)
      | succ j =>
        have hlt := h4 0 b (by omega) rfl
        refine ⟨j + 2, r, h1, by simpa using h2, fun y hy => ?_, fun k y hk hy => ?_⟩
        · rcases List.mem_cons.mp hy with rfl | hy
          · exact hb
          · rcases List.mem_cons.mp hy with rfl | hy
            · omega
            · exact h3 y (List.mem_cons_of_mem _ hy)
        · cases k with
          | zero =>
            simp at hy
            rw [← hy]
            exact hlt
          | succ k =>
            cases k with
            | zero =>
              simp at hy
              rw [← hy]
              omega
            | succ k => exact h4 (k + 1) y (by omega) (by simpa using hy)
theorem cheapest_eq {d : Dk} {found : List (List Nat)} (h : found ≠ []) : Qr04.cheapest d.prices found = some (pickOf d found).2 ∧ (pickOf d found).1 = priceOf d (pickOf d found).2 ∧ (pickOf d found).2 ∈ found := by
  obtain ⟨b, l, rfl⟩ : ∃ b l, found = b :: l := by
    cases found with
    | nil => exact absurd rfl h
    | cons b l => exact ⟨b, l, rfl⟩
  obtain ⟨j, r, h1, h2, h3, h4⟩ := fold_pick (priceOf d) l b
  have e1 : Qr04.cheapest d.prices (b :: l) = some r := by
    rw [← h1]
    unfold Qr04.cheapest
    rw [List.foldl_cons]
    simp only [sum_eq]
    rfl
  have hmem := List.mem_of_getElem? h2
  obtain ⟨m1, m2⟩ := leastOf_is (ps := (b :: l).map (priceOf d)) (by simp)
  have hle : leastOf ((b :: l).map (priceOf d)) = priceOf d r := by
    have a1 := m2 _ (List.mem_map_of_mem hmem)
    obtain ⟨y, hy, hy2⟩ := List.mem_map.mp m1
    have a2 := h3 y hy
    omega
  obtain ⟨i1, i2⟩ := idx_first m1
  have hj : ((b :: l).map (priceOf d)).idxOf (leastOf ((b :: l).map (priceOf d))) = j := by
    rcases Nat.lt_trichotomy (((b :: l).map (priceOf d)).idxOf (leastOf ((b :: l).map (priceOf d)))) j with z | z | z
    · rw [List.getElem?_map] at i1
      cases e : (b :: l)[((b :: l).map (priceOf d)).idxOf (leastOf ((b :: l).map (priceOf d)))]? with
      | none => rw [e] at i1; cases i1
      | some y =>
        rw [e] at i1
        have i1 : priceOf d y = _ := Option.some.inj i1
        have := h4 _ y z e
        omega
    · exact z
    · have hh : ((b :: l).map (priceOf d))[j]? = some (priceOf d r) := by rw [List.getElem?_map, h2]; rfl
      exact absurd hle.symm (i2 j _ z hh)
  have e2 : (pickOf d (b :: l)).2 = r := by
    unfold pickOf
    show List.getD _ _ _ = r
    rw [hj, List.getD_eq_getElem?_getD, h2]
    rfl
  refine ⟨by rw [e1, e2], ?_, by rw [e2]; exact hmem⟩
  rw [e2]
  exact hle
/-! what is taken out -/
theorem without_take {α : Type} (l : List α) (gone : List Nat) : ∀ i, i ≤ l.length → ((List.range i).filter fun i => !decide (i ∈ gone)).filterMap (fun i => l[i]?) = ((((List.range l.length).zip l).take i).filter fun p => !decide (p.1 ∈ gone)).map (·.2)
  | 0, _ => by simp
  | i + 1, h => by
    have hz : ((List.range l.length).zip l)[i]? = some (i, l[i]) := by
      rw [List.getElem?_zip_eq_some]
      exact ⟨List.getElem?_range (by omega), List.getElem?_eq_getElem (by omega)⟩
    have hl : l[i]? = some l[i] := List.getElem?_eq_getElem (by omega)
    rw [SD.take_succ_of hz, List.range_succ, List.filter_append, List.filter_append, List.filterMap_append, List.map_append, without_take l gone i (by omega)]
    congr 1
    by_cases hb : i ∈ gone
    · rw [List.filter_cons_of_neg (by simpa using hb), List.filter_cons_of_neg (by simpa using hb)]
      rfl
    · rw [List.filter_cons_of_pos (by simpa using hb), List.filter_cons_of_pos (by simpa using hb)]
      simp [hl]
theorem others_eq (n : Nat) (gone : List Nat) : others n gone = (List.range n).filter fun i => !decide (i ∈ gone) := by
  unfold Qr04.others
  refine List.filter_congr fun i _ => ?_
  rw [show gone.contains i = decide (i ∈ gone) from by
    rw [Bool.eq_iff_iff, List.contains_iff_mem, decide_eq_true_iff]]
theorem without_eq {α : Type} (l : List α) (gone : List Nat) : (others l.length gone).filterMap (fun i => l[i]?) = without l gone := by
  rw [others_eq, without_take l gone l.length (Nat.le_refl _), List.take_of_length_le (by simp)]
  rfl
theorem without_nat (l : List Nat) (gone : List Nat) : ((others l.length gone).map fun i => l.getD i 0) = without l gone := by
  have key : ∀ o : List Nat, (∀ i ∈ o, i < l.length) → (o.map fun i => l.getD i 0) = o.filterMap fun i => l[i]? := by
    intro o
    induction o with
    | nil => intro _; rfl
    | cons i o ih =>
      intro h
      have hi := h i (List.mem_cons_self ..)
      have e : l[i]? = some (l.getD i 0) := PC.getD_at hi
      rw [List.map_cons, List.filterMap_cons, e, ih fun j hj => h j (List.mem_cons_of_mem _ hj)]
  rw [← without_eq]
  refine key _ fun i hi => ?_
  rw [others_eq] at hi
  exact List.mem_range.mp (List.mem_filter.mp hi).1
def houseOf (d : Dk) : Qr04.House := ⟨bookOf d, d.prices⟩
theorem house_rem {d : Dk} (g : Good d) (gone : List Nat) : Qr04.without (houseOf d) gone = houseOf (rem d gone) := by
  show Qr04.House.mk (Qr04.some_ (bookOf d) (others (bookOf d).news.length gone)) ((others (bookOf d).news.length gone).map fun i => d.prices.getD i 0) = ⟨bookOf (rem d gone), without d.prices gone⟩
  have e1 : Qr04.some_ (bookOf d) (others (bookOf d).news.length gone) = bookOf (rem d gone) := by
    show Qr02.Book.mk d.kind d.many ((others (bookOf d).news.length gone).filterMap fun i => (bookOf d).news[i]?) = ⟨d.kind, d.many, (without d.sts gone).map (ord d.kind)⟩
    rw [without_eq]
    show Qr02.Book.mk d.kind d.many (without (d.sts.map (ord d.kind)) gone) = _
    rw [without_map]
  rw [e1]
  congr 1
  rw [news_len, ← g.lens]
  exact without_nat d.prices gone
theorem out_len {n : Nat} {gone : List Nat} (hn : gone.Nodup) (hb : ∀ i ∈ gone, i < n) : ((List.range n).filter fun i => !decide (i ∈ gone)).length = n - gone.length := by
  have h1 : ((List.range n).filter fun i => decide (i ∈ gone)).Perm gone := by
    refine (List.perm_ext_iff_of_nodup (List.nodup_range.sublist List.filter_sublist) hn).mpr fun i => ?_
    rw [List.mem_filter, List.mem_range, decide_eq_true_iff]
    exact ⟨fun x => x.2, fun x => ⟨hb i x, x⟩⟩
  have h2 := List.length_eq_countP_add_countP (p := fun i => decide (i ∈ gone)) (l := List.range n)
  rw [List.countP_eq_length_filter, List.countP_eq_length_filter, h1.length_eq, List.length_range] at h2
  have h3 : ((List.range n).filter fun i => !decide (i ∈ gone)).length = ((List.range n).filter fun a => decide ¬(decide (a ∈ gone) = true)).length := by
    congr 1
    refine List.filter_congr fun i _ => ?_
    by_cases hi : i ∈ gone <;> simp [hi]
  omega
end SC

/-! ## MB9 -/
set_option Elab.async false
set_option linter.all false
set_option maxHeartbeats 4000000
set_option maxRecDepth 100000
namespace SC
theorem isSt_is {d : Dk} {i j m : Nat} : isSt d i j m = true ↔ i < d.many ∧ j < d.many ∧ i ≠ j ∧ m < 2 ^ relCount d.kind := by
  constructor
  · exact isSt_in
  · rintro ⟨h1, h2, h3, h4⟩
    unfold isSt
    rw [if_neg (by simp; omega)]
    exact decide_eq_true h4
theorem isSt_spec {d : Dk} (g : Good d) {i j m : Nat} : (Qr02.isPair ⟨bookOf d⟩ i j = false ∨ Qr.all (bookOf d).kind < m) ↔ ¬ isSt d i j m = true := by
  rw [isSt_is, size_rel g.kind]
  show (((decide (i < d.many)) && (decide (j < d.many) && i != j)) = false ∨ 2 ^ Qr.size d.kind - 1 < m) ↔ _
  have hp : 0 < 2 ^ Qr.size d.kind := Nat.pow_pos (by decide)
  simp only [Bool.and_eq_false_iff, decide_eq_false_iff_not, bne_eq_false_iff_eq]
  omega
theorem sok_of {d : Dk} (g : Good d) {i j m : Nat} (h : isSt d i j m = true) : SOk d.kind d.many ⟨i, j, m⟩ := by
  obtain ⟨h1, h2, h3, h4⟩ := isSt_is.mp h
  rw [size_rel g.kind] at h4
  exact ⟨h1, h2, h3, h4⟩
theorem ordered_ord (d : Dk) (i j m : Nat) : Qr02.ordered ⟨bookOf d⟩ i j m = ord d.kind ⟨i, j, m⟩ := rfl
open Qr04Neutral (step out)
theorem out_ok (n : Nat) : out (Qr04.ok (n : Int)) = castI [n] := rfl
theorem out_told (rows : List (List Nat)) : out (Qr04.told rows) = castI (listed rows) := by
  rw [listed_eq]
  rfl
theorem step_eq {d : Dk} (g : Good d) {c : Nat} (hc : c < 9) {ns : List Nat} (hn : ns.length = numCount c) : step (houseOf d) [((c : Int) :: castI ns)] = (houseOf (step9 d c ns).1, (step9 d c ns).2) := by
  have h9 : c = 0 ∨ c = 1 ∨ c = 2 ∨ c = 3 ∨ c = 4 ∨ c = 5 ∨ c = 6 ∨ c = 7 ∨ c = 8 := by omega
  rcases h9 with rfl | rfl | rfl | rfl | rfl | rfl | rfl | rfl | rfl
  · obtain ⟨a, b, rfl⟩ := PC.lst2 hn
    show ((Qr04.step (houseOf d) (.begins a b)).1, out (Qr04.step (houseOf d) (.begins a b)).2) = _
    unfold step9
    show _ = (houseOf (match dBegins d [a, b] with | .bad z => (d, [z]) | .ok d' r => (d', castI r)).1, (match dBegins d [a, b] with | .bad z => (d, [z]) | .ok d' r => (d', castI r)).2)
    have e : Qr04.step (houseOf d) (.begins a b) = if 4 ≤ a ∨ b = 0 ∨ 4 < b then (houseOf d, Qr04.ok (-1)) else (⟨⟨a, b, []⟩, []⟩, Qr04.ok 0) := rfl
    rw [e]
    unfold dBegins
    simp only
    by_cases h : 4 ≤ a ∨ b = 0 ∨ 4 < b
    · have h2 : ¬ (decide (a < 4) && decide (1 ≤ b ∧ b ≤ 4)) = true := by
        simp
        omega
      rw [if_pos h, if_neg h2]
      rfl
    · have h2 : (decide (a < 4) && decide (1 ≤ b ∧ b ≤ 4)) = true := by
        simp
        omega
      rw [if_neg h, if_pos h2]
      rfl
  · obtain ⟨w, i, j, m, rfl⟩ := PC.lst4 hn
    show ((Qr04.step (houseOf d) (.told w i j m)).1, out (Qr04.step (houseOf d) (.told w i j m)).2) = _
    unfold step9
    show _ = (houseOf (match dTold d [w, i, j, m] with | .bad z => (d, [z]) | .ok d' r => (d', castI r)).1, (match dTold d [w, i, j, m] with | .bad z => (d, [z]) | .ok d' r => (d', castI r)).2)
    have e : Qr04.step (houseOf d) (.told w i j m) = if Qr02.isPair ⟨bookOf d⟩ i j = false ∨ Qr.all (bookOf d).kind < m ∨ w = 0 ∨ 1000 < w then (houseOf d, Qr04.ok (-1)) else if (bookOf d).news.length = 5 then (houseOf d, Qr04.ok (-7)) else (⟨(bookOf d).with_ (ord d.kind ⟨i, j, m⟩), d.prices ++ [w]⟩, Qr04.ok ((bookOf d).news.length : Nat)) := rfl
    rw [e]
    unfold dTold
    simp only
    have hs := isSt_spec g (i := i) (j := j) (m := m)
    by_cases h : isSt d i j m = true ∧ 1 ≤ w ∧ w ≤ 1000
    · have h1 : ¬ (Qr02.isPair ⟨bookOf d⟩ i j = false ∨ Qr.all (bookOf d).kind < m ∨ w = 0 ∨ 1000 < w) := by
        rintro (z | z | z)
        · exact (hs.mp (.inl z)) h.1
        · exact (hs.mp (.inr z)) h.1
        · omega
      have hcond : (isSt d i j m && decide (1 ≤ w ∧ w ≤ 1000)) = true := by
        rw [h.1]
        simpa using h.2
      rw [if_neg h1, if_pos hcond, news_len]
      have h5 := g.len
      by_cases hl : d.sts.length = 5
      · have hl2 : ¬ decide (d.sts.length < 5) = true := by
          simp
          omega
        rw [if_pos hl, if_neg hl2]
        rfl
      · have hl2 : decide (d.sts.length < 5) = true := decide_eq_true (by omega)
        rw [if_neg hl, if_pos hl2]
        have e1 : (⟨(bookOf d).with_ (ord d.kind ⟨i, j, m⟩), d.prices ++ [w]⟩ : Qr04.House) = houseOf ⟨d.kind, d.many, d.sts ++ [(⟨i, j, m⟩ : Said)], d.prices ++ [w]⟩ := by
          show (⟨⟨d.kind, d.many, d.sts.map (ord d.kind) ++ [ord d.kind ⟨i, j, m⟩]⟩, d.prices ++ [w]⟩ : Qr04.House) = ⟨⟨d.kind, d.many, (d.sts ++ [(⟨i, j, m⟩ : Said)]).map (ord d.kind)⟩, d.prices ++ [w]⟩
          rw [List.map_append]
          rfl
        rw [e1]
        rfl
    · have h1 : (Qr02.isPair ⟨bookOf d⟩ i j = false ∨ Qr.all (bookOf d).kind < m ∨ w = 0 ∨ 1000 < w) := by
        by_cases z : isSt d i j m = true
        · have : w = 0 ∨ 1000 < w := by
            apply Classical.byContradiction
            intro y
            exact h ⟨z, by omega⟩
          exact .inr (.inr this)
        · rcases hs.mpr z with y | y
          · exact .inl y
          · exact .inr (.inl y)
      have hcond : ¬ (isSt d i j m && decide (1 ≤ w ∧ w ≤ 1000)) = true := by
        rw [Bool.and_eq_true, decide_eq_true_iff]
        exact h
      rw [if_pos h1, if_neg hcond]
      rfl
  · obtain ⟨i, rfl⟩ := PC.lst1 hn
    show ((Qr04.step (houseOf d) (.drop i)).1, out (Qr04.step (houseOf d) (.drop i)).2) = _
    unfold step9
    show _ = (houseOf (match dDrop d [i] with | .bad z => (d, [z]) | .ok d' r => (d', castI r)).1, (match dDrop d [i] with | .bad z => (d, [z]) | .ok d' r => (d', castI r)).2)
    have e : Qr04.step (houseOf d) (.drop i) = if (bookOf d).news.length ≤ i then (houseOf d, Qr04.ok (-2)) else (Qr04.without (houseOf d) [i], Qr04.ok ((bookOf d).news.length - 1 : Nat)) := rfl
    rw [e, news_len, house_rem g]
    unfold dDrop
    simp only
    by_cases h : d.sts.length ≤ i
    · have h2 : ¬ decide (i < d.sts.length) = true := by
        simp
        omega
      rw [if_pos h, if_neg h2]
      rfl
    · have h2 : decide (i < d.sts.length) = true := decide_eq_true (by omega)
      rw [if_neg h, if_pos h2]
      have hl : (rem d [i]).sts.length = d.sts.length - 1 := by
        show (without d.sts [i]).length = _
        rw [without_len]
        exact out_len (gone := [i]) (by simp) (fun x hx => by
          have : x = i := by simpa using hx
          omega)
      rw [hl]
      rfl
  · obtain rfl : ns = [] := List.length_eq_zero_iff.mp hn
    show ((houseOf d), out (Qr04.told (Qr04.clashes (bookOf d)))) = (houseOf d, castI (listed (conflicts (knownOf d []) d.sts.length)))
    rw [out_told, clashes_eq g]
  · obtain rfl : ns = [] := List.length_eq_zero_iff.mp hn
    show ((houseOf d), out (Qr04.told (Qr04.cures (bookOf d)))) = (houseOf d, castI (listed (cures (knownOf d []) d.sts.length)))
    rw [out_told, cures_eq g]
  · obtain rfl : ns = [] := List.length_eq_zero_iff.mp hn
    obtain ⟨e1, e2, _⟩ := cheapest_eq (d := d) (cures_ne (masks_ne d.kind g.many _) d.sts.length)
    show ((houseOf d), out (match Qr04.cheapest d.prices (Qr04.cures (bookOf d)) with
      | none => Qr04.ok (-6)
      | some s => ⟨(Qr04.sum (s.map fun i => d.prices.getD i 0) : Nat), s⟩)) = (houseOf d, castI ([(cheapestOf d).1] ++ (cheapestOf d).2))
    rw [cures_eq g, show Qr04.cheapest d.prices (cures (knownOf d []) d.sts.length) = some (cheapestOf d).2 from e1, show (cheapestOf d).1 = priceOf d (cheapestOf d).2 from e2]
    simp only [sum_eq]
    rfl
  · obtain ⟨i, j, m, rfl⟩ := PC.lst3 hn
    show ((Qr04.step (houseOf d) (.follows i j m)).1, out (Qr04.step (houseOf d) (.follows i j m)).2) = _
    unfold step9
    show _ = (houseOf (match dFollows d [i, j, m] with | .bad z => (d, [z]) | .ok d' r => (d', castI r)).1, (match dFollows d [i, j, m] with | .bad z => (d, [z]) | .ok d' r => (d', castI r)).2)
    have e : Qr04.step (houseOf d) (.follows i j m) = (houseOf d, if Qr02.isPair ⟨bookOf d⟩ i j = false ∨ Qr.all (bookOf d).kind < m then Qr04.ok (-1) else Qr04.ok (Qr04.flag (Qr04.follows (bookOf d) (List.range (bookOf d).news.length) (ord d.kind ⟨i, j, m⟩)) : Nat)) := rfl
    rw [e]
    unfold dFollows
    simp only
    by_cases h : isSt d i j m = true
    · rw [if_neg (fun z => (isSt_spec g).mp z h), if_pos h, follows_all g (sok_of g h)]
      rfl
    · rw [if_pos ((isSt_spec g).mpr h), if_neg h]
      rfl
  · obtain ⟨i, j, m, rfl⟩ := PC.lst3 hn
    show ((Qr04.step (houseOf d) (.reasons i j m)).1, out (Qr04.step (houseOf d) (.reasons i j m)).2) = _
    unfold step9
    show _ = (houseOf (match dReasons d [i, j, m] with | .bad z => (d, [z]) | .ok d' r => (d', castI r)).1, (match dReasons d [i, j, m] with | .bad z => (d, [z]) | .ok d' r => (d', castI r)).2)
    have e : Qr04.step (houseOf d) (.reasons i j m) = (houseOf d, if Qr02.isPair ⟨bookOf d⟩ i j = false ∨ Qr.all (bookOf d).kind < m then Qr04.ok (-1) else Qr04.told (Qr04.reasons (bookOf d) (ord d.kind ⟨i, j, m⟩))) := rfl
    rw [e]
    unfold dReasons
    simp only
    by_cases h : isSt d i j m = true
    · rw [if_neg (fun z => (isSt_spec g).mp z h), if_pos h, reasons_eq g (sok_of g h), out_told]
    · rw [if_pos ((isSt_spec g).mpr h), if_neg h]
      rfl
  · obtain rfl : ns = [] := List.length_eq_zero_iff.mp hn
    obtain ⟨e1, e2, e3⟩ := cheapest_eq (d := d) (cures_ne (masks_ne d.kind g.many _) d.sts.length)
    have e1 : Qr04.cheapest d.prices (cures (knownOf d []) d.sts.length) = some (cheapestOf d).2 := e1
    have e3 : (cheapestOf d).2 ∈ cures (knownOf d []) d.sts.length := e3
    have e : Qr04.step (houseOf d) .mend = match Qr04.cheapest d.prices (Qr04.cures (bookOf d)) with
      | none => (houseOf d, Qr04.ok (-6))
      | some s => (Qr04.without (houseOf d) s, ⟨((bookOf d).news.length - s.length : Nat), s⟩) := rfl
    show ((Qr04.step (houseOf d) .mend).1, out (Qr04.step (houseOf d) .mend).2) = (houseOf (rem d (cheapestOf d).2), castI ([(rem d (cheapestOf d).2).sts.length] ++ (cheapestOf d).2))
    rw [e, cures_eq g, e1]
    show (Qr04.without (houseOf d) (cheapestOf d).2, out ⟨((bookOf d).news.length - (cheapestOf d).2.length : Nat), (cheapestOf d).2⟩) = _
    rw [house_rem g, news_len]
    have hl : (rem d (cheapestOf d).2).sts.length = d.sts.length - (cheapestOf d).2.length := by
      obtain ⟨p, _, hp⟩ := mem_ordered e3
      show (without d.sts (cheapestOf d).2).length = _
      rw [without_len]
      refine out_len ?_ fun x hx => (cures_in e3).2 x hx
      rw [hp]
      exact List.nodup_range.sublist List.filter_sublist
    rw [hl]
    rfl
end SC

/-! ## MM -/
set_option Elab.async false
set_option linter.all false
set_option maxHeartbeats 4000000
set_option maxRecDepth 100000
namespace SC
/-! all calls -/
theorem whole_is (c : List (List Int)) : PyQr04.whole c = c := by
  unfold PyQr04.whole
  split <;> rfl
theorem shape_some {p : Int} {n k : Nat} (h : PyQr04.shape p = some (n, k)) : ∃ c : Nat, c < 9 ∧ p = (c : Int) ∧ n = numCount c ∧ k = 0 := by
  unfold PyQr04.shape at h
  split at h
  · cases h; exact ⟨0, by decide, by assumption, rfl, rfl⟩
  split at h
  · cases h; exact ⟨1, by decide, by assumption, rfl, rfl⟩
  split at h
  · cases h; exact ⟨2, by decide, by assumption, rfl, rfl⟩
  split at h
  · cases h; exact ⟨3, by decide, by assumption, rfl, rfl⟩
  split at h
  · cases h; exact ⟨4, by decide, by assumption, rfl, rfl⟩
  split at h
  · cases h; exact ⟨5, by decide, by assumption, rfl, rfl⟩
  split at h
  · cases h; exact ⟨6, by decide, by assumption, rfl, rfl⟩
  split at h
  · cases h; exact ⟨7, by decide, by assumption, rfl, rfl⟩
  split at h
  · cases h; exact ⟨8, by decide, by assumption, rfl, rfl⟩
  · cases h
theorem w32 {z : Int} (h : Qr04Neutral.whole32 z = true) : 0 ≤ z := by
  unfold Qr04Neutral.whole32 at h
  rw [Bool.and_eq_true] at h
  exact of_decide_eq_true h.1
theorem asked_nat {p : Int} {ys : List Int} (h : Qr04Neutral.asked1 [p :: ys] = true) : ∀ z ∈ ys, 0 ≤ z := by
  unfold Qr04Neutral.asked1 at h
  split at h
  · rename_i k n e
    cases e
    rw [Bool.and_eq_true] at h
    intro z hz
    simp at hz
    rcases hz with rfl | rfl
    · exact w32 h.1
    · exact w32 h.2
  · rename_i a b c d e
    cases e
    rw [Bool.and_eq_true, Bool.and_eq_true, Bool.and_eq_true] at h
    intro z hz
    simp at hz
    rcases hz with rfl | rfl | rfl | rfl
    · exact w32 h.1
    · exact w32 h.2.1
    · exact w32 h.2.2.1
    · exact w32 h.2.2.2
  · rename_i a e
    cases e
    intro z hz
    simp at hz
    subst hz
    exact w32 h
  · rename_i e
    cases e
    intro z hz
    cases hz
  · rename_i e
    cases e
    intro z hz
    cases hz
  · rename_i e
    cases e
    intro z hz
    cases hz
  · rename_i a b c e
    cases e
    rw [Bool.and_eq_true, Bool.and_eq_true] at h
    intro z hz
    simp at hz
    rcases hz with rfl | rfl | rfl
    · exact w32 h.1
    · exact w32 h.2.1
    · exact w32 h.2.2
  · rename_i a b c e
    cases e
    rw [Bool.and_eq_true, Bool.and_eq_true] at h
    intro z hz
    simp at hz
    rcases hz with rfl | rfl | rfl
    · exact w32 h.1
    · exact w32 h.2.1
    · exact w32 h.2.2
  · rename_i e
    cases e
    intro z hz
    cases hz
  · cases h
theorem cast_back : ∀ (l : List Int), (∀ z ∈ l, 0 ≤ z) → castI (l.map Int.toNat) = l
  | [], _ => rfl
  | z :: l, h => by
    have ih := cast_back l fun y hy => h y (List.mem_cons_of_mem _ hy)
    have hz := h z (List.mem_cons_self ..)
    unfold castI at ih ⊢
    rw [List.map_cons, List.map_cons, ih, Int.toNat_of_nonneg hz]
theorem played_eq : ∀ (f : Nat) (l : List Int) (raw : List (List (List Int))), PyFlat.calls PyQr04.shape f l = some raw → (raw.map PyQr04.whole).all Qr04Neutral.asked1 = true →
    ∃ xs, castI xs = l ∧ Valid f xs ∧ ∀ d, Good d → play f d xs = PyFlat.told (PyFlat.played Qr04Neutral.step (houseOf d) (raw.map PyQr04.whole))
  | f, [], raw, h, _ => by
    have e : raw = [] := by
      cases f <;> (unfold PyFlat.calls at h; cases h; rfl)
    subst e
    exact ⟨[], rfl, by cases f <;> trivial, fun d _ => by cases f <;> rfl⟩
  | 0, p :: r, raw, h, _ => by
    unfold PyFlat.calls at h
    cases h
  | f + 1, p :: r, raw, h, ha => by
    unfold PyFlat.calls at h
    split at h
    · cases h
    · rename_i c t hc
      split at h
      · cases h
      · rename_i cs hcs
        cases h
        simp only [PyFlat.call] at hc
        split at hc
        · cases hc
        · rename_i n k hs
          obtain ⟨c0, hc9, hp, hn, hk⟩ := shape_some hs
          subst hk
          split at hc
          · cases hc
          · rename_i hlen
            have hrows : PyFlat.rows 0 (r.drop n) = some ([], r.drop n) := rfl
            rw [hrows] at hc
            simp only [Option.some.injEq, Prod.mk.injEq] at hc
            obtain ⟨hc1, hc2⟩ := hc
            subst hc1 hc2
            rw [List.map_cons, List.all_cons, Bool.and_eq_true, whole_is] at ha
            have hnat := asked_nat ha.1
            obtain ⟨ys, hy1, hy2, hy3⟩ := played_eq f (r.drop n) cs hcs ha.2
            have hb := cast_back (r.take n) hnat
            generalize hns : (r.take n).map Int.toNat = ns at hb
            have hnl : ns.length = numCount c0 := by
              rw [← hns, List.length_map, List.length_take]
              omega
            have htake : (ns ++ ys).take (numCount c0) = ns := by rw [← hnl, List.take_left]
            have hdrop : (ns ++ ys).drop (numCount c0) = ys := by rw [← hnl, List.drop_left]
            refine ⟨c0 :: (ns ++ ys), ?_, ⟨hc9, ?_, ?_⟩, fun d g => ?_⟩
            · show ((c0 : Int)) :: castI (ns ++ ys) = p :: r
              have : castI (ns ++ ys) = castI ns ++ castI ys := List.map_append
              rw [this, hb, hy1, List.take_append_drop, hp]
            · rw [List.length_append]
              omega
            · rw [hdrop]
              exact hy2
            · rw [List.map_cons, whole_is]
              show ((step9 d c0 ((ns ++ ys).take (numCount c0))).2.length : Int) :: ((step9 d c0 ((ns ++ ys).take (numCount c0))).2 ++ play f (step9 d c0 ((ns ++ ys).take (numCount c0))).1 ((ns ++ ys).drop (numCount c0))) = _
              rw [htake, hdrop]
              have hst := step_eq g hc9 hnl
              rw [hb, ← hp] at hst
              show _ = PyFlat.told ((Qr04Neutral.step (houseOf d) [p :: r.take n]).2 :: PyFlat.played Qr04Neutral.step (Qr04Neutral.step (houseOf d) [p :: r.take n]).1 (cs.map PyQr04.whole))
              rw [hst, hy3 _ (good_step g hc9 hnl)]
              unfold PyFlat.told
              rw [List.flatMap_cons]
              rfl
theorem math_main (l : List Int) (h : PyQr04.answers_asked l = true) : ∃ xs f, castI xs = l ∧ Valid f xs ∧ play f ⟨0, 0, [], []⟩ xs = PyQr04.answers l ∧ (PyQr04.answers l).length ≤ 10000000 := by
  unfold PyQr04.answers_asked at h
  cases hr : PyFlat.calls PyQr04.shape l.length l with
  | none =>
    rw [hr] at h
    cases h
  | some raw =>
    rw [hr] at h
    simp only [Bool.and_eq_true] at h
    obtain ⟨⟨⟨_, _⟩, h3⟩, h4⟩ := h
    have ha : (raw.map PyQr04.whole).all Qr04Neutral.asked1 = true := by
      unfold Qr04Neutral.asked at h3
      rw [Bool.and_eq_true] at h3
      exact h3.1
    obtain ⟨xs, e1, e2, e3⟩ := played_eq l.length l raw hr ha
    refine ⟨xs, l.length, e1, e2, ?_, of_decide_eq_true h4⟩
    rw [e3 _ good0]
    unfold PyQr04.answers PyQr04.calls
    rw [hr]
    rfl
end SC

/-! ## EN3 -/
set_option Elab.async false
set_option linter.all false
set_option maxRecDepth 100000
set_option maxHeartbeats 2000000
/-! the row's promise -/
namespace EN
open PySem PySem.Spec PyProof.Rows L2 SD
open PySem.W (WData Codec OpenSpec)
theorem triples0 : TriplesOk (#[] : Array Value).toList := by
  show TriplesOk []
  trivial
theorem tabs0 {H : Hp} {PT : Addr} (h : H PT = some (.tbl #[])) : LamX.Tabs [(PT, RS.lamQ)] H := fun q hq => by
  rcases List.mem_cons.mp hq with rfl | hq
  · exact ⟨#[], h, triples0, fun pos cv hc => by cases hc⟩
  · cases hq
theorem row_sp (K : PySem.W.Frag) (PT : Addr) (H : Hp) (xs : List V) (a : Codec.denoteAll PySem.Challenge.rw_statementclash_s01_answers.args) (hP : H PT = some (.tbl #[])) (hO : ∀ b, b ≠ PT → H b = none ∨ ∃ o u, H b = some (.frz o u)) (hwi : Codec.withinAll PySem.Challenge.rw_statementclash_s01_answers.args a = true)
    (hask : Codec.app PySem.Challenge.rw_statementclash_s01_answers.args PySem.Challenge.rw_statementclash_s01_answers.asked a = true) (hx : DwAll K H xs (Codec.encAll PySem.Challenge.rw_statementclash_s01_answers.args a)) :
    spRow K PT xs H (fun v H' => Dw K H' v (PySem.Challenge.rw_statementclash_s01_answers.ret.enc (Codec.app PySem.Challenge.rw_statementclash_s01_answers.args PySem.Challenge.rw_statementclash_s01_answers.f a))) fun _ _ _ => False := by
  cases hx with
  | cons h1 h2 =>
    cases h2
    cases h1 with
    | @lst b vs _ hs ha =>
      have e := ints_dw a.1 _ ha
      subst e
      obtain ⟨ns, f, hc, hv, hp, hl⟩ := SC.math_main a.1 hask
      have hs' : SqL K H b ((SC.castI ns).map V.int) := by rw [hc]; exact hs
      have fin : ∀ (H' : Hp) (p : Addr), H' p = some (.lst ((SC.play f ⟨0, 0, [], []⟩ ns).map V.int)) → Dw K H' (.ref p) (PySem.Challenge.rw_statementclash_s01_answers.ret.enc (Codec.app PySem.Challenge.rw_statementclash_s01_answers.args PySem.Challenge.rw_statementclash_s01_answers.f a)) := fun H' p hp' => by
        rw [hp] at hp'
        exact .lst (SqL.of hp') (dw_ints _)
      have hpl : (SC.play f ⟨0, 0, [], []⟩ ns).length ≤ 10000000 := by rw [hp]; exact hl
      rcases hs' with hr | hk
      · refine ⟨tabs0 hP, [b], b, ns, f, ?_, rfl, ?_, hv, hpl, fin⟩
        · intro s hsm
          obtain rfl : s = b := by simpa using hsm
          rcases hr with hr | ⟨o, hr⟩
          · exact ⟨_, hr, fun _ z => by cases z⟩
          · exact ⟨_, hr, fun _ z => by cases z⟩
        · intro H' hk
          rcases hr with hr | ⟨o, hr⟩
          · exact .inl (.inl (hk b (by simp) _ hr))
          · exact .inl (.inr ⟨o, hk b (by simp) _ hr⟩)
      · exact ⟨tabs0 hP, [], b, ns, f, (fun s hs => by cases hs), rfl, fun _ _ => .inr hk, hv, hpl, fin⟩
end EN

open PySem PySem.W PyProof.Rows
set_option maxRecDepth 100000 in
set_option maxHeartbeats 0 in
theorem PySem.Challenge.cw_statementclash_s01_answers_holds : PySem.Challenge.rw_statementclash_s01_answers.Holds := by
  w_on; k_headS; (case hw => exact ⟨[.list [.int 3]], by decide +kernel, by decide +kernel⟩)
  k_fillS
  refine EN.walk_specT (r := PySem.Challenge.rw_statementclash_s01_answers) (k := 15) (ps := ["calls"]) (x := "ordered") (sp := EN.spRow) (by decide +kernel) rfl rfl ⟨rfl, by decide, by decide⟩ (fun w h Y => PySem.W.kIn_of Y) (by decide +kernel) ?F EN.row_sp
  case F =>
    intro w mg fa h Y KX G hmg
    refine EN.all_of KX G hmg ?facts
    refine ⟨?f_raised, ?f_with_rank, ?f_many_ranks, ?f_longer_orders, ?f_orders, ?f_with_interval, ?f_interval_orders, ?f_holders, ?f_venn, ?f_worlds, ?f_compared, ?f_interval_inner, ?f_interval_relation, ?f_set_relation, ?f_relation_in, ?f_set_reader, ?f_holds_in, ?f_set_masks, ?f_masks, ?f_is_within, ?f_is_consistent, ?f_numbers_of, ?f_minimal, ?f_conflicts, ?f_cures, ?f_does_imply, ?f_reasons, ?f_demand, ?f_is_statement, ?f_known_of, ?f_listed, ?f_begins, ?f_told, ?f_without, ?f_remove, ?f_drop, ?f_clashes, ?f_all_cures, ?f_cheapest_of, ?f_cheapest, ?f_asked_of, ?f_follows, ?f_all_reasons, ?f_mend, ?f_answer, ?txt, ?ord, ?ans, ?dsk, ?ini, ?ref, ?rel, ?num, ?dee⟩
    case f_raised =>
      refine' EN.mkFn KX G ?a ?l ?c ?k (fun _ _ _ _ _ _ us hl => match us, hl with | [_, _], _ => rfl)
      (case a => k_is); (case l => k_is); (case c => k_is); (case k => k_is)
    case f_with_rank =>
      refine' EN.mkFn KX G ?a ?l ?c ?k (fun _ _ _ _ _ _ us hl => match us, hl with | [_, _], _ => rfl)
      (case a => k_is); (case l => k_is); (case c => k_is); (case k => k_is)
    case f_many_ranks =>
      refine' EN.mkFn KX G ?a ?l ?c ?k (fun _ _ _ _ _ _ us hl => match us, hl with | [_], _ => rfl)
      (case a => k_is); (case l => k_is); (case c => k_is); (case k => k_is)
    case f_longer_orders =>
      refine' EN.mkFn KX G ?a ?l ?c ?k (fun _ _ _ _ _ _ us hl => match us, hl with | [_], _ => rfl)
      (case a => k_is); (case l => k_is); (case c => k_is); (case k => k_is)
    case f_orders =>
      refine' EN.mkFn KX G ?a ?l ?c ?k (fun _ _ _ _ _ _ us hl => match us, hl with | [_], _ => rfl)
      (case a => k_is); (case l => k_is); (case c => k_is); (case k => k_is)
    case f_with_interval =>
      refine' EN.mkFn KX G ?a ?l ?c ?k (fun _ _ _ _ _ _ us hl => match us, hl with | [_], _ => rfl)
      (case a => k_is); (case l => k_is); (case c => k_is); (case k => k_is)
    case f_interval_orders =>
      refine' EN.mkFn KX G ?a ?l ?c ?k (fun _ _ _ _ _ _ us hl => match us, hl with | [_], _ => rfl)
      (case a => k_is); (case l => k_is); (case c => k_is); (case k => k_is)
    case f_holders =>
      refine' EN.mkFn KX G ?a ?l ?c ?k (fun _ _ _ _ _ _ us hl => match us, hl with | [_, _], _ => rfl)
      (case a => k_is); (case l => k_is); (case c => k_is); (case k => k_is)
    case f_venn =>
      refine' EN.mkFn KX G ?a ?l ?c ?k (fun _ _ _ _ _ _ us hl => match us, hl with | [_], _ => rfl)
      (case a => k_is); (case l => k_is); (case c => k_is); (case k => k_is)
    case f_worlds =>
      refine' EN.mkFn KX G ?a ?l ?c ?k (fun _ _ _ _ _ _ us hl => match us, hl with | [_, _], _ => rfl)
      (case a => k_is); (case l => k_is); (case c => k_is); (case k => k_is)
    case f_compared =>
      refine' EN.mkFn KX G ?a ?l ?c ?k (fun _ _ _ _ _ _ us hl => match us, hl with | [_, _], _ => rfl)
      (case a => k_is); (case l => k_is); (case c => k_is); (case k => k_is)
    case f_interval_inner =>
      refine' EN.mkFn KX G ?a ?l ?c ?k (fun _ _ _ _ _ _ us hl => match us, hl with | [_, _, _, _], _ => rfl)
      (case a => k_is); (case l => k_is); (case c => k_is); (case k => k_is)
    case f_interval_relation =>
      refine' EN.mkFn KX G ?a ?l ?c ?k (fun _ _ _ _ _ _ us hl => match us, hl with | [_, _, _, _], _ => rfl)
      (case a => k_is); (case l => k_is); (case c => k_is); (case k => k_is)
    case f_set_relation =>
      refine' EN.mkFn KX G ?a ?l ?c ?k (fun _ _ _ _ _ _ us hl => match us, hl with | [_, _, _], _ => rfl)
      (case a => k_is); (case l => k_is); (case c => k_is); (case k => k_is)
    case f_relation_in =>
      refine' EN.mkFn KX G ?a ?l ?c ?k (fun _ _ _ _ _ _ us hl => match us, hl with | [_, _, _, _, _], _ => rfl)
      (case a => k_is); (case l => k_is); (case c => k_is); (case k => k_is)
    case f_set_reader =>
      refine' EN.mkFn KX G ?a ?l ?c ?k (fun _ _ _ _ _ _ us hl => match us, hl with | [_, _, _], _ => rfl)
      (case a => k_is); (case l => k_is); (case c => k_is); (case k => k_is)
    case f_holds_in =>
      refine' EN.mkFn KX G ?a ?l ?c ?k (fun _ _ _ _ _ _ us hl => match us, hl with | [_, _, _, _], _ => rfl)
      (case a => k_is); (case l => k_is); (case c => k_is); (case k => k_is)
    case f_set_masks =>
      refine' EN.mkFn KX G ?a ?l ?c ?k (fun _ _ _ _ _ _ us hl => match us, hl with | [_, _], _ => rfl)
      (case a => k_is); (case l => k_is); (case c => k_is); (case k => k_is)
    case f_masks =>
      refine' EN.mkFn KX G ?a ?l ?c ?k (fun _ _ _ _ _ _ us hl => match us, hl with | [_, _, _], _ => rfl)
      (case a => k_is); (case l => k_is); (case c => k_is); (case k => k_is)
    case f_is_within =>
      refine' EN.mkFn KX G ?a ?l ?c ?k (fun _ _ _ _ _ _ us hl => match us, hl with | [_, _], _ => rfl)
      (case a => k_is); (case l => k_is); (case c => k_is); (case k => k_is)
    case f_is_consistent =>
      refine' EN.mkFn KX G ?a ?l ?c ?k (fun _ _ _ _ _ _ us hl => match us, hl with | [_, _], _ => rfl)
      (case a => k_is); (case l => k_is); (case c => k_is); (case k => k_is)
    case f_numbers_of =>
      refine' EN.mkFn KX G ?a ?l ?c ?k (fun _ _ _ _ _ _ us hl => match us, hl with | [_, _], _ => rfl)
      (case a => k_is); (case l => k_is); (case c => k_is); (case k => k_is)
    case f_minimal =>
      refine' EN.mkFn KX G ?a ?l ?c ?k (fun _ _ _ _ _ _ us hl => match us, hl with | [_], _ => rfl)
      (case a => k_is); (case l => k_is); (case c => k_is); (case k => k_is)
    case f_conflicts =>
      refine' EN.mkFn KX G ?a ?l ?c ?k (fun _ _ _ _ _ _ us hl => match us, hl with | [_, _], _ => rfl)
      (case a => k_is); (case l => k_is); (case c => k_is); (case k => k_is)
    case f_cures =>
      refine' EN.mkFn KX G ?a ?l ?c ?k (fun _ _ _ _ _ _ us hl => match us, hl with | [_, _], _ => rfl)
      (case a => k_is); (case l => k_is); (case c => k_is); (case k => k_is)
    case f_does_imply =>
      refine' EN.mkFn KX G ?a ?l ?c ?k (fun _ _ _ _ _ _ us hl => match us, hl with | [_, _, _], _ => rfl)
      (case a => k_is); (case l => k_is); (case c => k_is); (case k => k_is)
    case f_reasons =>
      refine' EN.mkFn KX G ?a ?l ?c ?k (fun _ _ _ _ _ _ us hl => match us, hl with | [_, _], _ => rfl)
      (case a => k_is); (case l => k_is); (case c => k_is); (case k => k_is)
    case f_demand =>
      refine' EN.mkFn KX G ?a ?l ?c ?k (fun _ _ _ _ _ _ us hl => match us, hl with | [_, _], _ => rfl)
      (case a => k_is); (case l => k_is); (case c => k_is); (case k => k_is)
    case f_is_statement =>
      refine' EN.mkFn KX G ?a ?l ?c ?k (fun _ _ _ _ _ _ us hl => match us, hl with | [_, _, _, _], _ => rfl)
      (case a => k_is); (case l => k_is); (case c => k_is); (case k => k_is)
    case f_known_of =>
      refine' EN.mkFn KX G ?a ?l ?c ?k (fun _ _ _ _ _ _ us hl => match us, hl with | [_, _], _ => rfl)
      (case a => k_is); (case l => k_is); (case c => k_is); (case k => k_is)
    case f_listed =>
      refine' EN.mkFn KX G ?a ?l ?c ?k (fun _ _ _ _ _ _ us hl => match us, hl with | [_], _ => rfl)
      (case a => k_is); (case l => k_is); (case c => k_is); (case k => k_is)
    case f_begins =>
      refine' EN.mkFn KX G ?a ?l ?c ?k (fun _ _ _ _ _ _ us hl => match us, hl with | [_, _], _ => rfl)
      (case a => k_is); (case l => k_is); (case c => k_is); (case k => k_is)
    case f_told =>
      refine' EN.mkFn KX G ?a ?l ?c ?k (fun _ _ _ _ _ _ us hl => match us, hl with | [_, _], _ => rfl)
      (case a => k_is); (case l => k_is); (case c => k_is); (case k => k_is)
    case f_without =>
      refine' EN.mkFn KX G ?a ?l ?c ?k (fun _ _ _ _ _ _ us hl => match us, hl with | [_, _], _ => rfl)
      (case a => k_is); (case l => k_is); (case c => k_is); (case k => k_is)
    case f_remove =>
      refine' EN.mkFn KX G ?a ?l ?c ?k (fun _ _ _ _ _ _ us hl => match us, hl with | [_, _], _ => rfl)
      (case a => k_is); (case l => k_is); (case c => k_is); (case k => k_is)
    case f_drop =>
      refine' EN.mkFn KX G ?a ?l ?c ?k (fun _ _ _ _ _ _ us hl => match us, hl with | [_, _], _ => rfl)
      (case a => k_is); (case l => k_is); (case c => k_is); (case k => k_is)
    case f_clashes =>
      refine' EN.mkFn KX G ?a ?l ?c ?k (fun _ _ _ _ _ _ us hl => match us, hl with | [_, _], _ => rfl)
      (case a => k_is); (case l => k_is); (case c => k_is); (case k => k_is)
    case f_all_cures =>
      refine' EN.mkFn KX G ?a ?l ?c ?k (fun _ _ _ _ _ _ us hl => match us, hl with | [_, _], _ => rfl)
      (case a => k_is); (case l => k_is); (case c => k_is); (case k => k_is)
    case f_cheapest_of =>
      refine' EN.mkFn KX G ?a ?l ?c ?k (fun _ _ _ _ _ _ us hl => match us, hl with | [_], _ => rfl)
      (case a => k_is); (case l => k_is); (case c => k_is); (case k => k_is)
    case f_cheapest =>
      refine' EN.mkFn KX G ?a ?l ?c ?k (fun _ _ _ _ _ _ us hl => match us, hl with | [_, _], _ => rfl)
      (case a => k_is); (case l => k_is); (case c => k_is); (case k => k_is)
    case f_asked_of =>
      refine' EN.mkFn KX G ?a ?l ?c ?k (fun _ _ _ _ _ _ us hl => match us, hl with | [_, _], _ => rfl)
      (case a => k_is); (case l => k_is); (case c => k_is); (case k => k_is)
    case f_follows =>
      refine' EN.mkFn KX G ?a ?l ?c ?k (fun _ _ _ _ _ _ us hl => match us, hl with | [_, _], _ => rfl)
      (case a => k_is); (case l => k_is); (case c => k_is); (case k => k_is)
    case f_all_reasons =>
      refine' EN.mkFn KX G ?a ?l ?c ?k (fun _ _ _ _ _ _ us hl => match us, hl with | [_, _], _ => rfl)
      (case a => k_is); (case l => k_is); (case c => k_is); (case k => k_is)
    case f_mend =>
      refine' EN.mkFn KX G ?a ?l ?c ?k (fun _ _ _ _ _ _ us hl => match us, hl with | [_, _], _ => rfl)
      (case a => k_is); (case l => k_is); (case c => k_is); (case k => k_is)
    case f_answer =>
      refine' EN.mkFn KX G ?a ?l ?c ?k (fun _ _ _ _ _ _ us hl => match us, hl with | [_, _, _], _ => rfl)
      (case a => k_is); (case l => k_is); (case c => k_is); (case k => k_is)
    case txt =>
      refine' EN.mkTxt KX G ?b0 ?b1 ?b2 ?b3 ?b4 ?b5 ?b6 ?b7 ?b8 ?c0 ?c1 ?c2 ?c3 ?c4 ?c5
      (case b0 => k_is); (case b1 => k_is); (case b2 => k_is); (case b3 => k_is); (case b4 => k_is); (case b5 => k_is); (case b6 => k_is); (case b7 => k_is); (case b8 => k_is); (case c0 => k_is); (case c1 => k_is); (case c2 => k_is); (case c3 => k_is); (case c4 => k_is); (case c5 => k_is)
    case ord =>
      refine' EN.mkOrd KX G ?a ?l ?c ?k ?lc ?hv ?np
      (case a => k_is); (case l => k_is); (case c => k_is); (case k => k_is); (case lc => k_is); (case hv => rfl); (case np => k_is)
    case ans =>
      refine' EN.mkAns KX G ?a ?l ?c ?k
      (case a => k_is); (case l => k_is); (case c => k_is); (case k => k_is)
    case dsk =>
      refine' EN.mkDesk KX G ?a ?pg ?hd ?po ?sa ?nk ?nm ?ns ?np ?mk ?kc
      (case a => k_is); (case pg => k_is); (case hd => k_is); (case po => k_is); (case sa => k_is); (case nk => k_is); (case nm => k_is); (case ns => k_is); (case np => k_is); (case mk => k_is); (case kc => k_is)
    case ini =>
      refine' EN.mkInit KX G ?a ?i ?fi ?l ?c ?k
      (case a => k_is); (case i => k_is); (case fi => k_is); (case l => k_is); (case c => k_is); (case k => k_is)
    case ref =>
      refine' EN.mkRef KX G ?aC ?xL ?sa ?ga ?gg ?nb ?a1 ?t1 ?l1 ?c1 ?kC ?eC ?tC ?hC ?iC ?sC
      (case aC => k_is); (case xL => k_is); (case sa => k_is); (case ga => k_is); (case gg => k_is); (case nb => k_is); (case a1 => k_is); (case t1 => k_is); (case l1 => k_is); (case c1 => k_is); (case kC => k_is); (case eC => k_is); (case tC => k_is); (case hC => k_is); (case iC => k_is); (case sC => first | rfl | k_is)
    case rel =>
      refine' EN.mkConst KX G ?a ?l ?z ?v
      (case a => k_is); (case l => k_is); (case z => decide +kernel); (case v => exact .cons ⟨_, rfl⟩ (.cons ⟨_, rfl⟩ (.cons ⟨_, rfl⟩ (.cons ⟨_, rfl⟩ (.nil)))))
    case num =>
      refine' EN.mkConst KX G ?a ?l ?z ?v
      (case a => k_is); (case l => k_is); (case z => decide +kernel); (case v => exact .cons ⟨_, rfl⟩ (.cons ⟨_, rfl⟩ (.cons ⟨_, rfl⟩ (.cons ⟨_, rfl⟩ (.cons ⟨_, rfl⟩ (.cons ⟨_, rfl⟩ (.cons ⟨_, rfl⟩ (.cons ⟨_, rfl⟩ (.cons ⟨_, rfl⟩ (.nil))))))))))
    case dee =>
      refine' EN.mkDeeds KX G ?a ?l ?z ?v ?m0 ?m1 ?m2 ?m3 ?m4 ?m5 ?m6 ?m7 ?m8
      (case a => k_is); (case l => k_is); (case z => decide +kernel); (case v => exact .cons rfl (.cons rfl (.cons rfl (.cons rfl (.cons rfl (.cons rfl (.cons rfl (.cons rfl (.cons rfl (.nil)))))))))); (case m0 => k_is); (case m1 => k_is); (case m2 => k_is); (case m3 => k_is); (case m4 => k_is); (case m5 => k_is); (case m6 => k_is); (case m7 => k_is); (case m8 => k_is)
