import PyProof.Rows.All
import Wide.All
import OpenK.AllK
import Wide.FinOn
import PySem.Challenge.RW_riverloops_k01_arcs_and_words
import HandS.ForMost
import HandS.IsInst
import HandS.RevRange
import HandS.Style
import HandS.Conv
import HandS.SetFor
import HandS.More
set_option Elab.async false
set_option linter.all false
set_option maxRecDepth 100000
set_option maxHeartbeats 4000000

set_option linter.all false
namespace Rm

/-! ## lists of whole numbers that tell arcs -/
def g (s : List Int) (k : Nat) : Int := s.getD k 0
def OkAt (s : List Int) (k : Nat) : Prop := 0 ≤ g s k ∧ g s k < (s.length : Int) ∧ g s k ≠ (k : Int) ∧ g s (g s k).toNat = (k : Int)
def NcI (s : List Int) : Prop := ∀ j k : Nat, j < k → k < s.length → (k : Int) < g s j → g s j < g s k → False
def Good (s : List Int) : Prop := (2 ≤ s.length ∧ s.length ≤ 40) ∧ (∀ k : Nat, k < s.length → OkAt s k) ∧ NcI s
def opens (s : List Int) (k : Nat) : List Nat := (List.range k).filter (fun j => decide ((k : Int) ≤ g s j))
structure Stage (s : List Int) (k : Nat) : Prop where
  ok : ∀ j : Nat, j < k → OkAt s j
  top : ∀ j : Nat, j < k → g s j < (j : Int) → (opens s j).getLast? = some (g s j).toNat

theorem mem_opens {s : List Int} {k j : Nat} : j ∈ opens s k ↔ j < k ∧ (k : Int) ≤ g s j := by
  simp [opens, List.mem_filter, List.mem_range]
theorem opens_sorted (s : List Int) (k : Nat) : (opens s k).Pairwise (· < ·) := List.Pairwise.filter _ List.pairwise_lt_range
theorem opens_len (s : List Int) (k : Nat) : (opens s k).length ≤ k := by
  have h := List.length_filter_le (fun j : Nat => decide ((k : Int) ≤ g s j)) (List.range k)
  rw [List.length_range] at h
  exact h
theorem stage0 (s : List Int) : Stage s 0 := ⟨fun j h => absurd h (Nat.not_lt_zero j), fun j h => absurd h (Nat.not_lt_zero j)⟩
theorem opens0 (s : List Int) : opens s 0 = [] := rfl
/-- within the checked places, partners are one to one -/
theorem okAt_inj {s : List Int} {i j : Nat} (hi : OkAt s i) (e : g s i = (j : Int)) : g s j = (i : Int) := by
  have h := hi.2.2.2
  rw [e] at h
  simpa using h
theorem opens_succ (s : List Int) (k : Nat) : opens s (k + 1) = (List.range k).filter (fun j => decide (((k + 1 : Nat) : Int) ≤ g s j)) ++ (if ((k + 1 : Nat) : Int) ≤ g s k then [k] else []) := by
  unfold opens
  rw [List.range_succ, List.filter_append]
  congr 1
  by_cases h : ((k + 1 : Nat) : Int) ≤ g s k
  · rw [if_pos h]
    exact List.filter_cons_of_pos (p := fun j => decide (((k + 1 : Nat) : Int) ≤ g s j)) (decide_eq_true h)
  · rw [if_neg h]
    exact List.filter_cons_of_neg (p := fun j => decide (((k + 1 : Nat) : Int) ≤ g s j)) (fun z => h (of_decide_eq_true z))
theorem opens_push {s : List Int} {k : Nat} (st : Stage s k) (hk : (k : Int) < g s k) : opens s (k + 1) = opens s k ++ [k] := by
  rw [opens_succ, if_pos (by omega)]
  congr 1
  unfold opens
  apply List.filter_congr
  intro j hj
  rw [List.mem_range] at hj
  have hne : g s j ≠ (k : Int) := fun e => by
    have := okAt_inj (st.ok j hj) e
    omega
  exact decide_eq_decide.mpr (by omega)
theorem filter_ne_last : ∀ (l : List Nat) (t : Nat), (l ++ [t]).Nodup → (l ++ [t]).filter (fun j => decide (j ≠ t)) = l := by
  intro l t h
  rw [List.filter_append]
  have h1 : l.filter (fun j => decide (j ≠ t)) = l := by
    apply List.filter_eq_self.mpr
    intro a ha
    rw [List.nodup_append] at h
    exact decide_eq_true (h.2.2 a ha t (List.mem_singleton.mpr rfl))
  rw [h1]
  simp
theorem nodup_of_sorted {l : List Nat} (h : l.Pairwise (· < ·)) : l.Nodup := h.imp fun h => Nat.ne_of_lt h
theorem opens_pop {s : List Int} {k : Nat} {l : List Nat} {t : Nat} (st : Stage s k) (ok : OkAt s k) (hk : g s k < (k : Int)) (e : opens s k = l ++ [t]) (ht : (t : Int) = g s k) : opens s (k + 1) = l := by
  rw [opens_succ, if_neg (by omega), List.append_nil]
  have h1 : (List.range k).filter (fun j => decide (((k + 1 : Nat) : Int) ≤ g s j)) = (opens s k).filter (fun j => decide (j ≠ t)) := by
    unfold opens
    rw [List.filter_filter]
    apply List.filter_congr
    intro j hj
    rw [List.mem_range] at hj
    have hje : g s j = (k : Int) ↔ j = t := by
      constructor
      · intro q
        have := okAt_inj (st.ok j hj) q
        omega
      · intro q
        subst q
        have := okAt_inj (j := j) ok ht.symm
        exact this
    by_cases q : j = t
    · have := hje.mpr q
      simp [q]
      subst q
      omega
    · have : g s j ≠ (k : Int) := fun z => q (hje.mp z)
      simp [q]
      omega
  rw [h1, e]
  exact filter_ne_last l t (e ▸ nodup_of_sorted (opens_sorted s k))
/-- at a place that leads back something is open -/
theorem opens_ne {s : List Int} {k : Nat} (ok : OkAt s k) (hk : g s k < (k : Int)) : ∃ l t, opens s k = l ++ [t] := by
  have hm : (g s k).toNat ∈ opens s k := by
    rw [mem_opens]
    have h := ok.2.2.2
    have h0 := ok.1
    constructor
    · omega
    · omega
  rcases List.eq_nil_or_concat (opens s k) with e | ⟨l, t, e⟩
  · rw [e] at hm; cases hm
  · exact ⟨l, t, by rw [e]; exact List.concat_eq_append⟩
theorem stage_push {s : List Int} {k : Nat} (st : Stage s k) (ok : OkAt s k) (hk : (k : Int) < g s k) : Stage s (k + 1) := by
  refine ⟨fun j hj => ?_, fun j hj h => ?_⟩
  · by_cases e : j = k
    · subst e; exact ok
    · exact st.ok j (by omega)
  · by_cases e : j = k
    · subst e; omega
    · exact st.top j (by omega) h
theorem stage_pop {s : List Int} {k : Nat} {l : List Nat} {t : Nat} (st : Stage s k) (ok : OkAt s k) (e : opens s k = l ++ [t]) (ht : (t : Int) = g s k) : Stage s (k + 1) := by
  refine ⟨fun j hj => ?_, fun j hj h => ?_⟩
  · by_cases e : j = k
    · subst e; exact ok
    · exact st.ok j (by omega)
  · by_cases q : j = k
    · subst q
      rw [e, List.getLast?_append, ← ht]
      simp
    · exact st.top j (by omega) h
/-- the top is not the partner: two arcs cross -/
theorem stage_cross {s : List Int} {k : Nat} {l : List Nat} {t : Nat} (st : Stage s k) (ok : OkAt s k) (hk : g s k < (k : Int)) (hl : k < s.length) (e : opens s k = l ++ [t]) (ht : (t : Int) ≠ g s k) : ¬ NcI s := by
  intro nc
  have hm : (g s k).toNat ∈ opens s k := by
    rw [mem_opens]
    have h := ok.2.2.2
    have h0 := ok.1
    constructor
    · omega
    · omega
  have htm : t ∈ opens s k := by rw [e]; simp
  rw [mem_opens] at htm
  have hsrt := opens_sorted s k
  rw [e, List.pairwise_append] at hsrt
  rw [e, List.mem_append] at hm
  have h0 := ok.1
  have hlt : (g s k).toNat < t := by
    rcases hm with hm | hm
    · exact hsrt.2.2 _ hm t (by simp)
    · rw [List.mem_singleton] at hm
      omega
  have hne : g s t ≠ (k : Int) := fun q => by
    have := okAt_inj (st.ok t htm.1) q
    omega
  have hp := ok.2.2.2
  exact nc (g s k).toNat t hlt (by omega) (by omega) (by omega)
theorem stage_good {s : List Int} (h : 2 ≤ s.length ∧ s.length ≤ 40) (st : Stage s s.length) : Good s := by
  refine ⟨h, st.ok, fun j k hjk hk h1 h2 => ?_⟩
  have okj := st.ok j (by omega)
  have okk := st.ok k hk
  -- at the place where j's arc ends
  obtain ⟨e0, e1, e2, e3⟩ := okj
  have hm : g s (g s j).toNat < ((g s j).toNat : Int) := by omega
  have ht := st.top (g s j).toNat (by omega) hm
  rw [e3] at ht
  have hkm : k ∈ opens s (g s j).toNat := by
    rw [mem_opens]
    constructor <;> omega
  rcases List.eq_nil_or_concat (opens s (g s j).toNat) with q | ⟨l, t, q⟩
  · rw [q] at hkm; cases hkm
  · rw [List.concat_eq_append] at q
    rw [q, List.getLast?_append] at ht
    simp at ht
    have hsrt := opens_sorted s (g s j).toNat
    rw [q, List.pairwise_append] at hsrt
    rw [q, List.mem_append] at hkm
    rcases hkm with hkm | hkm
    · have := hsrt.2.2 _ hkm t (by simp)
      omega
    · rw [List.mem_singleton] at hkm
      omega
/-- of a good list the top at a place that leads back is its partner -/
theorem good_top {s : List Int} (G : Good s) {k : Nat} (hk : k < s.length) (hb : g s k < (k : Int)) : ∃ (l : List Nat) (t : Nat), opens s k = l ++ [t] ∧ (t : Int) = g s k := by
  obtain ⟨l, t, e⟩ := opens_ne (G.2.1 k hk) hb
  refine ⟨l, t, e, ?_⟩
  have okk := G.2.1 k hk
  have hm : (g s k).toNat ∈ opens s k := by
    rw [mem_opens]
    have h := okk.2.2.2
    have h0 := okk.1
    constructor <;> omega
  have htm : t ∈ opens s k := by rw [e]; simp
  rw [mem_opens] at htm
  have hsrt := opens_sorted s k
  rw [e, List.pairwise_append] at hsrt
  rw [e, List.mem_append] at hm
  have h0 := okk.1
  rcases hm with hm | hm
  · have hlt := hsrt.2.2 _ hm t (by simp)
    have hne : g s t ≠ (k : Int) := fun q => by
      have := okAt_inj (G.2.1 t (by omega)) q
      omega
    have hp := okk.2.2.2
    exact (G.2.2 (g s k).toNat t hlt (by omega) (by omega) (by omega)).elim
  · rw [List.mem_singleton] at hm
    omega
theorem good_stage {s : List Int} (G : Good s) : ∀ k : Nat, k ≤ s.length → Stage s k := fun k hk =>
  ⟨fun j hj => G.2.1 j (by omega), fun j hj h => by
    obtain ⟨l, t, e, ht⟩ := good_top G (show j < s.length by omega) h
    rw [e, List.getLast?_append, ← ht]
    simp⟩
end Rm

set_option linter.all false
namespace Rm
/-! ## arcs by lists of naturals -/
def at' (a : List Nat) (k : Nat) : Nat := a.getD k 0
structure Arcs (m : Nat) (f : Nat → Nat) : Prop where
  lt : ∀ k, k < m → f k < m
  ne : ∀ k, k < m → f k ≠ k
  inv : ∀ k, k < m → f (f k) = k
  nc : ∀ j k, j < k → k < m → k < f j → f j < f k → False
/-- a list of 2 n places that tells n arcs -/
structure ArcsL (n : Nat) (a : List Nat) : Prop where
  len : a.length = 2 * n
  arcs : Arcs (2 * n) (at' a)
abbrev zs (a : List Nat) : List Int := a.map (fun n : Nat => (n : Int))
theorem g_zs (a : List Nat) (k : Nat) : g (zs a) k = ((at' a k : Nat) : Int) := by
  simp only [g, at', zs, List.getD_eq_getElem?_getD, List.getElem?_map]
  cases a[k]? <;> simp
theorem len_zs (a : List Nat) : (zs a).length = a.length := by simp [zs]
theorem arcs_good {n : Nat} {a : List Nat} (h : ArcsL n a) (h1 : 1 ≤ n) (h2 : n ≤ 20) : Good (zs a) := by
  have hl := h.len
  refine ⟨by rw [len_zs]; omega, fun k hk => ?_, fun j k hjk hk h1 h2 => ?_⟩
  · rw [len_zs] at hk
    have a1 := h.arcs.lt k (by omega)
    have a2 := h.arcs.ne k (by omega)
    have a3 := h.arcs.inv k (by omega)
    refine ⟨?_, ?_, ?_, ?_⟩
    · rw [g_zs]; omega
    · rw [g_zs, len_zs]; omega
    · rw [g_zs]; omega
    · rw [g_zs, g_zs, Int.toNat_natCast, a3]
  · rw [len_zs] at hk
    rw [g_zs] at h1
    rw [g_zs, g_zs] at h2
    exact h.arcs.nc j k hjk (by omega) (by omega) (by omega)
/-! ## arcs built with a pile -/
structure Bld (m k : Nat) (fd st : List Nat) : Prop where
  len : fd.length = m
  km : k ≤ m
  srt : st.Pairwise (· < ·)
  slt : ∀ j, j ∈ st → j < k
  cl : ∀ j, j < k → j ∉ st → at' fd j < k ∧ at' fd j ∉ st ∧ at' fd j ≠ j ∧ at' fd (at' fd j) = j
  nc : ∀ i j, i < j → j < k → i ∉ st → j ∉ st → j < at' fd i → at' fd i < at' fd j → False
  cov : ∀ i j, i < k → i ∉ st → j ∈ st → i < j → j < at' fd i → False
theorem bld0 (m : Nat) (fd : List Nat) (h : fd.length = m) : Bld m 0 fd [] :=
  ⟨h, Nat.zero_le _, .nil, fun _ h => (nomatch h), fun _ h => absurd h (Nat.not_lt_zero _), fun _ _ _ h => absurd h (Nat.not_lt_zero _), fun _ _ h => absurd h (Nat.not_lt_zero _)⟩
theorem bld_push {m k : Nat} {fd st : List Nat} (B : Bld m k fd st) (hk : k < m) : Bld m (k + 1) fd (st ++ [k]) := by
  have hm : ∀ j, j ∈ st ++ [k] ↔ j ∈ st ∨ j = k := fun j => by simp
  refine ⟨B.len, hk, ?_, fun j h => ?_, fun j hj hn => ?_, fun i j hij hj hi hjn h1 h2 => ?_, fun i j hi hin hj h1 h2 => ?_⟩
  · rw [List.pairwise_append]
    exact ⟨B.srt, List.pairwise_singleton _ _, fun a ha b hb => by rw [List.mem_singleton] at hb; rw [hb]; exact B.slt a ha⟩
  · rcases (hm j).mp h with h | h
    · have := B.slt j h; omega
    · omega
  · rw [hm] at hn
    obtain ⟨c1, c2, c3, c4⟩ := B.cl j (by omega) (fun z => hn (.inl z))
    refine ⟨by omega, fun z => ?_, c3, c4⟩
    rcases (hm _).mp z with z | z
    · exact c2 z
    · omega
  · rw [hm] at hi hjn
    exact B.nc i j hij (by omega) (fun z => hi (.inl z)) (fun z => hjn (.inl z)) h1 h2
  · rw [hm] at hin
    rcases (hm j).mp hj with hj | hj
    · exact B.cov i j (by omega) (fun z => hin (.inl z)) hj h1 h2
    · have := (B.cl i (by omega) (fun z => hin (.inl z))).1
      omega
theorem at_set {a : List Nat} {k t j : Nat} (h : k < a.length) : at' (a.set k t) j = if j = k then t else at' a j := by
  unfold at'
  rw [List.getD_eq_getElem?_getD, List.getD_eq_getElem?_getD, List.getElem?_set]
  by_cases e : k = j
  · subst e
    simp [h]
  · rw [if_neg e, if_neg (fun z => e z.symm)]
theorem bld_pop {m k t : Nat} {fd l : List Nat} (B : Bld m k fd (l ++ [t])) (hk : k < m) : Bld m (k + 1) ((fd.set k t).set t k) l := by
  have hm : ∀ j, j ∈ l ++ [t] ↔ j ∈ l ∨ j = t := fun j => by simp
  have ht : t < k := B.slt t (by simp)
  have hsr := List.pairwise_append.mp B.srt
  have hlt : ∀ j, j ∈ l → j < t := fun j hj => hsr.2.2 j hj t (by simp)
  have hl := B.len
  have ha : ∀ j, at' ((fd.set k t).set t k) j = if j = t then k else if j = k then t else at' fd j := fun j => by
    rw [at_set (by rw [List.length_set]; omega), at_set (by omega)]
  have old : ∀ j, j < k + 1 → j ∉ l → j = t ∨ j = k ∨ (j < k ∧ j ∉ l ++ [t]) := fun j h1 h2 => by
    by_cases e : j = t
    · exact .inl e
    · by_cases e2 : j = k
      · exact .inr (.inl e2)
      · refine .inr (.inr ⟨by omega, fun z => ?_⟩)
        rcases (hm j).mp z with z | z
        · exact h2 z
        · exact e z
  have hao : ∀ j, j < k → j ∉ l ++ [t] → at' ((fd.set k t).set t k) j = at' fd j := fun j h1 h2 => by
    rw [ha, if_neg (fun z => h2 ((hm j).mpr (.inr z))), if_neg (by omega)]
  have hat : at' ((fd.set k t).set t k) t = k := by rw [ha, if_pos rfl]
  have hak : at' ((fd.set k t).set t k) k = t := by rw [ha, if_neg (by omega), if_pos rfl]
  refine ⟨by rw [List.length_set, List.length_set]; exact hl, hk, hsr.1, fun j h => ?_, fun j hj hn => ?_, fun i j hij hj hi hjn h1 h2 => ?_, fun i j hi hin hj h1 h2 => ?_⟩
  · have := hlt j h; omega
  · rcases old j hj hn with e | e | ⟨e1, e2⟩
    · subst e
      rw [hat]
      refine ⟨by omega, fun z => ?_, by omega, hak⟩
      have := hlt _ z; omega
    · subst e
      rw [hak]
      refine ⟨by omega, fun z => ?_, by omega, hat⟩
      have := hlt _ z; omega
    · obtain ⟨c1, c2, c3, c4⟩ := B.cl j e1 e2
      rw [hao j e1 e2, hao _ c1 c2]
      exact ⟨by omega, fun z => c2 ((hm _).mpr (.inl z)), c3, c4⟩
  · rcases old i (by omega) hi with e | e | ⟨e1, e2⟩
    · subst e
      rw [hat] at h1 h2
      rcases old j hj hjn with f | f | ⟨f1, f2⟩
      · omega
      · omega
      · rw [hao j f1 f2] at h2
        have := (B.cl j f1 f2).1
        omega
    · omega
    · rw [hao i e1 e2] at h1 h2
      have c1 := (B.cl i e1 e2).1
      rcases old j hj hjn with f | f | ⟨f1, f2⟩
      · subst f
        exact B.cov i j e1 e2 (by simp) hij h1
      · omega
      · rw [hao j f1 f2] at h2
        exact B.nc i j hij f1 e2 f2 h1 h2
  · have hjt := hlt j hj
    rcases old i hi hin with e | e | ⟨e1, e2⟩
    · omega
    · omega
    · rw [hao i e1 e2] at h2
      exact B.cov i j e1 e2 (by simp [hj]) h1 h2
theorem bld_arcs {n : Nat} {fd : List Nat} (B : Bld (2 * n) (2 * n) fd []) : ArcsL n fd :=
  ⟨B.len, fun k h => (B.cl k h (fun z => nomatch z)).1, fun k h => (B.cl k h (fun z => nomatch z)).2.2.1, fun k h => (B.cl k h (fun z => nomatch z)).2.2.2,
   fun j k a b c d => B.nc j k a b (fun z => nomatch z) (fun z => nomatch z) c d⟩
end Rm

set_option linter.all false
namespace Rm
/-! ## the word of arcs, by code points -/
def wcs (s : List Int) : List Nat := (List.range s.length).map fun k : Nat => if (k : Int) < g s k then 40 else 41
theorem wcs_len (s : List Int) : (wcs s).length = s.length := by simp [wcs]
theorem wcs_get {s : List Int} {k : Nat} (h : k < s.length) : (wcs s)[k]? = some (if (k : Int) < g s k then 40 else 41) := by
  unfold wcs
  rw [List.getElem?_map, List.getElem?_range h]
  rfl
theorem opens_end {s : List Int} (G : Good s) : opens s s.length = [] := by
  rw [List.eq_nil_iff_forall_not_mem]
  intro j hj
  rw [mem_opens] at hj
  have := (G.2.1 j hj.1).2.1
  omega
theorem g_set {s : List Int} {k j : Nat} {t : Int} (h : k < s.length) : g (s.set k t) j = if j = k then t else g s j := by
  unfold g
  rw [List.getD_eq_getElem?_getD, List.getD_eq_getElem?_getD, List.getElem?_set]
  by_cases e : k = j
  · subst e
    simp [h]
  · rw [if_neg e, if_neg (fun z => e z.symm)]
theorem ext_g {s t : List Int} (hl : s.length = t.length) (h : ∀ k : Nat, k < t.length → g s k = g t k) : s = t := by
  apply List.ext_getElem hl
  intro k h1 h2
  have := h k h2
  simpa [g, List.getD_eq_getElem?_getD, h1, h2] using this
/-- what has been read so far -/
def Rd (s : List Int) (i : Nat) (fd : List Int) : Prop := fd.length = s.length ∧ ∀ j : Nat, j < i → g s j < (i : Int) → g fd j = g s j
theorem rd0 (s : List Int) (fd : List Int) (h : fd.length = s.length) : Rd s 0 fd := ⟨h, fun j hj => absurd hj (Nat.not_lt_zero _)⟩
theorem rd_push {s : List Int} {i : Nat} {fd : List Int} (G : Good s) (hi : i < s.length) (h : (i : Int) < g s i) (R : Rd s i fd) : Rd s (i + 1) fd := by
  refine ⟨R.1, fun j hj hg => ?_⟩
  by_cases e : j = i
  · subst e; omega
  · refine R.2 j (by omega) ?_
    have hne : g s j ≠ (i : Int) := fun z => by
      have := okAt_inj (G.2.1 j (by omega)) z
      omega
    omega
theorem rd_pop {s : List Int} {i t : Nat} {fd : List Int} (G : Good s) (hi : i < s.length) (ht : (t : Int) = g s i) (hlt : g s i < (i : Int)) (R : Rd s i fd) : Rd s (i + 1) ((fd.set i (t : Int)).set t (i : Int)) := by
  have hl := R.1
  have hti : t < i := by omega
  refine ⟨by rw [List.length_set, List.length_set]; exact hl, fun j hj hg => ?_⟩
  rw [g_set (by rw [List.length_set]; omega), g_set (by omega)]
  by_cases e : j = t
  · subst e
    rw [if_pos rfl]
    exact (okAt_inj (G.2.1 i hi) ht.symm).symm
  · rw [if_neg e]
    by_cases e2 : j = i
    · subst e2
      rw [if_pos rfl, ht]
    · rw [if_neg e2]
      refine R.2 j (by omega) ?_
      have hne : g s j ≠ (i : Int) := fun z => by
        have := okAt_inj (G.2.1 j (by omega)) z
        omega
      omega
theorem rd_end {s fd : List Int} (G : Good s) (R : Rd s s.length fd) : fd = s := ext_g R.1 fun k hk => R.2 k hk (G.2.1 k hk).2.1
end Rm

namespace Rv
open PySem PySem.Spec PyProof.Rows L2
open Rm (zs at')
def topS (i : Nat) : Stmt := PySem.Challenge.pw_riverloops_k01_arcs_and_words.main.body.getD i (.Pass ⟨0, 0, 0, 0⟩)
structure Blt (mg : Str → Option Value) : Prop where
  len_ : mg "len" = none
  range_ : mg "range" = none
  isinstance_ : mg "isinstance" = none
  int_ : mg "int" = none
  bool_ : mg "bool" = none
  list_ : mg "list" = none
  str_ : mg "str" = none
  reversed_ : mg "reversed" = none
  min_ : mg "min" = none
  max_ : mg "max" = none
  abs_ : mg "abs" = none
  sum_ : mg "sum" = none
  set_ : mg "set" = none
  tuple_ : mg "tuple" = none
/-! ### common words of the walks -/
theorem hu64 {A : Around} {k : Nat} (hr : Room k A) : A.units + 64 < cLine := hr.units
/-- a def of the text: where it stands, what name it has -/
structure Dfn (K : PySem.W.Frag) (mg : Str → Option Value) (x : Str) (st : Stmt) (ps : List Str) : Prop where
  ex : ∃ (f : Addr) (fd : FuncData), Fun K x x st f fd ∧ mg x = some (.ref f) ∧ Binds K fd ps []
/-- a def that may be called by its name, and what it is worth; nothing leaves it -/
structure Cal (P : Program) (w : World) (K : PySem.W.Frag) (mg : Str → Option Value) (base : Heap) (k : Nat) (x : Str) (sp : Sp) : Prop where
  ex : ∃ (f : Addr) (fd : FuncData) (ps : List Str), FnOk P w K mg base CX0 k f fd ps sp ∧ mg x = some (.ref f) ∧ PySem.W.keepIn K (.ref f) = true ∧ Binds K fd ps []
theorem pe_c {X : Cx} {x : Str} {p pos : Pos} {e : Expr} {es : List Expr} {t : TA} {sp : Sp} {j k : Nat} (c : Cal X.prog X.w X.K X.mg X.base k x sp) (hr : Room j X.A) (hk : k ≤ j) (hg : Gl X x) (ha : PA X (e :: es) t)
    (hdb : (x == ("__debug__" : Str)) = false := by decide) (he : starEach (e :: es) X.env = (false, eval e X.env) :: starEach es X.env := by rfl) (hpl : (backTo pos (starEach es X.env)).any (·.1) = false := by rfl) :
    PE X (.Call (.Name x p) (e :: es) [] pos) (tCall sp [] E0 t) := by
  obtain ⟨f, fd, ps, F, hm, kp, b⟩ := c.ex
  exact pe_call F (hr.mono hk) hg hm kp b .nil pass0 ha hdb he hpl
section
variable {P : Program} {w : World} {K : PySem.W.Frag} {mg : Str → Option Value} {base : Heap}
theorem Dfn.cal {x : Str} {st : Stmt} {N ps : List Str} {k : Nat} {sp : Sp} (D : Dfn K mg x st ps) (S : FnScope N ps (defScope st)) (len : ∀ vs H Q E, sp vs H Q E → vs.length = ps.length)
    (hbody : ∀ (f : Addr) (cdv : Value) (A : Around) (outer : List Env) (s : Shared) (H : Hp) (vs : List V) (Q : VK) (E : XK), Room k (A.deeper (envOfC x (defScope st) s.heap.objs.size f cdv)) → sp vs H Q E →
      ∃ t, PSs (cxOf CX0 P w K mg base N x (defScope st) f cdv A outer s H E).nox (defBody st) t ∧ t { nx := fun _ H' => Q .non H', rt := Q } (start N vs) H) : Cal P w K mg base (k + 1) x sp := by
  obtain ⟨f, fd, F, hm, b⟩ := D.ex
  exact ⟨f, fd, ps, F.ok S len (fun cdv A outer s H vs Q E hr h => hbody f cdv A outer s H vs Q E hr h), hm, F.kp, b⟩
theorem cal_imp {x : Str} {k : Nat} {sp sp' : Sp} (c : Cal P w K mg base k x sp) (h : ∀ vs H Q E, sp' vs H Q E → sp vs H Q E) : Cal P w K mg base k x sp' := by
  obtain ⟨f, fd, ps, F, a, b, d⟩ := c.ex
  exact ⟨f, fd, ps, F.imp h, a, b, d⟩
theorem cal_mono {x : Str} {j k : Nat} {sp : Sp} (c : Cal P w K mg base j x sp) (h : j ≤ k) : Cal P w K mg base k x sp := by
  obtain ⟨f, fd, ps, F, a, b, d⟩ := c.ex
  exact ⟨f, fd, ps, F.mono h, a, b, d⟩
end
/-! heaps -/
theorem same_new {H : Hp} {p : Addr} {o : HO} (h : H p = none) : Same H (upd H p o) := fun b x e => by
  rw [upd_ne (ne_of_none e h)]
  exact e
/-- a store to an object that H did not hold -/
theorem same_upd {H H' : Hp} {p : Addr} {o : HO} (sm : Same H H') (h : H p = none) : Same H (upd H' p o) := fun b x e => by
  rw [upd_ne (ne_of_none e h)]
  exact sm b x e
theorem sqL {K : PySem.W.Frag} {H : Hp} {p : Addr} {xs : List V} (h : H p = some (.lst xs)) : SqL K H p xs := .inl (.inl h)
theorem sqT {K : PySem.W.Frag} {H : Hp} {p : Addr} {xs : List V} (h : H p = some (.tup xs)) : SqT K H p xs := .inl (.inl h)
theorem small63 {n : Nat} (h : n ≤ 100000) : n < sizeLine := Nat.lt_of_le_of_lt h (by decide)
theorem small63' {n : Nat} (h : n ≤ 100000) : n ≤ sizeLine := Nat.le_of_lt (small63 h)
/-! lists -/
abbrev vi (s : List Int) : List V := s.map V.int
abbrev vn (a : List Nat) : List V := vi (zs a)
theorem vi_get {s : List Int} {k : Nat} (h : k < s.length) : (vi s)[k]? = some (.int (Rm.g s k)) := by
  rw [List.getElem?_map, List.getElem?_eq_getElem h]
  simp [Rm.g, List.getD_eq_getElem?_getD, h]
theorem vi_at {s : List Int} {k : Nat} {z : Int} (h : k < s.length) (e : z = (k : Int)) : atI (vi s) z = some (.int (Rm.g s k)) := at_of e (vi_get h)
theorem vi_append (s t : List Int) : vi s ++ vi t = vi (s ++ t) := (List.map_append).symm
theorem zs_append (s t : List Nat) : zs s ++ zs t = zs (s ++ t) := (List.map_append).symm
theorem vn_push (s : List Nat) (k : Nat) : vn s ++ [V.int (k : Int)] = vn (s ++ [k]) := by simp [vn, vi, zs]
theorem vn_last (s : List Nat) (k : Nat) : (vn (s ++ [k]))[(vn (s ++ [k])).length - 1]? = some (.int (k : Int)) := by simp [vn, vi, zs]
theorem vn_drop (s : List Nat) (k : Nat) : (vn (s ++ [k])).dropLast = vn s := by simp [vn, vi, zs]
theorem vn_len (s : List Nat) : (vn s).length = s.length := by simp [vn, vi, zs]
/-! tests that are decided -/
theorem dn {p : Prop} [Decidable p] (h : ¬ decide p = true) : ¬ p := fun z => h (decide_eq_true z)
theorem nd {p : Prop} [Decidable p] (h : ¬ (!decide p) = true) : p := by
  by_cases q : p
  · exact q
  · rw [decide_eq_false q] at h; exact absurd rfl h
theorem nt {p : Prop} [Decidable p] (h : (!decide p) = true) : ¬ p := fun z => by
  rw [decide_eq_true z] at h; exact nomatch h
theorem ixN_nat {n k : Nat} (h : k < n) : ixN n (k : Int) = some k := by
  unfold ixN
  rw [if_pos (by omega), if_pos (by omega), Int.toNat_natCast]
theorem ixN_of {n k : Nat} {z : Int} (e : z = (k : Int)) (h : k < n) : ixN n z = some k := by rw [e]; exact ixN_nat h
theorem vn_set (s : List Nat) (k t : Nat) : (vn s).set k (V.int (t : Int)) = vn (s.set k t) := by simp [vn, vi, zs, List.map_set]
theorem vi_set (s : List Int) (k : Nat) (t : Int) : (vi s).set k (V.int t) = vi (s.set k t) := by simp [vi, List.map_set]
theorem rep1 {α : Type} (x : α) : ∀ n : Nat, (List.replicate n [x]).flatten = List.replicate n x
  | 0 => rfl
  | n + 1 => by rw [List.replicate_succ, List.flatten_cons, rep1 x n, List.replicate_succ]; rfl
theorem vn_rep (n : Nat) : List.replicate n (V.int 0) = vn (List.replicate n 0) := by simp [vn, vi, zs]
theorem zs_g (a : List Nat) (k : Nat) : Rm.g (zs a) k = ((at' a k : Nat) : Int) := by
  simp only [Rm.g, at', zs, List.getD_eq_getElem?_getD, List.getElem?_map]
  cases a[k]? <;> simp
theorem vn_at {a : List Nat} {k : Nat} {z : Int} (h : k < a.length) (e : z = (k : Int)) : atI (vn a) z = some (.int ((at' a k : Nat) : Int)) := by
  have := vi_at (s := zs a) (by simpa using h) e
  rw [zs_g] at this
  exact this
theorem vn_get {a : List Nat} {k : Nat} (h : k < a.length) : (vn a)[k]? = some (.int ((at' a k : Nat) : Int)) := by
  have := vi_get (s := zs a) (k := k) (by simpa using h)
  rw [zs_g] at this
  exact this
/-! texts by their signs -/
def tx (cs : List Nat) : Str := ⟨cs.toArray⟩
theorem tx_len (cs : List Nat) : (tx cs).length = cs.length := by simp [tx, Str.length]
theorem tx_lp : (("(" : String) : Str) = tx [40] := by decide +kernel
theorem tx_rp : ((")" : String) : Str) = tx [41] := by decide +kernel
theorem tx_nil : (("" : String) : Str) = tx [] := by decide +kernel
theorem tx_app (a b : List Nat) : tx a ++ tx b = tx (a ++ b) := by
  show Str.append (tx a) (tx b) = _
  simp [tx, Str.append]
theorem tx_inj {a b : List Nat} (h : tx a = tx b) : a = b := by
  have := congrArg (fun s : Str => s.cps.toList) h
  simpa [tx] using this
theorem tx_join : ∀ l : List Nat, Str.join (tx []) (l.map fun c => tx [c]) = tx l
  | [] => rfl
  | [c] => rfl
  | c :: d :: r => by
    have h := tx_join (d :: r)
    show tx [c] ++ tx [] ++ Str.join (tx []) ((d :: r).map fun c => tx [c]) = _
    rw [h, tx_app, tx_app]
    rfl
theorem tx_get {cs : List Nat} {k c : Nat} (h : cs[k]? = some c) : (tx cs).cps[k]? = some c := by simpa [tx] using h
/-! lists of ints as data -/
theorem dp_vi {K : PySem.W.Frag} {H : Hp} : ∀ s : List Int, DpAll K H (vi s) (s.map PyData.int)
  | [] => .nil
  | x :: r => .cons (.int x) (dp_vi r)
theorem rEq_ints {K : PySem.W.Frag} {H : Hp} {a b : Addr} {s t : List Int} {Q : VK} (ha : SqL K H a (vi s)) (hb : SqL K H b (vi t)) (q : Q (.bl (decide (s = t))) H) : rEqD K (.ref a) (.ref b) H Q := by
  refine ⟨_, _, .lst ha (dp_vi s), .lst hb (dp_vi t), PySem.W.ke_shaped_ints s, PySem.W.ke_shaped_ints t, ?_⟩
  rw [PyData.eqv, PySem.W.ked_eqvAll]
  exact q
theorem rNe_ints {K : PySem.W.Frag} {H : Hp} {a b : Addr} {s t : List Int} {Q : VK} (ha : SqL K H a (vi s)) (hb : SqL K H b (vi t)) (q : Q (.bl (!decide (s = t))) H) : rNeD K (.ref a) (.ref b) H Q := by
  refine ⟨_, _, .lst ha (dp_vi s), .lst hb (dp_vi t), PySem.W.ke_shaped_ints s, PySem.W.ke_shaped_ints t, ?_⟩
  rw [PyData.eqv, PySem.W.ked_eqvAll]
  exact q
/-! ways that meet: G is found at the first use -/
theorem joinC {α : Type} {C G : α → Prop} {goal : Prop} (h : (∀ x, C x → G x) → goal) (hG : ∀ x, C x → G x) : goal := h hG
def rLenK (K : PySem.W.Frag) : List V → Hp → VK → Prop := fun xs H Q => ∃ p ys, xs = [.ref p] ∧ (SqL K H p ys ∨ SqT K H p ys) ∧ Q (.int ((ys.length : Nat) : Int)) H

end Rv

namespace Rv
open PySem PySem.Spec PyProof.Rows L2
open Rm (zs at')
/-! ### is_arcs -/
abbrev s_is_arcs : Stmt := topS 6
theorem sc_is_arcs : FnScope ["some", "open_ones", "k"] ["some"] (defScope s_is_arcs) := ⟨rfl, rfl, rfl, by decide +kernel, rfl, by decide +kernel, by decide +kernel⟩
def spIsArcs (K : PySem.W.Frag) : Sp := fun vs H Q _ => ∃ (a : Addr) (s : List Int), vs = [.ref a] ∧ SqL K H a (vi s) ∧ s.length ≤ 1000 ∧ ∀ b H', Same H H' → (b = true ↔ Rm.Good s) → Q (.bl b) H'
section
variable {P : Program} {w : World} {K : PySem.W.Frag} {mg : Str → Option Value} {base : Heap}
theorem ok_is_arcs {tM : Tok} (D : Dfn K mg "is_arcs" s_is_arcs ["some"]) (B : Blt mg) (g_MOST : mg "MOST" = some (.int 20 tM)) : Cal P w K mg base 1 "is_arcs" (spIsArcs K) := by
  refine D.cal sc_is_arcs (fun vs H Q E h => ?_) (fun f cdv A outer s0 H vs Q E hr h => ?_)
  · obtain ⟨a, s, rfl, _⟩ := h
    rfl
  · obtain ⟨a, s, rfl, hS, hlen, q⟩ := h
    refine ⟨_, (pss_cons (ps_if (PW.pt (pw_or (pt_cmpR op_lt (pe_callB call_len_seq (by rfl) B.len_ PySem.boot_len (pa_cons (pv 0) pa_nil)) pe_int (nomark _)) (pw_or1 (pt_cmpR op_gt (pe_callB call_len_seq (by rfl) B.len_ PySem.boot_len (pa_cons (pv 0) pa_nil)) (pe_op op_mul pe_int (pe_glob (v := .int 20) (by rfl) g_MOST ⟨_, rfl⟩)) (nomark _)))))
        (pss_one (ps_ret pe_bl))
        pss_nil)
      (pss_cons (ps_set (i := 1) sc_is_arcs.nd rfl (.inl rfl) (pe_lst pa_nil))
      (pss_cons (ps_for PassesOwn.never rfl (pi_range1 (by rfl) B.range_ (pa_cons (pe_callB call_len_seq (by rfl) B.len_ PySem.boot_len (pa_cons (pv 0) pa_nil)) pa_nil)) (pg_name (i := 2) sc_is_arcs.nd rfl (.inl rfl))
        (pss_cons (ps_if (PW.pt (pw_or (pt_not (pt_chain op_le op_lt pe_int (pe_ix ix_list (pv 0) (pv 2) (fun _ _ => rfl)) (pe_callB call_len_seq (by rfl) B.len_ PySem.boot_len (pa_cons (pv 0) pa_nil)))) (pw_or (pt_cmpR op_eq (pe_ix ix_list (pv 0) (pv 2) (fun _ _ => rfl)) (pv 2) (nomark _)) (pw_or1 (pt_cmpR op_ne (pe_ix ix_list (pv 0) (pe_ix ix_list (pv 0) (pv 2) (fun _ _ => rfl)) (fun _ _ => rfl)) (pv 2) (nomark _))))))
          (pss_one (ps_ret pe_bl))
          pss_nil)
        (pss_one (ps_if (pt_cmpR op_gt (pe_ix ix_list (pv 0) (pv 2) (fun _ _ => rfl)) (pv 2) (nomark _))
          (pss_one (ps_expr (pe_bm PySem.F.plainAttrs_list PySem.F.slot_list_append PySem.F.type_list_append mt_append (pv 1) (pa_cons (pv 2) pa_nil))))
          (pss_one (ps_if (pt_cmpR op_ne (pe_bm0 PySem.F.plainAttrs_list PySem.F.slot_list_pop PySem.F.type_list_pop mt_pop (pv 1)) (pe_ix ix_list (pv 0) (pv 2) (fun _ _ => rfl)) (nomark _))
            (pss_one (ps_ret pe_bl))
            pss_nil))))))
      (pss_one (ps_ret pe_bl))))), ?_⟩
    refine ⟨.ref a, rfl, a, _, rfl, .inl hS, _, _, rfl, rfl, _, rfl, ite2 (fun e => ?_) (fun e => ?_)⟩
    · have e := of_decide_eq_true e
      rw [List.length_map] at e
      refine iteT (q false H (Same.refl H) ⟨fun z => (nomatch z), fun G => ?_⟩)
      have := G.1.1
      omega
    have e1 := of_decide_eq_false (Bool.eq_false_iff.mpr e)
    rw [List.length_map] at e1
    refine ⟨.ref a, rfl, a, _, rfl, .inl hS, _, _, rfl, rfl, .inl ⟨by decide, by decide⟩, _, _, rfl, rfl, _, rfl, ite2 (fun e => ?_) (fun e => ?_)⟩
    · have e := of_decide_eq_true e
      rw [List.length_map] at e
      refine q false H (Same.refl H) ⟨fun z => (nomatch z), fun G => ?_⟩
      have := G.1.2
      omega
    have e2 := of_decide_eq_false (Bool.eq_false_iff.mpr e)
    rw [List.length_map] at e2
    have hL : 2 ≤ s.length ∧ s.length ≤ 40 := by omega
    refine ⟨Nat.zero_le _, fun p np => ?_⟩
    refine ⟨.ref a, rfl, a, _, rfl, .inl ((same_new np).seq hS), _, rfl, by rw [List.length_map]; omega, by rw [List.length_map]; omega, ?_⟩
    rw [show ((vi s).length : Int).toNat = s.length by rw [List.length_map]; omega]
    refine for_range (lo := 0) (n := s.length) (fun i σ H' => ∃ y2, σ = [some (.ref a), some (.ref p), y2] ∧ Same H H' ∧ H' p = some (.lst (vn (Rm.opens s i))) ∧ Rm.Stage s i) ⟨none, rfl, same_new np, upd_same, Rm.stage0 s⟩ (fun i σ H' hi hP => ?_) (fun σ H' hP => ?_)
    · obtain ⟨y2, rfl, sm, hp, st⟩ := hP
      have hS' := sm.seq hS
      rw [Int.zero_add]
      have iv : atI (vi s) (i : Int) = some (.int (Rm.g s i)) := vi_at hi rfl
      have bad : ¬ Rm.OkAt s i → Q (.bl false) H' := fun h => q false H' sm ⟨fun z => (nomatch z), fun G => absurd (G.2.1 i hi) h⟩
      -- 0 <= some[k] < len(some)
      refine ⟨.ref a, rfl, .int i, rfl, a, _, _, _, rfl, rfl, hS', iv, _, _, rfl, rfl, _, rfl, ite2 (fun e1 => ?_) (fun e1 => ?_)⟩
      case refine_2 =>
        exact ⟨_, rfl, iteT (bad fun ok => e1 (decide_eq_true ok.1))⟩
      have e1 := of_decide_eq_true e1
      refine ⟨.ref a, rfl, a, _, rfl, .inl hS', _, _, rfl, rfl, _, rfl, ?_⟩
      show if (!decide (Rm.g s i < ((vi s).length : Int))) = true then _ else _
      rw [List.length_map]
      refine ite2 (fun e2 => ?_) (fun e2 => ?_)
      · refine iteT (bad fun ok => ?_)
        have := ok.2.1
        rw [decide_eq_true this] at e2
        exact nomatch e2
      have e2 : Rm.g s i < (s.length : Int) := by
        rcases Bool.eq_false_or_eq_true (decide (Rm.g s i < (s.length : Int))) with z | z
        · exact of_decide_eq_true z
        · rw [z] at e2; exact absurd rfl e2
      -- some[k] == k
      refine ⟨.ref a, rfl, .int i, rfl, a, _, _, _, rfl, rfl, hS', iv, .int i, rfl, rfl, _, rfl, ite2 (fun e3 => ?_) (fun e3 => ?_)⟩
      · exact iteT (bad fun ok => ok.2.2.1 (V.int.inj (of_decide_eq_true e3)))
      have e3 : Rm.g s i ≠ (i : Int) := fun z => e3 (decide_eq_true (congrArg V.int z))
      -- some[some[k]] != k
      have iv2 : atI (vi s) (Rm.g s i) = some (.int (Rm.g s (Rm.g s i).toNat)) := vi_at (by omega) (by omega)
      refine ⟨.ref a, rfl, .ref a, rfl, .int i, rfl, a, _, _, _, rfl, rfl, hS', iv, a, _, _, _, rfl, rfl, hS', iv2, .int i, rfl, rfl, _, rfl, ite2 (fun e4 => ?_) (fun e4 => ?_)⟩
      · refine bad fun ok => ?_
        rw [ok.2.2.2, decide_eq_true rfl] at e4
        exact nomatch e4
      have e4 : Rm.g s (Rm.g s i).toNat = (i : Int) := by
        rcases Bool.eq_false_or_eq_true (decide (V.int (Rm.g s (Rm.g s i).toNat) = V.int (i : Int))) with z | z
        · exact V.int.inj (of_decide_eq_true z)
        · rw [z] at e4; exact absurd rfl e4
      have ok : Rm.OkAt s i := ⟨e1, e2, e3, e4⟩
      -- some[k] > k
      refine ⟨.ref a, rfl, .int i, rfl, a, _, _, _, rfl, rfl, hS', iv, .int i, rfl, _, _, rfl, rfl, _, rfl, ite2 (fun e5 => ?_) (fun e5 => ?_)⟩
      · have e5 := of_decide_eq_true e5
        refine ⟨.ref p, rfl, .inl ⟨rfl, _, sqL hp⟩, .int i, rfl, p, _, _, rfl, rfl, hp, ?_, ?_⟩
        · rw [vn_len]
          exact small63 (by have := Rm.opens_len s i; omega)
        · refine ⟨_, rfl, same_upd sm np, ?_, Rm.stage_push st ok e5⟩
          rw [upd_same, vn_push, Rm.opens_push st e5]
      · have e5 : Rm.g s i < (i : Int) := by
          have : ¬ (i : Int) < Rm.g s i := fun z => e5 (decide_eq_true z)
          omega
        obtain ⟨l, t, eo⟩ := Rm.opens_ne ok e5
        rw [eo] at hp
        refine ⟨.ref p, rfl, .inl ⟨rfl, _, sqL hp⟩, p, _, _, rfl, rfl, hp, vn_last l t, ?_⟩
        have sm2 := same_upd (o := .lst (vn l)) sm np
        rw [vn_drop]
        refine ⟨.ref a, rfl, .int i, rfl, a, _, _, _, rfl, rfl, sm2.seq hS, iv, rfl, _, rfl, ite2 (fun e6 => ?_) (fun e6 => ?_)⟩
        · have e6 : (t : Int) ≠ Rm.g s i := fun z => by
            rw [z, decide_eq_true rfl] at e6
            exact nomatch e6
          exact q false _ sm2 ⟨fun z => (nomatch z), fun G => absurd G.2.2 (Rm.stage_cross st ok e5 hi eo e6)⟩
        · have e6 : (t : Int) = Rm.g s i := by
            rcases Bool.eq_false_or_eq_true (decide (V.int (t : Int) = V.int (Rm.g s i))) with z | z
            · exact V.int.inj (of_decide_eq_true z)
            · rw [z] at e6; exact absurd rfl e6
          refine ⟨_, rfl, sm2, ?_, Rm.stage_pop st ok eo e6⟩
          rw [upd_same, Rm.opens_pop st ok e5 eo e6]
    · obtain ⟨y2, rfl, sm, hp, st⟩ := hP
      exact q true H' sm ⟨fun _ => Rm.stage_good hL st, fun _ => rfl⟩
end

end Rv

namespace Rv
open PySem PySem.Spec PyProof.Rows L2
open Rm (zs at')
/-! ### ask, of arcs -/
abbrev s_ask : Stmt := topS 7
theorem sc_ask : FnScope ["arcs"] ["arcs"] (defScope s_ask) := ⟨rfl, rfl, rfl, by decide +kernel, rfl, by decide +kernel, by decide +kernel⟩
def spAsk (K : PySem.W.Frag) : Sp := fun vs H Q _ => ∃ (a : Addr) (s : List Int), vs = [.ref a] ∧ SqL K H a (vi s) ∧ Rm.Good s ∧ ∀ H', Same H H' → Q .non H'
section
variable {P : Program} {w : World} {K : PySem.W.Frag} {mg : Str → Option Value} {base : Heap}
theorem ok_ask (D : Dfn K mg "ask" s_ask ["arcs"]) (c_is_arcs : Cal P w K mg base 1 "is_arcs" (spIsArcs K)) : Cal P w K mg base 2 "ask" (spAsk K) := by
  refine D.cal sc_ask (fun vs H Q E h => ?_) (fun f cdv A outer s0 H vs Q E hr h => ?_)
  · obtain ⟨a, s, rfl, _⟩ := h
    rfl
  · obtain ⟨a, s, rfl, hS, G, q⟩ := h
    refine ⟨_, (pss_one (ps_if (pt_not (pt_val (pe_c c_is_arcs hr (by omega) (by rfl) (pa_cons (pv 0) pa_nil))))
        (pss_one (ps_never))
        pss_nil)), ?_⟩
    refine ⟨.ref a, rfl, a, s, rfl, hS, by have := G.1; omega, fun b H' sm hb => ⟨b, rfl, ?_⟩⟩
    rw [hb.mpr G]
    exact iteF (q H' sm)
end

end Rv

namespace Rv
open PySem PySem.Spec PyProof.Rows L2
open Rm (zs at')
/-! ### _law_cell_at -/
abbrev s_law_cell_at : Stmt := topS 11
theorem sc_law_cell_at : FnScope ["script", "k"] ["script", "k"] (defScope s_law_cell_at) := ⟨rfl, rfl, rfl, by decide +kernel, rfl, by decide +kernel, by decide +kernel⟩
def spCell (K : PySem.W.Frag) : Sp := fun vs H Q _ => ∃ (a : Addr) (ns : List Int) (k : Int), vs = [.ref a, .int k] ∧ SqL K H a (vi ns) ∧ 0 ≤ k ∧ ∀ c : Int, Q (.int c) H
section
variable {P : Program} {w : World} {K : PySem.W.Frag} {mg : Str → Option Value} {base : Heap}
theorem ok_law_cell_at (D : Dfn K mg "_law_cell_at" s_law_cell_at ["script", "k"]) (B : Blt mg) : Cal P w K mg base 1 "_law_cell_at" (spCell K) := by
  refine D.cal sc_law_cell_at (fun vs H Q E h => ?_) (fun f cdv A outer s0 H vs Q E hr h => ?_)
  · obtain ⟨a, ns, k, rfl, _⟩ := h
    rfl
  · obtain ⟨a, ns, k, rfl, hS, h0, q⟩ := h
    refine ⟨_, (pss_cons (ps_if (pt_cmpR op_lt (pv 1) (pe_callB call_len_seq (by rfl) B.len_ PySem.boot_len (pa_cons (pv 0) pa_nil)) (nomark _))
        (pss_one (ps_ret (pe_ix ix_list (pv 0) (pv 1) (fun _ _ => rfl))))
        pss_nil)
      (pss_one (ps_ret pe_int))), ?_⟩
    refine ⟨.int k, rfl, .ref a, rfl, a, _, rfl, .inl hS, _, _, rfl, rfl, _, rfl, ite2 (fun e => ?_) (fun e => ?_)⟩
    · have e := of_decide_eq_true e
      rw [List.length_map] at e
      exact ⟨.ref a, rfl, .int k, rfl, a, _, _, _, rfl, rfl, hS, vi_at (k := k.toNat) (by omega) (by omega), q _⟩
    · exact q 0
end

end Rv

namespace Rv
open PySem PySem.Spec PyProof.Rows L2
open Rm (zs at')
/-! ### _law_whole -/
abbrev s_law_whole : Stmt := topS 12
theorem sc_law_whole : FnScope ["found"] ["found"] (defScope s_law_whole) := ⟨rfl, rfl, rfl, by decide +kernel, rfl, by decide +kernel, by decide +kernel⟩
theorem tyInt {K : PySem.W.Frag} {H : Hp} (i : Int) : TyX K H (.int i) (.type "int") := .base (.int i)
def spWhole : Sp := fun vs H Q _ => ∃ i : Int, vs = [.int i] ∧ Q (.bl true) H
section
variable {P : Program} {w : World} {K : PySem.W.Frag} {mg : Str → Option Value} {base : Heap}
theorem ok_law_whole (D : Dfn K mg "_law_whole" s_law_whole ["found"]) (B : Blt mg) : Cal P w K mg base 1 "_law_whole" spWhole := by
  refine D.cal sc_law_whole (fun vs H Q E h => ?_) (fun f cdv A outer s0 H vs Q E hr h => ?_)
  · obtain ⟨i, rfl, _⟩ := h
    rfl
  · obtain ⟨i, rfl, q⟩ := h
    refine ⟨_, (pss_one (ps_ret (pe_and (pe_callB call_isi (by rfl) B.isinstance_ (by decide +kernel) (pa_cons (pv 0) (pa_cons (pe_bltn (v := .ty "int") (by rfl) B.int_ (by decide +kernel) rfl) pa_nil))) (pe_one (pe_not (pe_callB call_isi (by rfl) B.isinstance_ (by decide +kernel) (pa_cons (pv 0) (pa_cons (pe_bltn (v := .ty "bool") (by rfl) B.bool_ (by decide +kernel) rfl) pa_nil)))))))), ?_⟩
    refine ⟨.int i, rfl, _, _, _, _, true, rfl, .ty "int", tyInt i, kit_ty (by decide +kernel), true, rfl, iteT ?_⟩
    exact ⟨.int i, rfl, _, _, _, _, false, rfl, .ty "bool", tyInt i, kit_ty (by decide +kernel), false, rfl, q⟩
end

end Rv

namespace Rv
open PySem PySem.Spec PyProof.Rows L2
open Rm (zs at')
/-! ### _law_numbers -/
abbrev s_law_numbers : Stmt := topS 13
theorem sc_law_numbers : FnScope ["found", "due", "x"] ["found", "due"] (defScope s_law_numbers) := ⟨rfl, rfl, rfl, by decide +kernel, rfl, by decide +kernel, by decide +kernel⟩
theorem tyLst {K : PySem.W.Frag} {H : Hp} {p : Addr} {xs : List V} (h : H p = some (.lst xs)) : TyX K H (.ref p) (.type "list") := .base (.lst h)
def spNumbers (K : PySem.W.Frag) : Sp := fun vs H Q _ => ∃ (p b : Addr) (s t : List Int), vs = [.ref p, .ref b] ∧ H p = some (.lst (vi s)) ∧ SqL K H b (vi t) ∧ (s = t → Q (.bl true) H) ∧ (s ≠ t → Q (.bl false) H)
section
variable {P : Program} {w : World} {K : PySem.W.Frag} {mg : Str → Option Value} {base : Heap}
theorem ok_law_numbers (D : Dfn K mg "_law_numbers" s_law_numbers ["found", "due"]) (B : Blt mg) (c_law_whole : Cal P w K mg base 1 "_law_whole" spWhole) : Cal P w K mg base 2 "_law_numbers" (spNumbers K) := by
  refine D.cal sc_law_numbers (fun vs H Q E h => ?_) (fun f cdv A outer s0 H vs Q E hr h => ?_)
  · obtain ⟨p, b, s, t, rfl, _⟩ := h
    rfl
  · obtain ⟨p, b, s, t, rfl, hP, hT, q1, q2⟩ := h
    refine ⟨_, (pss_cons (ps_if (PW.pt (pw_or (pt_not (pt_val (pe_callB call_isi (by rfl) B.isinstance_ (by decide +kernel) (pa_cons (pv 0) (pa_cons (pe_bltn (v := .ty "list") (by rfl) B.list_ (by decide +kernel) rfl) pa_nil))))) (pw_or1 (pt_cmpR op_ne (pe_callB call_len_seq (by rfl) B.len_ PySem.boot_len (pa_cons (pv 0) pa_nil)) (pe_callB call_len_seq (by rfl) B.len_ PySem.boot_len (pa_cons (pv 1) pa_nil)) (nomark _)))))
        (pss_one (ps_ret pe_bl))
        pss_nil)
      (pss_cons (ps_for PassesOwn.never rfl (pi_list (pv 0)) (pg_name (i := 2) sc_law_numbers.nd rfl (.inl rfl))
        (pss_one (ps_if (pt_not (pt_val (pe_c c_law_whole hr (by omega) (by rfl) (pa_cons (pv 2) pa_nil))))
          (pss_one (ps_ret pe_bl))
          pss_nil)))
      (pss_one (ps_ret (pe_cmpR (op_eqD (hu64 hr)) (pv 0) (pv 1) (nomark _)))))), ?_⟩
    refine ⟨.ref p, rfl, _, _, _, _, true, rfl, .ty "list", tyLst hP, kit_ty (by decide +kernel), true, rfl, iteF ?_⟩
    refine ⟨.ref p, rfl, p, _, rfl, .inl (sqL hP), .ref b, rfl, b, _, rfl, .inl hT, rfl, _, rfl, ite2 (fun e => ?_) (fun e => ?_)⟩
    · refine q2 fun z => ?_
      rw [z, decide_eq_true rfl] at e
      exact nomatch e
    refine ⟨.ref p, rfl, p, rfl, ⟨_, sqL hP⟩, for_list (xs := vi s) (fun i σ H' => H' = H ∧ ∃ y2, σ = [some (.ref p), some (.ref b), y2]) ⟨rfl, none, rfl⟩ (fun i σ H' _ h => ?_) (fun i v σ H' hi h => ?_) (fun σ H' h => ?_)⟩
    · rw [h.1]
      exact sqL hP
    · obtain ⟨rfl, y2, rfl⟩ := h
      have hi' : i < s.length := by
        have := (List.getElem?_eq_some_iff.mp hi).1
        simpa using this
      rw [vi_get hi'] at hi
      cases hi
      exact ⟨_, rfl, _, rfl, true, rfl, iteF ⟨rfl, _, rfl⟩⟩
    · obtain ⟨rfl, y2, rfl⟩ := h
      refine ⟨.ref p, rfl, .ref b, rfl, rEq_ints (sqL hP) hT ?_⟩
      by_cases z : s = t
      · rw [decide_eq_true z]; exact q1 z
      · rw [decide_eq_false z]; exact q2 z
end

end Rv

namespace Rv
open PySem PySem.Spec PyProof.Rows L2
open Rm (zs at')
/-! ### _law_arcs -/
abbrev s_law_arcs : Stmt := topS 14
theorem sc_law_arcs : FnScope ["script", "at", "size", "found", "ahead", "k", "cell", "other"] ["script", "at", "size"] (defScope s_law_arcs) := ⟨rfl, rfl, rfl, by decide +kernel, rfl, by decide +kernel, by decide +kernel⟩
def spLawArcs (K : PySem.W.Frag) : Sp := fun vs H Q _ => ∃ (a : Addr) (ns : List Int) (at0 : Int) (n : Nat), vs = [.ref a, .int at0, .int (n : Int)] ∧ SqL K H a (vi ns) ∧ 0 ≤ at0 ∧ 1 ≤ n ∧ n ≤ 20 ∧
  ∀ H' p fd, Rm.ArcsL n fd → Same H H' → H p = none → H' p = some (.lst (vn fd)) → Q (.ref p) H'
theorem pick4 (c : Int) (x y : Int) : ∃ z : Int, atI [V.int x, V.int y, V.int 0, V.int 1] ((c.fdiv 4).fmod 4) = some (.int z) := by
  have h0 := Int.fmod_nonneg_of_pos (c.fdiv 4) (show (0 : Int) < 4 by decide)
  have h1 := Int.fmod_lt_of_pos (c.fdiv 4) (show (0 : Int) < 4 by decide)
  generalize (c.fdiv 4).fmod 4 = r at h0 h1
  have : r = 0 ∨ r = 1 ∨ r = 2 ∨ r = 3 := by omega
  rcases this with rfl | rfl | rfl | rfl
  · exact ⟨x, rfl⟩
  · exact ⟨y, rfl⟩
  · exact ⟨0, rfl⟩
  · exact ⟨1, rfl⟩
section
variable {P : Program} {w : World} {K : PySem.W.Frag} {mg : Str → Option Value} {base : Heap}
theorem ok_law_arcs (D : Dfn K mg "_law_arcs" s_law_arcs ["script", "at", "size"]) (B : Blt mg) (c_law_cell_at : Cal P w K mg base 1 "_law_cell_at" (spCell K)) : Cal P w K mg base 2 "_law_arcs" (spLawArcs K) := by
  refine D.cal sc_law_arcs (fun vs H Q E h => ?_) (fun f cdv A outer s0 H vs Q E hr h => ?_)
  · obtain ⟨a, ns, at0, n, rfl, _⟩ := h
    rfl
  · obtain ⟨a, ns, at0, n, rfl, hS, h0, h1, h20, q⟩ := h
    refine ⟨_, (pss_cons (ps_set (i := 3) sc_law_arcs.nd rfl (.inl rfl) (pe_op op_rep (pe_lst (pa_cons pe_int pa_nil)) (pe_op op_mul pe_int (pv 2))))
      (pss_cons (ps_set (i := 4) sc_law_arcs.nd rfl (.inl rfl) (pe_lst pa_nil))
      (pss_cons (ps_for PassesOwn.never rfl (pi_range1 (by rfl) B.range_ (pa_cons (pe_op op_mul pe_int (pv 2)) pa_nil)) (pg_name (i := 5) sc_law_arcs.nd rfl (.inl rfl))
        (pss_cons (ps_set (i := 6) sc_law_arcs.nd rfl (.inl rfl) (pe_c c_law_cell_at hr (by omega) (by rfl) (pa_cons (pv 0) (pa_cons (pe_op op_add (pv 1) (pv 5)) pa_nil))))
        (pss_cons (ps_if (pt_cmpR op_gt (pe_op op_add (pv 1) (pv 5)) pe_int (nomark _))
          (pss_one (ps_set (i := 6) sc_law_arcs.nd rfl (.inl rfl) (pe_op op_fdivN (pe_c c_law_cell_at hr (by omega) (by rfl) (pa_cons (pv 0) (pa_cons (pe_op op_sub (pe_op op_add (pv 1) (pv 5)) pe_int) pa_nil))) pe_int)))
          pss_nil)
        (pss_one (ps_if (PW.pt (pw_and (pt_cmpR op_lt (pe_callB call_len_seq (by rfl) B.len_ PySem.boot_len (pa_cons (pv 4) pa_nil)) (pe_op op_sub (pe_op op_mul pe_int (pv 2)) (pv 5)) (nomark _)) (pw_and1 (PW.pt (pw_or (pt_cmpR op_eq (pe_callB call_len_seq (by rfl) B.len_ PySem.boot_len (pa_cons (pv 4) pa_nil)) pe_int (nomark _)) (pw_or1 (pt_cmpR op_eq (pe_op op_modN (pe_ix ix_list (pe_lst (pa_cons (pv 6) (pa_cons (pe_op op_fdivN (pv 6) pe_int) (pa_cons pe_int (pa_cons pe_int pa_nil))))) (pe_op op_modN (pe_op op_fdivN (pv 6) pe_int) pe_int) (fun _ _ => rfl)) pe_int) pe_int (nomark _))))))))
          (pss_one (ps_expr (pe_bm PySem.F.plainAttrs_list PySem.F.slot_list_append PySem.F.type_list_append mt_append (pv 4) (pa_cons (pv 5) pa_nil))))
          (pss_cons (ps_set (i := 7) sc_law_arcs.nd rfl (.inl rfl) (pe_bm0 PySem.F.plainAttrs_list PySem.F.slot_list_pop PySem.F.type_list_pop mt_pop (pv 4)))
          (pss_cons (ps_asg (pv 7) (pg_sub (pv 3) (pv 5) set_list))
          (pss_one (ps_asg (pv 5) (pg_sub (pv 3) (pv 7) set_list))))))))))
      (pss_one (ps_ret (pv 3)))))), ?_⟩
    refine ⟨by show 1 ≤ sizeLine; decide, fun x nx => ?_⟩
    have m2 : (2 * (n : Int)).toNat = 2 * n := by omega
    refine ⟨.int n, rfl, 2, n, rfl, rfl, .inl ⟨by decide, by decide⟩, x, _, _, rfl, rfl, upd_same, by omega, by omega, ?_, fun p np => ?_⟩
    · rw [m2]
      exact small63' (by show 1 * (2 * n) ≤ _; omega)
    rw [m2, rep1, vn_rep]
    have sx : Same H (upd H x (.lst [V.int 0])) := same_new nx
    have np0 : H p = none := sx.free np
    refine ⟨Nat.zero_le _, fun o no => ?_⟩
    have sp' := same_new (o := .lst (vn (List.replicate (2 * n) 0))) np
    have no1 := sp'.free no
    have no0 : H o = none := sx.free no1
    have hpo : p ≠ o := ne_of_none upd_same no
    refine ⟨.int n, rfl, 2, n, rfl, rfl, .inl ⟨by decide, by decide⟩, _, rfl, by omega, by omega, ?_⟩
    rw [m2]
    refine for_range (lo := 0) (n := 2 * n) (fun i σ H' => ∃ y5 y6 y7 fd st, σ = [some (.ref a), some (.int at0), some (.int n), some (.ref p), some (.ref o), y5, y6, y7] ∧ Same H H' ∧ H' p = some (.lst (vn fd)) ∧ H' o = some (.lst (vn st)) ∧ Rm.Bld (2 * n) i fd st ∧ st.length ≤ 2 * n - i ∧ (st.length + i) % 2 = 0)
      ⟨none, none, none, List.replicate (2 * n) 0, [], rfl, (sx.trans sp').trans (same_new no), by rw [upd_ne hpo, upd_same], upd_same, Rm.bld0 _ _ (List.length_replicate), Nat.zero_le _, rfl⟩ (fun i σ H' hi hP => ?_) (fun σ H' hP => ?_)
    · obtain ⟨y5, y6, y7, fd, st, rfl, sm, hp, ho, bl, hsl, hpar⟩ := hP
      rw [Int.zero_add]
      have hS' := sm.seq hS
      -- cell = _law_cell_at(script, at + k)
      refine ⟨.ref a, rfl, .int at0, rfl, .int i, rfl, _, _, rfl, rfl, a, ns, _, rfl, hS', by omega, ?_⟩
      -- what stands in the cell's slot is a number
      suffices hrest : ∀ c : Int, _ by
        intro c
        refine ⟨.int at0, rfl, .int i, rfl, _, _, rfl, rfl, _, _, rfl, rfl, _, rfl, ite2 (fun e => ?_) (fun e => hrest c)⟩
        · have e := of_decide_eq_true e
          refine ⟨.ref a, rfl, .int at0, rfl, .int i, rfl, _, _, rfl, rfl, _, _, rfl, rfl, a, ns, _, rfl, hS', by omega, fun c2 => ?_⟩
          exact ⟨_, _, rfl, rfl, ⟨by decide, by decide⟩, hrest (c2.fdiv 64)⟩
      intro c
      refine ⟨.ref o, rfl, o, _, rfl, .inl (sqL ho), .int n, rfl, 2, n, rfl, rfl, .inl ⟨by decide, by decide⟩, .int i, rfl, _, _, rfl, rfl, _, _, rfl, rfl, _, rfl, ?_⟩
      rw [vn_len]
      apply joinC (α := Hp) (C := fun H2 => Same H' H2 ∧ st.length < 2 * n - i)
      · intro hpush
        apply joinC (α := Hp) (C := fun H2 => Same H' H2 ∧ st ≠ [])
        · intro hpop
          refine ite2 (fun e1 => ?_) (fun e1 => ?_)
          · have e1 := of_decide_eq_true e1
            refine ⟨.ref o, rfl, o, _, rfl, .inl (sqL ho), rfl, _, rfl, ?_⟩
            rw [vn_len]
            refine ite2 (fun e2 => ?_) (fun e2 => ?_)
            · exact iteT (hpush H' ⟨Same.refl _, by omega⟩)
            · refine ⟨.int c, rfl, .int c, rfl, c, 2, rfl, rfl, ⟨by decide, by decide⟩, by show 4 ≤ sizeLine; decide, fun x2 nx2 => ?_⟩
              obtain ⟨z, hz⟩ := pick4 c c (c.fdiv 2)
              refine ⟨.int c, rfl, _, _, rfl, rfl, ⟨by decide, by decide⟩, _, _, rfl, rfl, (show (4 : Int) ≠ 0 by decide), x2, _, _, _, rfl, rfl, sqL upd_same, hz, _, _, rfl, rfl, (show (2 : Int) ≠ 0 by decide), rfl, _, rfl, ite2 (fun e3 => ?_) (fun e3 => ?_)⟩
              · exact hpush _ ⟨same_new nx2, by omega⟩
              · refine hpop _ ⟨same_new nx2, fun z => e2 ?_⟩
                rw [z]
                rfl
          · exact iteF (hpop H' ⟨Same.refl _, fun z => by
              subst z
              exact dn e1 (by simp; omega)⟩)
        · intro H2 hC
          obtain ⟨s2, hne⟩ := hC
          obtain ⟨l, t, rfl⟩ : ∃ l t, st = l ++ [t] := by
            rcases List.eq_nil_or_concat st with e | ⟨l, t, e⟩
            · exact absurd e hne
            · exact ⟨l, t, by rw [e, List.concat_eq_append]⟩
          have htk : t < i := bl.slt t (by simp)
          refine ⟨.ref o, rfl, .inl ⟨rfl, _, sqL (s2 _ _ ho)⟩, o, _, _, rfl, rfl, s2 _ _ ho, vn_last l t, ?_⟩
          rw [vn_drop]
          have hl2 := bl.len
          refine ⟨.int t, rfl, .ref p, rfl, .int i, rfl, p, _, _, i, rfl, rfl, by rw [upd_ne hpo]; exact s2 _ _ hp, ixN_nat (by rw [vn_len]; omega), ?_⟩
          rw [vn_set]
          refine ⟨.int i, rfl, .ref p, rfl, .int t, rfl, p, _, _, t, rfl, rfl, upd_same, ixN_nat (by rw [vn_len, List.length_set]; omega), ?_⟩
          rw [vn_set]
          have hlen : (l ++ [t]).length = l.length + 1 := by simp
          refine ⟨_, _, _, _, l, rfl, same_upd (same_upd (same_upd (sm.trans s2) no0) np0) np0, upd_same, ?_, Rm.bld_pop bl hi, by omega, by omega⟩
          rw [upd_ne (Ne.symm hpo), upd_ne (Ne.symm hpo), upd_same]
      · intro H2 hC
        obtain ⟨s2, hlt⟩ := hC
        refine ⟨.ref o, rfl, .inl ⟨rfl, _, sqL (s2 _ _ ho)⟩, .int i, rfl, o, _, _, rfl, rfl, s2 _ _ ho, ?_, ?_⟩
        · rw [vn_len]
          exact small63 (by omega)
        · refine ⟨_, _, _, fd, st ++ [i], rfl, same_upd (sm.trans s2) no0, ?_, by rw [upd_same, vn_push], Rm.bld_push bl hi, ?_, ?_⟩
          · rw [upd_ne hpo]; exact s2 _ _ hp
          · rw [List.length_append, List.length_singleton]; omega
          · rw [List.length_append, List.length_singleton]; omega
    · obtain ⟨y5, y6, y7, fd, st, rfl, sm, hp, ho, bl, hsl, hpar⟩ := hP
      have e0 : st = [] := List.length_eq_zero_iff.mp (by omega)
      subst e0
      exact ⟨.ref p, rfl, q H' p fd (Rm.bld_arcs bl) sm np0 hp⟩
end

end Rv

namespace Rv
open PySem PySem.Spec PyProof.Rows L2
open Rm (zs at')
/-! ### word_of -/
abbrev s_word_of : Stmt := topS 8
theorem sc_word_of : FnScope ["arcs", "k"] ["arcs"] (defScope s_word_of) := ⟨rfl, rfl, rfl, by decide +kernel, rfl, by decide +kernel, by decide +kernel⟩
def spWordOf (K : PySem.W.Frag) : Sp := fun vs H Q _ => ∃ (a : Addr) (s : List Int), vs = [.ref a] ∧ SqL K H a (vi s) ∧ Rm.Good s ∧ ∀ H', Same H H' → Q (.str (tx (Rm.wcs s))) H'
section
variable {P : Program} {w : World} {K : PySem.W.Frag} {mg : Str → Option Value} {base : Heap}
theorem ok_word_of (D : Dfn K mg "word_of" s_word_of ["arcs"]) (B : Blt mg) (c_ask : Cal P w K mg base 2 "ask" (spAsk K)) : Cal P w K mg base 3 "word_of" (spWordOf K) := by
  refine D.cal sc_word_of (fun vs H Q E h => ?_) (fun f cdv A outer s0 H vs Q E hr h => ?_)
  · obtain ⟨a, s, rfl, _⟩ := h
    rfl
  · obtain ⟨a, s, rfl, hS, G, q⟩ := h
    refine ⟨_, (pss_cons (ps_expr (pe_c c_ask hr (by omega) (by rfl) (pa_cons (pv 0) pa_nil)))
      (pss_one (ps_ret (pe_join pe_str (pe_lc (own := [("k", 1)]) (g := gName 1) (tt := tYes) rfl sc_word_of.nd (pi_range1 (by rfl) B.range_ (pa_cons (pe_callB call_len_seq (by rfl) B.len_ PySem.boot_len (pa_cons (pv 0) pa_nil)) pa_nil)) (blkOk_by (N := ["arcs", "k"]) (sc := defScope s_word_of) (by decide +kernel)) (fun _ _ _ _ _ => pg_name (i := 1) sc_word_of.nd rfl (Or.inl rfl)) (fun _ _ _ _ _ => pts_nil) (fun _ _ _ _ _ => (pe_ifExp (pt_cmpR op_gt (pe_ix (r := rIxL K) ix_list (pv 0) (pv 1) (fun _ _ => rfl)) (pv 1) (nomark _)) pe_str pe_str))))))), ?_⟩
    have hL := G.1
    refine ⟨.ref a, rfl, a, s, rfl, hS, G, fun H1 s1 => ?_⟩
    have hS1 := s1.seq hS
    refine ⟨⟨_, rfl⟩, .ref a, rfl, a, _, rfl, .inl hS1, _, rfl, by rw [List.length_map]; omega, by rw [List.length_map]; omega, fun p np => ?_⟩
    rw [show ((vi s).length : Int).toNat = s.length by rw [List.length_map]; omega]
    have sp' : Same H1 (upd H1 p (.lst [])) := same_new np
    refine lc_range (lo := 0) (n := s.length) (fun i H' => Same H1 H' ∧ H' p = some (.lst (((Rm.wcs s).take i).map fun c => V.str (tx [c])))) ⟨sp', upd_same⟩ (fun i H' hi hP => ?_) (fun H' hP => ?_)
    · obtain ⟨sm, hp⟩ := hP
      rw [Int.zero_add]
      have hS' := sm.seq hS1
      refine ⟨rfl, ?_⟩
      unfold tYes
      refine iteT ?_
      have hw := Rm.wcs_get hi
      have key : ∀ c, (Rm.wcs s)[i]? = some c → ∃ acc, H' p = some (.lst acc) ∧ acc.length < sizeLine ∧ Same H1 (upd H' p (.lst (acc ++ [V.str (tx [c])]))) ∧ (upd H' p (.lst (acc ++ [V.str (tx [c])]))) p = some (.lst (((Rm.wcs s).take (i + 1)).map fun c => V.str (tx [c]))) := fun c hc => by
        refine ⟨_, hp, ?_, same_upd sm np, ?_⟩
        · rw [List.length_map, List.length_take]
          exact small63 (by omega)
        · rw [upd_same, List.take_add_one, hc, List.map_append]
          rfl
      refine ⟨.ref a, rfl, .int i, rfl, a, _, _, _, rfl, rfl, hS', vi_at hi rfl, .int i, rfl, _, _, rfl, rfl, _, rfl, ite2 (fun e => ?_) (fun e => ?_)⟩
      · rw [if_pos (of_decide_eq_true e)] at hw
        have := key 40 hw
        rw [← tx_lp] at this
        exact this
      · rw [if_neg (dn e)] at hw
        have := key 41 hw
        rw [← tx_rp] at this
        exact this
    · obtain ⟨sm, hp⟩ := hP
      rw [List.take_of_length_le (by rw [Rm.wcs_len]; exact Nat.le_refl _)] at hp
      refine ⟨_, p, (Rm.wcs s).map (fun c => tx [c]), rfl, rfl, .inl (sqL (by rw [hp, List.map_map]; rfl)), ?_, ?_⟩
      · have e1 : ((Rm.wcs s).map (fun c => tx [c])).map (·.length) = (Rm.wcs s).map (fun _ => 1) := by
          rw [List.map_map]
          exact List.map_congr_left fun c _ => tx_len [c]
        rw [e1, tx_nil, tx_len]
        have e2 : ((Rm.wcs s).map (fun _ => 1)).sum = (Rm.wcs s).length := by
          generalize Rm.wcs s = l
          induction l with
          | nil => rfl
          | cons x r ih => rw [List.map_cons, List.sum_cons, ih, List.length_cons]; omega
        rw [e2, Rm.wcs_len]
        show s.length + _ * 0 ≤ _
        omega
      · rw [TL.join_eq, tx_nil, tx_join]
        exact q H' (s1.trans sm)
end

end Rv

namespace Rv
open PySem PySem.Spec PyProof.Rows L2
open Rm (zs at')
/-! ### arcs_of, of a word -/
abbrev s_arcs_of : Stmt := topS 9
theorem sc_arcs_of : FnScope ["word", "found", "open_ones", "k", "other"] ["word"] (defScope s_arcs_of) := ⟨rfl, rfl, rfl, by decide +kernel, rfl, by decide +kernel, by decide +kernel⟩
theorem isLp : decide (V.str ⟨#[40]⟩ = V.str (("(" : String) : Str)) = true := decide_eq_true (by rw [tx_lp]; rfl)
theorem notLp : decide (V.str ⟨#[41]⟩ = V.str (("(" : String) : Str)) = false := decide_eq_false (by
  rw [tx_lp]
  intro h
  have := tx_inj (a := [41]) (b := [40]) (V.str.inj h)
  cases this)
theorem isRp : decide (V.str ⟨#[41]⟩ = V.str ((")" : String) : Str)) = true := decide_eq_true (by rw [tx_rp]; rfl)
def spArcsOf (K : PySem.W.Frag) : Sp := fun vs H Q _ => ∃ s : List Int, Rm.Good s ∧ vs = [.str (tx (Rm.wcs s))] ∧ ∀ H' p, Same H H' → H p = none → H' p = some (.lst (vi s)) → Q (.ref p) H'
section
variable {P : Program} {w : World} {K : PySem.W.Frag} {mg : Str → Option Value} {base : Heap}
theorem ok_arcs_of {tM : Tok} (D : Dfn K mg "arcs_of" s_arcs_of ["word"]) (B : Blt mg) (g_MOST : mg "MOST" = some (.int 20 tM)) : Cal P w K mg base 1 "arcs_of" (spArcsOf K) := by
  refine D.cal sc_arcs_of (fun vs H Q E h => ?_) (fun f cdv A outer s0 H vs Q E hr h => ?_)
  · obtain ⟨s, G, rfl, _⟩ := h
    rfl
  · obtain ⟨s, G, rfl, q⟩ := h
    refine ⟨_, (pss_cons (ps_set (i := 1) sc_arcs_of.nd rfl (.inl rfl) (pe_op op_rep (pe_lst (pa_cons pe_int pa_nil)) (pe_callB call_len_str (by rfl) B.len_ PySem.boot_len (pa_cons (pv 0) pa_nil))))
      (pss_cons (ps_set (i := 2) sc_arcs_of.nd rfl (.inl rfl) (pe_lst pa_nil))
      (pss_cons (ps_for PassesOwn.never rfl (pi_range1 (by rfl) B.range_ (pa_cons (pe_callB call_len_str (by rfl) B.len_ PySem.boot_len (pa_cons (pv 0) pa_nil)) pa_nil)) (pg_name (i := 3) sc_arcs_of.nd rfl (.inl rfl))
        (pss_one (ps_if (pt_cmpR op_eq (pe_item_str (pv 0) (pv 3) (fun _ _ => rfl)) pe_str (nomark _))
          (pss_one (ps_expr (pe_bm PySem.F.plainAttrs_list PySem.F.slot_list_append PySem.F.type_list_append mt_append (pv 2) (pa_cons (pv 3) pa_nil))))
          (pss_one (ps_if (PW.pt (pw_and (pt_cmpR op_eq (pe_item_str (pv 0) (pv 3) (fun _ _ => rfl)) pe_str (nomark _)) (pw_and1 (pt_cmpR op_gt (pe_callB call_len_seq (by rfl) B.len_ PySem.boot_len (pa_cons (pv 2) pa_nil)) pe_int (nomark _)))))
            (pss_cons (ps_set (i := 4) sc_arcs_of.nd rfl (.inl rfl) (pe_bm0 PySem.F.plainAttrs_list PySem.F.slot_list_pop PySem.F.type_list_pop mt_pop (pv 2)))
            (pss_cons (ps_asg (pv 4) (pg_sub (pv 1) (pv 3) set_list))
            (pss_one (ps_asg (pv 3) (pg_sub (pv 1) (pv 4) set_list)))))
            (pss_one (ps_never)))))))
      (pss_cons (ps_if (PW.pt (pw_or (pt_cmpR op_gt (pe_callB call_len_seq (by rfl) B.len_ PySem.boot_len (pa_cons (pv 2) pa_nil)) pe_int (nomark _)) (pw_or1 (pt_not (pt_chain op_le op_le pe_int (pe_callB call_len_str (by rfl) B.len_ PySem.boot_len (pa_cons (pv 0) pa_nil)) (pe_op op_mul pe_int (pe_glob (v := .int 20) (by rfl) g_MOST ⟨_, rfl⟩)))))))
        (pss_one (ps_never))
        pss_nil)
      (pss_one (ps_ret (pv 1))))))), ?_⟩
    have hL := G.1
    have hwl : (tx (Rm.wcs s)).length = s.length := by rw [tx_len, Rm.wcs_len]
    have hline : (tx (Rm.wcs s)).length ≤ sizeLine := by rw [hwl]; exact small63' (by omega)
    refine ⟨by show 1 ≤ sizeLine; decide, fun x nx => ?_⟩
    refine ⟨_, rfl, _, rfl, hline, x, _, _, rfl, rfl, upd_same, by omega, by rw [hwl]; omega, ?_, fun p np => ?_⟩
    · rw [hwl]
      exact small63' (by show 1 * (s.length) ≤ _; omega)
    rw [show (((tx (Rm.wcs s)).length : Nat) : Int).toNat = s.length by rw [hwl]; omega, rep1]
    have sx : Same H (upd H x (.lst [V.int 0])) := same_new nx
    have np0 : H p = none := sx.free np
    refine ⟨Nat.zero_le _, fun o no => ?_⟩
    have sp' := same_new (o := .lst (List.replicate s.length (V.int 0))) np
    have no0 : H o = none := sx.free (sp'.free no)
    have hpo : p ≠ o := ne_of_none upd_same no
    refine ⟨_, rfl, _, rfl, hline, _, rfl, by omega, by rw [hwl]; omega, ?_⟩
    rw [show (((tx (Rm.wcs s)).length : Nat) : Int).toNat = s.length by rw [hwl]; omega]
    refine for_range (lo := 0) (n := s.length) (fun i σ H' => ∃ y3 y4 fd, σ = [some (.str (tx (Rm.wcs s))), some (.ref p), some (.ref o), y3, y4] ∧ Same H H' ∧ H' p = some (.lst (vi fd)) ∧ H' o = some (.lst (vn (Rm.opens s i))) ∧ Rm.Rd s i fd)
      ⟨none, none, List.replicate s.length 0, rfl, (sx.trans sp').trans (same_new no), by rw [upd_ne hpo, upd_same]; simp [vi], upd_same, Rm.rd0 _ _ List.length_replicate⟩ (fun i σ H' hi hP => ?_) (fun σ H' hP => ?_)
    · obtain ⟨y3, y4, fd, rfl, sm, hp, ho, rd⟩ := hP
      rw [Int.zero_add]
      have hw := Rm.wcs_get hi
      have st := Rm.good_stage G i (by omega)
      by_cases e : (i : Int) < Rm.g s i
      · rw [if_pos e] at hw
        refine ⟨_, rfl, .int i, rfl, _, _, 40, rfl, rfl, by omega, by omega, by rw [hwl]; omega, tx_get (by rw [Int.toNat_natCast]; exact hw), rfl, _, rfl, ?_⟩
        rw [isLp]
        refine iteT ⟨.ref o, rfl, .inl ⟨rfl, _, sqL ho⟩, .int i, rfl, o, _, _, rfl, rfl, ho, ?_, ?_⟩
        · rw [vn_len]
          exact small63 (by have := Rm.opens_len s i; omega)
        · refine ⟨_, _, fd, rfl, same_upd sm no0, by rw [upd_ne hpo]; exact hp, ?_, Rm.rd_push G hi e rd⟩
          rw [upd_same, vn_push, Rm.opens_push st e]
      · rw [if_neg e] at hw
        have ok := G.2.1 i hi
        have e5 : Rm.g s i < (i : Int) := by have := ok.2.2.1; omega
        obtain ⟨l, t, eo, ht⟩ := Rm.good_top G hi e5
        rw [eo] at ho
        refine ⟨_, rfl, .int i, rfl, _, _, 41, rfl, rfl, by omega, by omega, by rw [hwl]; omega, tx_get (by rw [Int.toNat_natCast]; exact hw), rfl, _, rfl, ?_⟩
        rw [notLp]
        refine iteF ⟨_, rfl, .int i, rfl, _, _, 41, rfl, rfl, by omega, by omega, by rw [hwl]; omega, tx_get (by rw [Int.toNat_natCast]; exact hw), rfl, _, rfl, ?_⟩
        rw [isRp]
        refine iteT ⟨.ref o, rfl, o, _, rfl, .inl (sqL ho), _, _, rfl, rfl, _, rfl, ?_⟩
        rw [decide_eq_true (show (0 : Int) < ((vn (l ++ [t])).length : Int) by rw [vn_len, List.length_append, List.length_singleton]; omega)]
        refine iteT ⟨.ref o, rfl, .inl ⟨rfl, _, sqL ho⟩, o, _, _, rfl, rfl, ho, vn_last l t, ?_⟩
        rw [vn_drop]
        have hl2 := rd.1
        refine ⟨.int t, rfl, .ref p, rfl, .int i, rfl, p, _, _, i, rfl, rfl, by rw [upd_ne hpo]; exact hp, ixN_nat (by rw [List.length_map]; omega), ?_⟩
        rw [vi_set]
        refine ⟨.int i, rfl, .ref p, rfl, .int t, rfl, p, _, _, t, rfl, rfl, upd_same, ixN_nat (by rw [List.length_map, List.length_set]; omega), ?_⟩
        rw [vi_set]
        refine ⟨_, _, _, rfl, same_upd (same_upd (same_upd sm no0) np0) np0, upd_same, ?_, Rm.rd_pop G hi ht e5 rd⟩
        rw [upd_ne (Ne.symm hpo), upd_ne (Ne.symm hpo), upd_same, Rm.opens_pop st ok e5 eo ht]
    · obtain ⟨y3, y4, fd, rfl, sm, hp, ho, rd⟩ := hP
      rw [Rm.opens_end G] at ho
      refine ⟨.ref o, rfl, o, _, rfl, .inl (sqL ho), _, _, rfl, rfl, _, rfl, ?_⟩
      rw [decide_eq_false (show ¬ (0 : Int) < (((vn [] : List V).length : Nat) : Int) by simp [vn, vi])]
      refine iteF ⟨_, rfl, _, rfl, hline, _, _, rfl, rfl, _, rfl, ?_⟩
      rw [decide_eq_true (show (2 : Int) ≤ (((tx (Rm.wcs s)).length : Nat) : Int) by rw [hwl]; omega)]
      refine iteT ⟨_, _, rfl, rfl, .inl ⟨by decide, by decide⟩, _, _, rfl, rfl, _, rfl, ?_⟩
      rw [decide_eq_true (show (((tx (Rm.wcs s)).length : Nat) : Int) ≤ 2 * 20 by rw [hwl]; omega)]
      refine iteF ⟨.ref p, rfl, ?_⟩
      rw [Rm.rd_end G rd] at hp
      exact q H' p sm np0 hp
end

end Rv

namespace Rv
open PySem PySem.Spec PyProof.Rows L2
open Rm (zs at')
/-! ### the law -/
abbrev s_law : Stmt := topS 15
theorem sc_law : FnScope ["script", "arcs", "due", "k", "handed", "word", "turn", "found"] ["script"] (defScope s_law) := ⟨rfl, rfl, rfl, by decide +kernel, rfl, by decide +kernel, by decide +kernel⟩
theorem size_of {z : Int} (m : Int) (h : 0 < m) (h20 : m ≤ 20) : ∃ n : Nat, 1 + z.fmod m = (n : Int) ∧ 1 ≤ n ∧ n ≤ 20 := by
  have h0 := Int.fmod_nonneg_of_pos z h
  have h1 := Int.fmod_lt_of_pos z h
  exact ⟨(1 + z.fmod m).toNat, by omega, by omega, by omega⟩
theorem pickS (b : Bool) : atI [V.str (("(" : String) : Str), V.str ((")" : String) : Str)] (if b then 1 else 0) = some (.str (tx [if b then 41 else 40])) := by
  cases b
  · show some (V.str (("(" : String) : Str)) = _
    rw [tx_lp]; rfl
  · show some (V.str ((")" : String) : Str)) = _
    rw [tx_rp]; rfl
def spLaw (K : PySem.W.Frag) : Sp := fun vs H Q _ => ∃ (a : Addr) (ns : List Int), vs = [.ref a] ∧ SqL K H a (vi ns) ∧ ns.length ≤ 63 ∧ ∀ H', Q (.bl true) H'
section
variable {P : Program} {w : World} {K : PySem.W.Frag} {mg : Str → Option Value} {base : Heap}
theorem ok_law {f : Addr} {fd : FuncData} (F : Fun K "law" "law" s_law f fd) (B : Blt mg) (c_law_arcs : Cal P w K mg base 2 "_law_arcs" (spLawArcs K)) (c_law_cell_at : Cal P w K mg base 1 "_law_cell_at" (spCell K))
    (c_word_of : Cal P w K mg base 3 "word_of" (spWordOf K)) (c_is_arcs : Cal P w K mg base 1 "is_arcs" (spIsArcs K)) (c_arcs_of : Cal P w K mg base 1 "arcs_of" (spArcsOf K)) (c_law_numbers : Cal P w K mg base 2 "_law_numbers" (spNumbers K)) :
    FnOk P w K mg base CX0 4 f fd ["script"] (spLaw K) := by
  refine F.ok sc_law (fun vs H Q E h => ?_) (fun cdv A outer s0 H vs Q E hr h => ?_)
  · obtain ⟨a, ns, rfl, _⟩ := h
    rfl
  · obtain ⟨a, ns, rfl, hS, h63, q⟩ := h
    refine ⟨_, (pss_cons (ps_set (i := 1) sc_law.nd rfl (.inl rfl) (pe_c c_law_arcs hr (by omega) (by rfl) (pa_cons (pv 0) (pa_cons pe_int (pa_cons (pe_op op_add pe_int (pe_op op_modN (pe_c c_law_cell_at hr (by omega) (by rfl) (pa_cons (pv 0) (pa_cons pe_int pa_nil))) pe_int)) pa_nil)))))
      (pss_cons (ps_set (i := 2) sc_law.nd rfl (.inl rfl) pe_str)
      (pss_cons (ps_for PassesOwn.never rfl (pi_range1 (by rfl) B.range_ (pa_cons (pe_callB call_len_seq (by rfl) B.len_ PySem.boot_len (pa_cons (pv 1) pa_nil)) pa_nil)) (pg_name (i := 3) sc_law.nd rfl (.inl rfl))
        (pss_one (ps_set (i := 2) sc_law.nd rfl (.inl rfl) (pe_op op_add_str (pv 2) (pe_ix ix_list (pe_lst (pa_cons pe_str (pa_cons pe_str pa_nil))) (pe_callTy call_int1 (by rfl) B.int_ (by decide +kernel) (pa_cons (pe_cmpR op_lt (pe_ix ix_list (pv 1) (pv 3) (fun _ _ => rfl)) (pv 3) (nomark _)) pa_nil)) (fun _ _ => rfl))))))
      (pss_cons (ps_set (i := 4) sc_law.nd rfl (.inl rfl) (pe_callTy call_list_of (by rfl) B.list_ (by decide +kernel) (pa_cons (pv 1) pa_nil)))
      (pss_cons (ps_set (i := 5) sc_law.nd rfl (.inl rfl) (pe_c c_word_of hr (by omega) (by rfl) (pa_cons (pv 4) pa_nil)))
      (pss_cons (ps_if (PW.pt (pw_or (pt_cmpR op_notBl (pe_c c_is_arcs hr (by omega) (by rfl) (pa_cons (pv 4) pa_nil)) pe_bl (nomark _)) (pw_or (pt_not (pt_val (pe_callB call_isi (by rfl) B.isinstance_ (by decide +kernel) (pa_cons (pv 5) (pa_cons (pe_bltn (v := .ty "str") (by rfl) B.str_ (by decide +kernel) rfl) pa_nil))))) (pw_or (pt_cmpR op_ne (pv 5) (pv 2) (nomark _)) (pw_or1 (pt_cmpR (op_neD (hu64 hr)) (pv 4) (pv 1) (nomark _)))))))
        (pss_one (ps_ret pe_bl))
        pss_nil)
      (pss_cons (ps_for PassesOwn.never rfl (pi_range1 (by rfl) B.range_ (pa_cons pe_int pa_nil)) (pg_name (i := 6) sc_law.nd rfl (.inl rfl))
        (pss_cons (ps_set (i := 7) sc_law.nd rfl (.inl rfl) (pe_c c_arcs_of hr (by omega) (by rfl) (pa_cons (pv 2) pa_nil)))
        (pss_cons (ps_if (pt_not (pt_val (pe_c c_law_numbers hr (by omega) (by rfl) (pa_cons (pv 7) (pa_cons (pv 1) pa_nil)))))
          (pss_one (ps_ret pe_bl))
          pss_nil)
        (pss_one (ps_expr (pe_bm PySem.F.plainAttrs_list PySem.F.slot_list_append PySem.F.type_list_append mt_append (pv 7) (pa_cons pe_int pa_nil)))))))
      (pss_one (ps_ret (pe_cmpR (op_eqD (hu64 hr)) (pv 4) (pv 1) (nomark _))))))))))), ?_⟩
    -- arcs
    refine ⟨.ref a, rfl, .ref a, rfl, a, ns, 0, rfl, hS, by decide, fun c => ⟨_, _, rfl, rfl, (show (20 : Int) ≠ 0 by decide), _, _, rfl, rfl, ?_⟩⟩
    obtain ⟨n, hn, h1, h20⟩ := size_of (z := c) 20 (by decide) (by decide)
    refine ⟨a, ns, 1, n, by rw [← hn]; rfl, hS, by decide, h1, h20, fun H1 p fd hA s1 np hp => ?_⟩
    have G := Rm.arcs_good hA h1 h20
    have hlen : (zs fd).length = 2 * n := by rw [Rm.len_zs, hA.len]
    -- due
    refine ⟨.ref p, rfl, p, _, rfl, .inl (sqL hp), _, rfl, by rw [vn_len]; omega, by rw [vn_len]; have := hA.len; omega, ?_⟩
    rw [show (((vn fd).length : Nat) : Int).toNat = 2 * n by rw [vn_len, hA.len]; omega]
    refine for_range (lo := 0) (n := 2 * n) (fun i σ H' => ∃ y3, σ = [some (.ref a), some (.ref p), some (.str (tx ((Rm.wcs (zs fd)).take i))), y3, none, none, none, none] ∧ Same H1 H') ⟨none, by rw [tx_nil]; rfl, Same.refl _⟩ (fun i σ H' hi hP => ?_) (fun σ H' hP => ?_)
    · obtain ⟨y3, rfl, sm⟩ := hP
      rw [Int.zero_add]
      refine ⟨_, rfl, by show 2 ≤ sizeLine; decide, fun x nx => ?_⟩
      have hp' : (upd H' x (.lst [V.str (("(" : String) : Str), V.str ((")" : String) : Str)])) p = some (.lst (vn fd)) := (same_new nx) _ _ (sm _ _ hp)
      refine ⟨.ref p, rfl, .int i, rfl, p, _, _, _, rfl, rfl, sqL hp', vi_at (by omega) rfl, .int i, rfl, _, _, rfl, rfl, .inr ⟨_, rfl, x, _, _, _, rfl, rfl, sqL upd_same, pickS _, _, _, rfl, rfl, ?_, ?_⟩⟩
      · rw [tx_len, tx_len, List.length_take, Rm.wcs_len]
        exact small63' (by show _ + 1 ≤ _; omega)
      · refine ⟨some (.int i), ?_, sm.trans (same_new nx)⟩
        have hw := Rm.wcs_get (s := zs fd) (k := i) (by omega)
        have hne := (G.2.1 i (by omega)).2.2.1
        have e : (if decide (Rm.g (zs fd) i < (i : Int)) = true then 41 else 40) = (if (i : Int) < Rm.g (zs fd) i then 40 else 41 : Nat) := by
          by_cases h : (i : Int) < Rm.g (zs fd) i
          · rw [if_pos h, if_neg (by rw [decide_eq_true_eq]; omega)]
          · rw [if_neg h, if_pos (by rw [decide_eq_true_eq]; omega)]
        rw [tx_app, e, List.take_add_one, hw]
        rfl
    · obtain ⟨y3, rfl, sm⟩ := hP
      rw [List.take_of_length_le (by rw [Rm.wcs_len]; omega)]
      have hp := sm _ _ hp
      -- handed = list(arcs)
      refine ⟨.ref p, rfl, p, _, rfl, .inl (sqL hp), fun d nd => ?_⟩
      have hp := same_new (o := .lst (vn fd)) nd _ _ hp
      have hd : (upd H' d (.lst (vn fd))) d = some (.lst (vn fd)) := upd_same
      generalize upd H' d (.lst (vn fd)) = H2 at hp hd
      -- word
      refine ⟨.ref d, rfl, d, zs fd, rfl, sqL hd, G, fun H3 s3 => ?_⟩
      have hp := s3 _ _ hp
      have hd := s3 _ _ hd
      refine ⟨.ref d, rfl, d, zs fd, rfl, sqL hd, by omega, fun b H4 s4 hb => ?_⟩
      have hp := s4 _ _ hp
      have hd := s4 _ _ hd
      rw [hb.mpr G]
      refine ⟨true, true, rfl, rfl, _, rfl, iteF ?_⟩
      refine ⟨_, rfl, _, _, _, _, true, rfl, .ty "str", .base (.str _), kit_ty (by decide +kernel), true, rfl, iteF ?_⟩
      refine ⟨_, rfl, _, rfl, rfl, _, rfl, ?_⟩
      rw [decide_eq_true rfl]
      refine iteF ⟨.ref d, rfl, .ref p, rfl, rNe_ints (sqL hd) (sqL hp) ⟨_, rfl, ?_⟩⟩
      rw [decide_eq_true rfl]
      refine iteF ?_
      -- for turn in range(2)
      refine ⟨2, rfl, by decide, by decide, ?_⟩
      refine for_range (lo := 0) (n := 2) (fun i σ H' => ∃ y3 y6 y7, σ = [some (.ref a), some (.ref p), some (.str (tx (Rm.wcs (zs fd)))), y3, some (.ref d), some (.str (tx (Rm.wcs (zs fd)))), y6, y7] ∧ Same H4 H') ⟨_, _, _, rfl, Same.refl _⟩ (fun i σ H' hi hP => ?_) (fun σ H' hP => ?_)
      · obtain ⟨y3, y6, y7, rfl, sm⟩ := hP
        refine ⟨_, rfl, zs fd, G, rfl, fun H5 r s5 nr hr5 => ?_⟩
        have hp := s5 _ _ (sm _ _ hp)
        refine ⟨.ref r, rfl, .ref p, rfl, r, p, zs fd, zs fd, rfl, hr5, sqL hp, fun _ => ⟨true, rfl, iteF ?_⟩, fun z => absurd rfl z⟩
        refine ⟨.ref r, rfl, .inl ⟨rfl, _, sqL hr5⟩, r, _, _, rfl, rfl, hr5, ?_, ?_⟩
        · rw [List.length_map]
          exact small63 (by omega)
        · exact ⟨_, _, _, rfl, same_upd (sm.trans s5) (sm.free nr)⟩
      · obtain ⟨y3, y6, y7, rfl, sm⟩ := hP
        refine ⟨.ref d, rfl, .ref p, rfl, rEq_ints (sqL (sm _ _ hd)) (sqL (sm _ _ hp)) ?_⟩
        rw [decide_eq_true rfl]
        exact q _
end

end Rv

namespace Rv
open PySem PySem.Spec PyProof.Rows L2
theorem all_mk {l : PySem.W.OpenLaw} {w : World} {K : PySem.W.Frag} {h : Heap} {mg : Str → Option Value} {fa : Addr} (X : K.In h) (G : h.Ns mainGlobals mg) (hfa : mg "law" = some (.ref fa))
    {f_is_arcs : Addr} {od_is_arcs an_is_arcs : Option Addr} {sl_is_arcs : Array (Option Value)} {oc_is_arcs kV_is_arcs dc_is_arcs pm_is_arcs cd_is_arcs ct_is_arcs : Value}
    {f_ask : Addr} {od_ask an_ask : Option Addr} {sl_ask : Array (Option Value)} {oc_ask kV_ask dc_ask pm_ask cd_ask ct_ask : Value}
    {f_word_of : Addr} {od_word_of an_word_of : Option Addr} {sl_word_of : Array (Option Value)} {oc_word_of kV_word_of dc_word_of pm_word_of cd_word_of ct_word_of : Value}
    {f_arcs_of : Addr} {od_arcs_of an_arcs_of : Option Addr} {sl_arcs_of : Array (Option Value)} {oc_arcs_of kV_arcs_of dc_arcs_of pm_arcs_of cd_arcs_of ct_arcs_of : Value}
    {f_law_cell_at : Addr} {od_law_cell_at an_law_cell_at : Option Addr} {sl_law_cell_at : Array (Option Value)} {oc_law_cell_at kV_law_cell_at dc_law_cell_at pm_law_cell_at cd_law_cell_at ct_law_cell_at : Value}
    {f_law_whole : Addr} {od_law_whole an_law_whole : Option Addr} {sl_law_whole : Array (Option Value)} {oc_law_whole kV_law_whole dc_law_whole pm_law_whole cd_law_whole ct_law_whole : Value}
    {f_law_numbers : Addr} {od_law_numbers an_law_numbers : Option Addr} {sl_law_numbers : Array (Option Value)} {oc_law_numbers kV_law_numbers dc_law_numbers pm_law_numbers cd_law_numbers ct_law_numbers : Value}
    {f_law_arcs : Addr} {od_law_arcs an_law_arcs : Option Addr} {sl_law_arcs : Array (Option Value)} {oc_law_arcs kV_law_arcs dc_law_arcs pm_law_arcs cd_law_arcs ct_law_arcs : Value}
    {f_law : Addr} {od_law an_law : Option Addr} {sl_law : Array (Option Value)} {oc_law kV_law dc_law pm_law cd_law ct_law : Value}
    (a_is_arcs : PySem.W.nsIn K mainGlobals "is_arcs" = some (some (.ref f_is_arcs))) (l_is_arcs : K.lookup f_is_arcs = some ⟨oc_is_arcs, od_is_arcs, .func (PySem.W.fnOf "is_arcs" "is_arcs" (defArgs s_is_arcs) (defBody s_is_arcs) (defScope s_is_arcs) .none kV_is_arcs dc_is_arcs pm_is_arcs an_is_arcs cd_is_arcs ct_is_arcs), sl_is_arcs⟩) (x_is_arcs : PySem.W.codeIn K cd_is_arcs "is_arcs" = true) (k_is_arcs : PySem.W.keepIn K (.ref f_is_arcs) = true)
    (a_ask : PySem.W.nsIn K mainGlobals "ask" = some (some (.ref f_ask))) (l_ask : K.lookup f_ask = some ⟨oc_ask, od_ask, .func (PySem.W.fnOf "ask" "ask" (defArgs s_ask) (defBody s_ask) (defScope s_ask) .none kV_ask dc_ask pm_ask an_ask cd_ask ct_ask), sl_ask⟩) (x_ask : PySem.W.codeIn K cd_ask "ask" = true) (k_ask : PySem.W.keepIn K (.ref f_ask) = true)
    (a_word_of : PySem.W.nsIn K mainGlobals "word_of" = some (some (.ref f_word_of))) (l_word_of : K.lookup f_word_of = some ⟨oc_word_of, od_word_of, .func (PySem.W.fnOf "word_of" "word_of" (defArgs s_word_of) (defBody s_word_of) (defScope s_word_of) .none kV_word_of dc_word_of pm_word_of an_word_of cd_word_of ct_word_of), sl_word_of⟩) (x_word_of : PySem.W.codeIn K cd_word_of "word_of" = true) (k_word_of : PySem.W.keepIn K (.ref f_word_of) = true)
    (a_arcs_of : PySem.W.nsIn K mainGlobals "arcs_of" = some (some (.ref f_arcs_of))) (l_arcs_of : K.lookup f_arcs_of = some ⟨oc_arcs_of, od_arcs_of, .func (PySem.W.fnOf "arcs_of" "arcs_of" (defArgs s_arcs_of) (defBody s_arcs_of) (defScope s_arcs_of) .none kV_arcs_of dc_arcs_of pm_arcs_of an_arcs_of cd_arcs_of ct_arcs_of), sl_arcs_of⟩) (x_arcs_of : PySem.W.codeIn K cd_arcs_of "arcs_of" = true) (k_arcs_of : PySem.W.keepIn K (.ref f_arcs_of) = true)
    (a_law_cell_at : PySem.W.nsIn K mainGlobals "_law_cell_at" = some (some (.ref f_law_cell_at))) (l_law_cell_at : K.lookup f_law_cell_at = some ⟨oc_law_cell_at, od_law_cell_at, .func (PySem.W.fnOf "_law_cell_at" "_law_cell_at" (defArgs s_law_cell_at) (defBody s_law_cell_at) (defScope s_law_cell_at) .none kV_law_cell_at dc_law_cell_at pm_law_cell_at an_law_cell_at cd_law_cell_at ct_law_cell_at), sl_law_cell_at⟩) (x_law_cell_at : PySem.W.codeIn K cd_law_cell_at "_law_cell_at" = true) (k_law_cell_at : PySem.W.keepIn K (.ref f_law_cell_at) = true)
    (a_law_whole : PySem.W.nsIn K mainGlobals "_law_whole" = some (some (.ref f_law_whole))) (l_law_whole : K.lookup f_law_whole = some ⟨oc_law_whole, od_law_whole, .func (PySem.W.fnOf "_law_whole" "_law_whole" (defArgs s_law_whole) (defBody s_law_whole) (defScope s_law_whole) .none kV_law_whole dc_law_whole pm_law_whole an_law_whole cd_law_whole ct_law_whole), sl_law_whole⟩) (x_law_whole : PySem.W.codeIn K cd_law_whole "_law_whole" = true) (k_law_whole : PySem.W.keepIn K (.ref f_law_whole) = true)
    (a_law_numbers : PySem.W.nsIn K mainGlobals "_law_numbers" = some (some (.ref f_law_numbers))) (l_law_numbers : K.lookup f_law_numbers = some ⟨oc_law_numbers, od_law_numbers, .func (PySem.W.fnOf "_law_numbers" "_law_numbers" (defArgs s_law_numbers) (defBody s_law_numbers) (defScope s_law_numbers) .none kV_law_numbers dc_law_numbers pm_law_numbers an_law_numbers cd_law_numbers ct_law_numbers), sl_law_numbers⟩) (x_law_numbers : PySem.W.codeIn K cd_law_numbers "_law_numbers" = true) (k_law_numbers : PySem.W.keepIn K (.ref f_law_numbers) = true)
    (a_law_arcs : PySem.W.nsIn K mainGlobals "_law_arcs" = some (some (.ref f_law_arcs))) (l_law_arcs : K.lookup f_law_arcs = some ⟨oc_law_arcs, od_law_arcs, .func (PySem.W.fnOf "_law_arcs" "_law_arcs" (defArgs s_law_arcs) (defBody s_law_arcs) (defScope s_law_arcs) .none kV_law_arcs dc_law_arcs pm_law_arcs an_law_arcs cd_law_arcs ct_law_arcs), sl_law_arcs⟩) (x_law_arcs : PySem.W.codeIn K cd_law_arcs "_law_arcs" = true) (k_law_arcs : PySem.W.keepIn K (.ref f_law_arcs) = true)
    (a_law : PySem.W.nsIn K mainGlobals "law" = some (some (.ref f_law))) (l_law : K.lookup f_law = some ⟨oc_law, od_law, .func (PySem.W.fnOf "law" "law" (defArgs s_law) (defBody s_law) (defScope s_law) .none kV_law dc_law pm_law an_law cd_law ct_law), sl_law⟩) (x_law : PySem.W.codeIn K cd_law "law" = true) (k_law : PySem.W.keepIn K (.ref f_law) = true)
    {t_MOST : Tok} (m_MOST : PySem.W.nsIn K mainGlobals "MOST" = some (some (.int 20 t_MOST)))
    (z_len : PySem.W.nsIn K mainGlobals "len" = some none) (z_range : PySem.W.nsIn K mainGlobals "range" = some none) (z_isinstance : PySem.W.nsIn K mainGlobals "isinstance" = some none) (z_int : PySem.W.nsIn K mainGlobals "int" = some none) (z_bool : PySem.W.nsIn K mainGlobals "bool" = some none) (z_list : PySem.W.nsIn K mainGlobals "list" = some none) (z_str : PySem.W.nsIn K mainGlobals "str" = some none) (z_reversed : PySem.W.nsIn K mainGlobals "reversed" = some none) (z_min : PySem.W.nsIn K mainGlobals "min" = some none) (z_max : PySem.W.nsIn K mainGlobals "max" = some none) (z_abs : PySem.W.nsIn K mainGlobals "abs" = some none) (z_sum : PySem.W.nsIn K mainGlobals "sum" = some none) (z_set : PySem.W.nsIn K mainGlobals "set" = some none) (z_tuple : PySem.W.nsIn K mainGlobals "tuple" = some none)
    : ∃ fd : FuncData, (∀ (s : Shared) (v : Value), BindsTo s fd ⟨[v], []⟩ [("script", v)]) ∧ ∀ base : Heap, K.In base → base.Ns mainGlobals mg → FnOk l.prog w K mg base CX0 4 fa fd ["script"] (spLaw K) := by
  have e := hfa.symm.trans (PySem.W.mg_of X G a_law)
  cases e
  have B : Blt mg := ⟨PySem.W.mg_none_of X G z_len, PySem.W.mg_none_of X G z_range, PySem.W.mg_none_of X G z_isinstance, PySem.W.mg_none_of X G z_int, PySem.W.mg_none_of X G z_bool, PySem.W.mg_none_of X G z_list, PySem.W.mg_none_of X G z_str, PySem.W.mg_none_of X G z_reversed, PySem.W.mg_none_of X G z_min, PySem.W.mg_none_of X G z_max, PySem.W.mg_none_of X G z_abs, PySem.W.mg_none_of X G z_sum, PySem.W.mg_none_of X G z_set, PySem.W.mg_none_of X G z_tuple⟩
  have g_MOST := PySem.W.mg_of X G m_MOST
  have D_is_arcs : Dfn K mg "is_arcs" s_is_arcs ["some"] := ⟨f_is_arcs, _, fun_mk (st := s_is_arcs) l_is_arcs x_is_arcs k_is_arcs, PySem.W.mg_of X G a_is_arcs, (fun_mk (st := s_is_arcs) l_is_arcs x_is_arcs k_is_arcs).binds (ps := ["some"]) fun _ _ _ _ _ _ us hl => match us, hl with | [_], _ => rfl⟩
  have D_ask : Dfn K mg "ask" s_ask ["arcs"] := ⟨f_ask, _, fun_mk (st := s_ask) l_ask x_ask k_ask, PySem.W.mg_of X G a_ask, (fun_mk (st := s_ask) l_ask x_ask k_ask).binds (ps := ["arcs"]) fun _ _ _ _ _ _ us hl => match us, hl with | [_], _ => rfl⟩
  have D_word_of : Dfn K mg "word_of" s_word_of ["arcs"] := ⟨f_word_of, _, fun_mk (st := s_word_of) l_word_of x_word_of k_word_of, PySem.W.mg_of X G a_word_of, (fun_mk (st := s_word_of) l_word_of x_word_of k_word_of).binds (ps := ["arcs"]) fun _ _ _ _ _ _ us hl => match us, hl with | [_], _ => rfl⟩
  have D_arcs_of : Dfn K mg "arcs_of" s_arcs_of ["word"] := ⟨f_arcs_of, _, fun_mk (st := s_arcs_of) l_arcs_of x_arcs_of k_arcs_of, PySem.W.mg_of X G a_arcs_of, (fun_mk (st := s_arcs_of) l_arcs_of x_arcs_of k_arcs_of).binds (ps := ["word"]) fun _ _ _ _ _ _ us hl => match us, hl with | [_], _ => rfl⟩
  have D_law_cell_at : Dfn K mg "_law_cell_at" s_law_cell_at ["script", "k"] := ⟨f_law_cell_at, _, fun_mk (st := s_law_cell_at) l_law_cell_at x_law_cell_at k_law_cell_at, PySem.W.mg_of X G a_law_cell_at, (fun_mk (st := s_law_cell_at) l_law_cell_at x_law_cell_at k_law_cell_at).binds (ps := ["script", "k"]) fun _ _ _ _ _ _ us hl => match us, hl with | [_, _], _ => rfl⟩
  have D_law_whole : Dfn K mg "_law_whole" s_law_whole ["found"] := ⟨f_law_whole, _, fun_mk (st := s_law_whole) l_law_whole x_law_whole k_law_whole, PySem.W.mg_of X G a_law_whole, (fun_mk (st := s_law_whole) l_law_whole x_law_whole k_law_whole).binds (ps := ["found"]) fun _ _ _ _ _ _ us hl => match us, hl with | [_], _ => rfl⟩
  have D_law_numbers : Dfn K mg "_law_numbers" s_law_numbers ["found", "due"] := ⟨f_law_numbers, _, fun_mk (st := s_law_numbers) l_law_numbers x_law_numbers k_law_numbers, PySem.W.mg_of X G a_law_numbers, (fun_mk (st := s_law_numbers) l_law_numbers x_law_numbers k_law_numbers).binds (ps := ["found", "due"]) fun _ _ _ _ _ _ us hl => match us, hl with | [_, _], _ => rfl⟩
  have D_law_arcs : Dfn K mg "_law_arcs" s_law_arcs ["script", "at", "size"] := ⟨f_law_arcs, _, fun_mk (st := s_law_arcs) l_law_arcs x_law_arcs k_law_arcs, PySem.W.mg_of X G a_law_arcs, (fun_mk (st := s_law_arcs) l_law_arcs x_law_arcs k_law_arcs).binds (ps := ["script", "at", "size"]) fun _ _ _ _ _ _ us hl => match us, hl with | [_, _, _], _ => rfl⟩
  refine ⟨PySem.W.fnOf "law" "law" (defArgs s_law) (defBody s_law) (defScope s_law) .none kV_law dc_law pm_law an_law cd_law ct_law, fun s v => .of_eq rfl, fun base _ _ => ?_⟩
  have c_is_arcs := ok_is_arcs (P := l.prog) (w := w) (K := K) (mg := mg) (base := base) D_is_arcs B g_MOST
  have c_ask := ok_ask (P := l.prog) (w := w) (K := K) (mg := mg) (base := base) D_ask c_is_arcs
  have c_law_cell_at := ok_law_cell_at (P := l.prog) (w := w) (K := K) (mg := mg) (base := base) D_law_cell_at B
  have c_law_whole := ok_law_whole (P := l.prog) (w := w) (K := K) (mg := mg) (base := base) D_law_whole B
  have c_law_numbers := ok_law_numbers (P := l.prog) (w := w) (K := K) (mg := mg) (base := base) D_law_numbers B c_law_whole
  have c_law_arcs := ok_law_arcs (P := l.prog) (w := w) (K := K) (mg := mg) (base := base) D_law_arcs B c_law_cell_at
  have c_word_of := ok_word_of (P := l.prog) (w := w) (K := K) (mg := mg) (base := base) D_word_of B c_ask
  have c_arcs_of := ok_arcs_of (P := l.prog) (w := w) (K := K) (mg := mg) (base := base) D_arcs_of B g_MOST
  exact ok_law (fun_mk (st := s_law) l_law x_law k_law) B c_law_arcs c_law_cell_at c_word_of c_is_arcs c_arcs_of c_law_numbers
end Rv
open PySem PySem.W PyProof.Rows
set_option maxHeartbeats 0 in
theorem PySem.Challenge.cw_riverloops_k01_arcs_and_words_holds : PySem.Challenge.rw_riverloops_k01_arcs_and_words.Holds := by
  w_on; o_law; k_head; (case hw => w_witness2)
  k_fill
  refine L2.walk_of (l := PySem.Challenge.rw_riverloops_k01_arcs_and_words) (n := 63) (k := 4) (x := "script") (CX := fun _ => L2.CX0) (sp := fun w => Rv.spLaw _) rfl (by decide) rfl ⟨rfl, by decide, by decide⟩ (fun w h Y => PySem.W.kIn_of Y) ?F (fun _ _ a ns hl _ hS => ⟨a, ns, rfl, hS, hl, fun _ => rfl⟩) (fun _ _ _ _ _ h => h)
  case F =>
    intro w mg fa h KX G hmg
    refine' Rv.all_mk KX G hmg ?a_is_arcs ?l_is_arcs ?x_is_arcs ?k_is_arcs ?a_ask ?l_ask ?x_ask ?k_ask ?a_word_of ?l_word_of ?x_word_of ?k_word_of ?a_arcs_of ?l_arcs_of ?x_arcs_of ?k_arcs_of ?a_law_cell_at ?l_law_cell_at ?x_law_cell_at ?k_law_cell_at ?a_law_whole ?l_law_whole ?x_law_whole ?k_law_whole ?a_law_numbers ?l_law_numbers ?x_law_numbers ?k_law_numbers ?a_law_arcs ?l_law_arcs ?x_law_arcs ?k_law_arcs ?a_law ?l_law ?x_law ?k_law ?m_MOST ?z_len ?z_range ?z_isinstance ?z_int ?z_bool ?z_list ?z_str ?z_reversed ?z_min ?z_max ?z_abs ?z_sum ?z_set ?z_tuple
    (case a_is_arcs => k_is); (case l_is_arcs => k_is); (case x_is_arcs => k_is); (case k_is_arcs => k_is); (case a_ask => k_is); (case l_ask => k_is); (case x_ask => k_is); (case k_ask => k_is); (case a_word_of => k_is); (case l_word_of => k_is); (case x_word_of => k_is); (case k_word_of => k_is); (case a_arcs_of => k_is); (case l_arcs_of => k_is); (case x_arcs_of => k_is); (case k_arcs_of => k_is); (case a_law_cell_at => k_is); (case l_law_cell_at => k_is); (case x_law_cell_at => k_is); (case k_law_cell_at => k_is); (case a_law_whole => k_is); (case l_law_whole => k_is); (case x_law_whole => k_is); (case k_law_whole => k_is); (case a_law_numbers => k_is); (case l_law_numbers => k_is); (case x_law_numbers => k_is); (case k_law_numbers => k_is); (case a_law_arcs => k_is); (case l_law_arcs => k_is); (case x_law_arcs => k_is); (case k_law_arcs => k_is); (case a_law => k_is); (case l_law => k_is); (case x_law => k_is); (case k_law => k_is); (case m_MOST => k_is); (case z_len => k_is); (case z_range => k_is); (case z_isinstance => k_is); (case z_int => k_is); (case z_bool => k_is); (case z_list => k_is); (case z_str => k_is); (case z_reversed => k_is); (case z_min => k_is); (case z_max => k_is); (case z_abs => k_is); (case z_sum => k_is); (case z_set => k_is); (case z_tuple => k_is)
