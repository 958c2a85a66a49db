import PyProof.Rows.All
import Wide.All
import OpenK.AllK
import Wide.FinOn
import PySem.Challenge.RW_riverloops_k05_whole_numbers_there_and_b
import HandS.ForMost
import HandS.IsInst
import HandS.RevRange
import HandS.Style
import HandS.Conv
import HandS.SetFor
import HandS.More
import HandS.Walk
import KE.Datum
import HandS.Codes
set_option Elab.async false
set_option linter.all false
set_option maxRecDepth 100000
set_option maxHeartbeats 4000000

set_option linter.all false
namespace Rm

/-! ## lists of whole numbers that tell arcs -/
def g (s : List Int) (k : Nat) : Int := s.getD k 0
def OkAt (s : List Int) (k : Nat) : Prop := 0 ≤ g s k ∧ g s k < (s.length : Int) ∧ g s k ≠ (k : Int) ∧ g s (g s k).toNat = (k : Int)
def NcI (s : List Int) : Prop := ∀ j k : Nat, j < k → k < s.length → (k : Int) < g s j → g s j < g s k → False
def Good (s : List Int) : Prop := (2 ≤ s.length ∧ s.length ≤ 40) ∧ (∀ k : Nat, k < s.length → OkAt s k) ∧ NcI s
def opens (s : List Int) (k : Nat) : List Nat := (List.range k).filter (fun j => decide ((k : Int) ≤ g s j))
structure Stage (s : List Int) (k : Nat) : Prop where
  ok : ∀ j : Nat, j < k → OkAt s j
  top : ∀ j : Nat, j < k → g s j < (j : Int) → (opens s j).getLast? = some (g s j).toNat

theorem mem_opens {s : List Int} {k j : Nat} : j ∈ opens s k ↔ j < k ∧ (k : Int) ≤ g s j := by
  simp [opens, List.mem_filter, List.mem_range]
theorem opens_sorted (s : List Int) (k : Nat) : (opens s k).Pairwise (· < ·) := List.Pairwise.filter _ List.pairwise_lt_range
theorem opens_len (s : List Int) (k : Nat) : (opens s k).length ≤ k := by
  have h := List.length_filter_le (fun j : Nat => decide ((k : Int) ≤ g s j)) (List.range k)
  rw [List.length_range] at h
  exact h
theorem stage0 (s : List Int) : Stage s 0 := ⟨fun j h => absurd h (Nat.not_lt_zero j), fun j h => absurd h (Nat.not_lt_zero j)⟩
theorem opens0 (s : List Int) : opens s 0 = [] := rfl
/-- within the checked places, partners are one to one -/
theorem okAt_inj {s : List Int} {i j : Nat} (hi : OkAt s i) (e : g s i = (j : Int)) : g s j = (i : Int) := by
  have h := hi.2.2.2
  rw [e] at h
  simpa using h
theorem opens_succ (s : List Int) (k : Nat) : opens s (k + 1) = (List.range k).filter (fun j => decide (((k + 1 : Nat) : Int) ≤ g s j)) ++ (if ((k + 1 : Nat) : Int) ≤ g s k then [k] else []) := by
  unfold opens
  rw [List.range_succ, List.filter_append]
  congr 1
  by_cases h : ((k + 1 : Nat) : Int) ≤ g s k
  · rw [if_pos h]
    exact List.filter_cons_of_pos (p := fun j => decide (((k + 1 : Nat) : Int) ≤ g s j)) (decide_eq_true h)
  · rw [if_neg h]
    exact List.filter_cons_of_neg (p := fun j => decide (((k + 1 : Nat) : Int) ≤ g s j)) (fun z => h (of_decide_eq_true z))
theorem opens_push {s : List Int} {k : Nat} (st : Stage s k) (hk : (k : Int) < g s k) : opens s (k + 1) = opens s k ++ [k] := by
  rw [opens_succ, if_pos (by omega)]
  congr 1
  unfold opens
  apply List.filter_congr
  intro j hj
  rw [List.mem_range] at hj
  have hne : g s j ≠ (k : Int) := fun e => by
    have := okAt_inj (st.ok j hj) e
    omega
  exact decide_eq_decide.mpr (by omega)
theorem filter_ne_last : ∀ (l : List Nat) (t : Nat), (l ++ [t]).Nodup → (l ++ [t]).filter (fun j => decide (j ≠ t)) = l := by
  intro l t h
  rw [List.filter_append]
  have h1 : l.filter (fun j => decide (j ≠ t)) = l := by
    apply List.filter_eq_self.mpr
    intro a ha
    rw [List.nodup_append] at h
    exact decide_eq_true (h.2.2 a ha t (List.mem_singleton.mpr rfl))
  rw [h1]
  simp
theorem nodup_of_sorted {l : List Nat} (h : l.Pairwise (· < ·)) : l.Nodup := h.imp fun h => Nat.ne_of_lt h
theorem opens_pop {s : List Int} {k : Nat} {l : List Nat} {t : Nat} (st : Stage s k) (ok : OkAt s k) (hk : g s k < (k : Int)) (e : opens s k = l ++ [t]) (ht : (t : Int) = g s k) : opens s (k + 1) = l := by
  rw [opens_succ, if_neg (by omega), List.append_nil]
  have h1 : (List.range k).filter (fun j => decide (((k + 1 : Nat) : Int) ≤ g s j)) = (opens s k).filter (fun j => decide (j ≠ t)) := by
    unfold opens
    rw [List.filter_filter]
    apply List.filter_congr
    intro j hj
    rw [List.mem_range] at hj
    have hje : g s j = (k : Int) ↔ j = t := by
      constructor
      · intro q
        have := okAt_inj (st.ok j hj) q
        omega
      · intro q
        subst q
        have := okAt_inj (j := j) ok ht.symm
        exact this
    by_cases q : j = t
    · have := hje.mpr q
      simp [q]
      subst q
      omega
    · have : g s j ≠ (k : Int) := fun z => q (hje.mp z)
      simp [q]
      omega
  rw [h1, e]
  exact filter_ne_last l t (e ▸ nodup_of_sorted (opens_sorted s k))
/-- at a place that leads back something is open -/
theorem opens_ne {s : List Int} {k : Nat} (ok : OkAt s k) (hk : g s k < (k : Int)) : ∃ l t, opens s k = l ++ [t] := by
  have hm : (g s k).toNat ∈ opens s k := by
    rw [mem_opens]
    have h := ok.2.2.2
    have h0 := ok.1
    constructor
    · omega
    · omega
  rcases List.eq_nil_or_concat (opens s k) with e | ⟨l, t, e⟩
  · rw [e] at hm; cases hm
  · exact ⟨l, t, by rw [e]; exact List.concat_eq_append⟩
theorem stage_push {s : List Int} {k : Nat} (st : Stage s k) (ok : OkAt s k) (hk : (k : Int) < g s k) : Stage s (k + 1) := by
  refine ⟨fun j hj => ?_, fun j hj h => ?_⟩
  · by_cases e : j = k
    · subst e; exact ok
    · exact st.ok j (by omega)
  · by_cases e : j = k
    · subst e; omega
    · exact st.top j (by omega) h
theorem stage_pop {s : List Int} {k : Nat} {l : List Nat} {t : Nat} (st : Stage s k) (ok : OkAt s k) (e : opens s k = l ++ [t]) (ht : (t : Int) = g s k) : Stage s (k + 1) := by
  refine ⟨fun j hj => ?_, fun j hj h => ?_⟩
  · by_cases e : j = k
    · subst e; exact ok
    · exact st.ok j (by omega)
  · by_cases q : j = k
    · subst q
      rw [e, List.getLast?_append, ← ht]
      simp
    · exact st.top j (by omega) h
/-- the top is not the partner: two arcs cross -/
theorem stage_cross {s : List Int} {k : Nat} {l : List Nat} {t : Nat} (st : Stage s k) (ok : OkAt s k) (hk : g s k < (k : Int)) (hl : k < s.length) (e : opens s k = l ++ [t]) (ht : (t : Int) ≠ g s k) : ¬ NcI s := by
  intro nc
  have hm : (g s k).toNat ∈ opens s k := by
    rw [mem_opens]
    have h := ok.2.2.2
    have h0 := ok.1
    constructor
    · omega
    · omega
  have htm : t ∈ opens s k := by rw [e]; simp
  rw [mem_opens] at htm
  have hsrt := opens_sorted s k
  rw [e, List.pairwise_append] at hsrt
  rw [e, List.mem_append] at hm
  have h0 := ok.1
  have hlt : (g s k).toNat < t := by
    rcases hm with hm | hm
    · exact hsrt.2.2 _ hm t (by simp)
    · rw [List.mem_singleton] at hm
      omega
  have hne : g s t ≠ (k : Int) := fun q => by
    have := okAt_inj (st.ok t htm.1) q
    omega
  have hp := ok.2.2.2
  exact nc (g s k).toNat t hlt (by omega) (by omega) (by omega)
theorem stage_good {s : List Int} (h : 2 ≤ s.length ∧ s.length ≤ 40) (st : Stage s s.length) : Good s := by
  refine ⟨h, st.ok, fun j k hjk hk h1 h2 => ?_⟩
  have okj := st.ok j (by omega)
  have okk := st.ok k hk
  -- at the place where j's arc ends
  obtain ⟨e0, e1, e2, e3⟩ := okj
  have hm : g s (g s j).toNat < ((g s j).toNat : Int) := by omega
  have ht := st.top (g s j).toNat (by omega) hm
  rw [e3] at ht
  have hkm : k ∈ opens s (g s j).toNat := by
    rw [mem_opens]
    constructor <;> omega
  rcases List.eq_nil_or_concat (opens s (g s j).toNat) with q | ⟨l, t, q⟩
  · rw [q] at hkm; cases hkm
  · rw [List.concat_eq_append] at q
    rw [q, List.getLast?_append] at ht
    simp at ht
    have hsrt := opens_sorted s (g s j).toNat
    rw [q, List.pairwise_append] at hsrt
    rw [q, List.mem_append] at hkm
    rcases hkm with hkm | hkm
    · have := hsrt.2.2 _ hkm t (by simp)
      omega
    · rw [List.mem_singleton] at hkm
      omega
/-- of a good list the top at a place that leads back is its partner -/
theorem good_top {s : List Int} (G : Good s) {k : Nat} (hk : k < s.length) (hb : g s k < (k : Int)) : ∃ (l : List Nat) (t : Nat), opens s k = l ++ [t] ∧ (t : Int) = g s k := by
  obtain ⟨l, t, e⟩ := opens_ne (G.2.1 k hk) hb
  refine ⟨l, t, e, ?_⟩
  have okk := G.2.1 k hk
  have hm : (g s k).toNat ∈ opens s k := by
    rw [mem_opens]
    have h := okk.2.2.2
    have h0 := okk.1
    constructor <;> omega
  have htm : t ∈ opens s k := by rw [e]; simp
  rw [mem_opens] at htm
  have hsrt := opens_sorted s k
  rw [e, List.pairwise_append] at hsrt
  rw [e, List.mem_append] at hm
  have h0 := okk.1
  rcases hm with hm | hm
  · have hlt := hsrt.2.2 _ hm t (by simp)
    have hne : g s t ≠ (k : Int) := fun q => by
      have := okAt_inj (G.2.1 t (by omega)) q
      omega
    have hp := okk.2.2.2
    exact (G.2.2 (g s k).toNat t hlt (by omega) (by omega) (by omega)).elim
  · rw [List.mem_singleton] at hm
    omega
theorem good_stage {s : List Int} (G : Good s) : ∀ k : Nat, k ≤ s.length → Stage s k := fun k hk =>
  ⟨fun j hj => G.2.1 j (by omega), fun j hj h => by
    obtain ⟨l, t, e, ht⟩ := good_top G (show j < s.length by omega) h
    rw [e, List.getLast?_append, ← ht]
    simp⟩
end Rm

set_option linter.all false
namespace Rm
/-! ## arcs by lists of naturals -/
def at' (a : List Nat) (k : Nat) : Nat := a.getD k 0
structure Arcs (m : Nat) (f : Nat → Nat) : Prop where
  lt : ∀ k, k < m → f k < m
  ne : ∀ k, k < m → f k ≠ k
  inv : ∀ k, k < m → f (f k) = k
  nc : ∀ j k, j < k → k < m → k < f j → f j < f k → False
/-- a list of 2 n places that tells n arcs -/
structure ArcsL (n : Nat) (a : List Nat) : Prop where
  len : a.length = 2 * n
  arcs : Arcs (2 * n) (at' a)
abbrev zs (a : List Nat) : List Int := a.map (fun n : Nat => (n : Int))
theorem g_zs (a : List Nat) (k : Nat) : g (zs a) k = ((at' a k : Nat) : Int) := by
  simp only [g, at', zs, List.getD_eq_getElem?_getD, List.getElem?_map]
  cases a[k]? <;> simp
theorem len_zs (a : List Nat) : (zs a).length = a.length := by simp [zs]
theorem arcs_good {n : Nat} {a : List Nat} (h : ArcsL n a) (h1 : 1 ≤ n) (h2 : n ≤ 20) : Good (zs a) := by
  have hl := h.len
  refine ⟨by rw [len_zs]; omega, fun k hk => ?_, fun j k hjk hk h1 h2 => ?_⟩
  · rw [len_zs] at hk
    have a1 := h.arcs.lt k (by omega)
    have a2 := h.arcs.ne k (by omega)
    have a3 := h.arcs.inv k (by omega)
    refine ⟨?_, ?_, ?_, ?_⟩
    · rw [g_zs]; omega
    · rw [g_zs, len_zs]; omega
    · rw [g_zs]; omega
    · rw [g_zs, g_zs, Int.toNat_natCast, a3]
  · rw [len_zs] at hk
    rw [g_zs] at h1
    rw [g_zs, g_zs] at h2
    exact h.arcs.nc j k hjk (by omega) (by omega) (by omega)
/-! ## arcs built with a pile -/
structure Bld (m k : Nat) (fd st : List Nat) : Prop where
  len : fd.length = m
  km : k ≤ m
  srt : st.Pairwise (· < ·)
  slt : ∀ j, j ∈ st → j < k
  cl : ∀ j, j < k → j ∉ st → at' fd j < k ∧ at' fd j ∉ st ∧ at' fd j ≠ j ∧ at' fd (at' fd j) = j
  nc : ∀ i j, i < j → j < k → i ∉ st → j ∉ st → j < at' fd i → at' fd i < at' fd j → False
  cov : ∀ i j, i < k → i ∉ st → j ∈ st → i < j → j < at' fd i → False
theorem bld0 (m : Nat) (fd : List Nat) (h : fd.length = m) : Bld m 0 fd [] :=
  ⟨h, Nat.zero_le _, .nil, fun _ h => (nomatch h), fun _ h => absurd h (Nat.not_lt_zero _), fun _ _ _ h => absurd h (Nat.not_lt_zero _), fun _ _ h => absurd h (Nat.not_lt_zero _)⟩
theorem bld_push {m k : Nat} {fd st : List Nat} (B : Bld m k fd st) (hk : k < m) : Bld m (k + 1) fd (st ++ [k]) := by
  have hm : ∀ j, j ∈ st ++ [k] ↔ j ∈ st ∨ j = k := fun j => by simp
  refine ⟨B.len, hk, ?_, fun j h => ?_, fun j hj hn => ?_, fun i j hij hj hi hjn h1 h2 => ?_, fun i j hi hin hj h1 h2 => ?_⟩
  · rw [List.pairwise_append]
    exact ⟨B.srt, List.pairwise_singleton _ _, fun a ha b hb => by rw [List.mem_singleton] at hb; rw [hb]; exact B.slt a ha⟩
  · rcases (hm j).mp h with h | h
    · have := B.slt j h; omega
    · omega
  · rw [hm] at hn
    obtain ⟨c1, c2, c3, c4⟩ := B.cl j (by omega) (fun z => hn (.inl z))
    refine ⟨by omega, fun z => ?_, c3, c4⟩
    rcases (hm _).mp z with z | z
    · exact c2 z
    · omega
  · rw [hm] at hi hjn
    exact B.nc i j hij (by omega) (fun z => hi (.inl z)) (fun z => hjn (.inl z)) h1 h2
  · rw [hm] at hin
    rcases (hm j).mp hj with hj | hj
    · exact B.cov i j (by omega) (fun z => hin (.inl z)) hj h1 h2
    · have := (B.cl i (by omega) (fun z => hin (.inl z))).1
      omega
theorem at_set {a : List Nat} {k t j : Nat} (h : k < a.length) : at' (a.set k t) j = if j = k then t else at' a j := by
  unfold at'
  rw [List.getD_eq_getElem?_getD, List.getD_eq_getElem?_getD, List.getElem?_set]
  by_cases e : k = j
  · subst e
    simp [h]
  · rw [if_neg e, if_neg (fun z => e z.symm)]
theorem bld_pop {m k t : Nat} {fd l : List Nat} (B : Bld m k fd (l ++ [t])) (hk : k < m) : Bld m (k + 1) ((fd.set k t).set t k) l := by
  have hm : ∀ j, j ∈ l ++ [t] ↔ j ∈ l ∨ j = t := fun j => by simp
  have ht : t < k := B.slt t (by simp)
  have hsr := List.pairwise_append.mp B.srt
  have hlt : ∀ j, j ∈ l → j < t := fun j hj => hsr.2.2 j hj t (by simp)
  have hl := B.len
  have ha : ∀ j, at' ((fd.set k t).set t k) j = if j = t then k else if j = k then t else at' fd j := fun j => by
    rw [at_set (by rw [List.length_set]; omega), at_set (by omega)]
  have old : ∀ j, j < k + 1 → j ∉ l → j = t ∨ j = k ∨ (j < k ∧ j ∉ l ++ [t]) := fun j h1 h2 => by
    by_cases e : j = t
    · exact .inl e
    · by_cases e2 : j = k
      · exact .inr (.inl e2)
      · refine .inr (.inr ⟨by omega, fun z => ?_⟩)
        rcases (hm j).mp z with z | z
        · exact h2 z
        · exact e z
  have hao : ∀ j, j < k → j ∉ l ++ [t] → at' ((fd.set k t).set t k) j = at' fd j := fun j h1 h2 => by
    rw [ha, if_neg (fun z => h2 ((hm j).mpr (.inr z))), if_neg (by omega)]
  have hat : at' ((fd.set k t).set t k) t = k := by rw [ha, if_pos rfl]
  have hak : at' ((fd.set k t).set t k) k = t := by rw [ha, if_neg (by omega), if_pos rfl]
  refine ⟨by rw [List.length_set, List.length_set]; exact hl, hk, hsr.1, fun j h => ?_, fun j hj hn => ?_, fun i j hij hj hi hjn h1 h2 => ?_, fun i j hi hin hj h1 h2 => ?_⟩
  · have := hlt j h; omega
  · rcases old j hj hn with e | e | ⟨e1, e2⟩
    · subst e
      rw [hat]
      refine ⟨by omega, fun z => ?_, by omega, hak⟩
      have := hlt _ z; omega
    · subst e
      rw [hak]
      refine ⟨by omega, fun z => ?_, by omega, hat⟩
      have := hlt _ z; omega
    · obtain ⟨c1, c2, c3, c4⟩ := B.cl j e1 e2
      rw [hao j e1 e2, hao _ c1 c2]
      exact ⟨by omega, fun z => c2 ((hm _).mpr (.inl z)), c3, c4⟩
  · rcases old i (by omega) hi with e | e | ⟨e1, e2⟩
    · subst e
      rw [hat] at h1 h2
      rcases old j hj hjn with f | f | ⟨f1, f2⟩
      · omega
      · omega
      · rw [hao j f1 f2] at h2
        have := (B.cl j f1 f2).1
        omega
    · omega
    · rw [hao i e1 e2] at h1 h2
      have c1 := (B.cl i e1 e2).1
      rcases old j hj hjn with f | f | ⟨f1, f2⟩
      · subst f
        exact B.cov i j e1 e2 (by simp) hij h1
      · omega
      · rw [hao j f1 f2] at h2
        exact B.nc i j hij f1 e2 f2 h1 h2
  · have hjt := hlt j hj
    rcases old i hi hin with e | e | ⟨e1, e2⟩
    · omega
    · omega
    · rw [hao i e1 e2] at h2
      exact B.cov i j e1 e2 (by simp [hj]) h1 h2
theorem bld_arcs {n : Nat} {fd : List Nat} (B : Bld (2 * n) (2 * n) fd []) : ArcsL n fd :=
  ⟨B.len, fun k h => (B.cl k h (fun z => nomatch z)).1, fun k h => (B.cl k h (fun z => nomatch z)).2.2.1, fun k h => (B.cl k h (fun z => nomatch z)).2.2.2,
   fun j k a b c d => B.nc j k a b (fun z => nomatch z) (fun z => nomatch z) c d⟩
end Rm

set_option linter.all false
namespace Rm
/-! ## the word of arcs, by code points -/
def wcs (s : List Int) : List Nat := (List.range s.length).map fun k : Nat => if (k : Int) < g s k then 40 else 41
theorem wcs_len (s : List Int) : (wcs s).length = s.length := by simp [wcs]
theorem wcs_get {s : List Int} {k : Nat} (h : k < s.length) : (wcs s)[k]? = some (if (k : Int) < g s k then 40 else 41) := by
  unfold wcs
  rw [List.getElem?_map, List.getElem?_range h]
  rfl
theorem opens_end {s : List Int} (G : Good s) : opens s s.length = [] := by
  rw [List.eq_nil_iff_forall_not_mem]
  intro j hj
  rw [mem_opens] at hj
  have := (G.2.1 j hj.1).2.1
  omega
theorem g_set {s : List Int} {k j : Nat} {t : Int} (h : k < s.length) : g (s.set k t) j = if j = k then t else g s j := by
  unfold g
  rw [List.getD_eq_getElem?_getD, List.getD_eq_getElem?_getD, List.getElem?_set]
  by_cases e : k = j
  · subst e
    simp [h]
  · rw [if_neg e, if_neg (fun z => e z.symm)]
theorem ext_g {s t : List Int} (hl : s.length = t.length) (h : ∀ k : Nat, k < t.length → g s k = g t k) : s = t := by
  apply List.ext_getElem hl
  intro k h1 h2
  have := h k h2
  simpa [g, List.getD_eq_getElem?_getD, h1, h2] using this
/-- what has been read so far -/
def Rd (s : List Int) (i : Nat) (fd : List Int) : Prop := fd.length = s.length ∧ ∀ j : Nat, j < i → g s j < (i : Int) → g fd j = g s j
theorem rd0 (s : List Int) (fd : List Int) (h : fd.length = s.length) : Rd s 0 fd := ⟨h, fun j hj => absurd hj (Nat.not_lt_zero _)⟩
theorem rd_push {s : List Int} {i : Nat} {fd : List Int} (G : Good s) (hi : i < s.length) (h : (i : Int) < g s i) (R : Rd s i fd) : Rd s (i + 1) fd := by
  refine ⟨R.1, fun j hj hg => ?_⟩
  by_cases e : j = i
  · subst e; omega
  · refine R.2 j (by omega) ?_
    have hne : g s j ≠ (i : Int) := fun z => by
      have := okAt_inj (G.2.1 j (by omega)) z
      omega
    omega
theorem rd_pop {s : List Int} {i t : Nat} {fd : List Int} (G : Good s) (hi : i < s.length) (ht : (t : Int) = g s i) (hlt : g s i < (i : Int)) (R : Rd s i fd) : Rd s (i + 1) ((fd.set i (t : Int)).set t (i : Int)) := by
  have hl := R.1
  have hti : t < i := by omega
  refine ⟨by rw [List.length_set, List.length_set]; exact hl, fun j hj hg => ?_⟩
  rw [g_set (by rw [List.length_set]; omega), g_set (by omega)]
  by_cases e : j = t
  · subst e
    rw [if_pos rfl]
    exact (okAt_inj (G.2.1 i hi) ht.symm).symm
  · rw [if_neg e]
    by_cases e2 : j = i
    · subst e2
      rw [if_pos rfl, ht]
    · rw [if_neg e2]
      refine R.2 j (by omega) ?_
      have hne : g s j ≠ (i : Int) := fun z => by
        have := okAt_inj (G.2.1 j (by omega)) z
        omega
      omega
theorem rd_end {s fd : List Int} (G : Good s) (R : Rd s s.length fd) : fd = s := ext_g R.1 fun k hk => R.2 k hk (G.2.1 k hk).2.1
/-- a good list has an even number of places -/
theorem opens_par {s : List Int} (G : Good s) : ∀ k : Nat, k ≤ s.length → (opens s k).length % 2 = k % 2
  | 0, _ => rfl
  | k + 1, h => by
    have ih := opens_par G k (by omega)
    have st := good_stage G k (by omega)
    have ok := G.2.1 k (by omega)
    by_cases e : (k : Int) < g s k
    · rw [opens_push st e, List.length_append, List.length_singleton]
      omega
    · have e5 : g s k < (k : Int) := by have := ok.2.2.1; omega
      obtain ⟨l, t, eo, ht⟩ := good_top G (show k < s.length by omega) e5
      rw [opens_pop st ok e5 eo ht]
      rw [eo, List.length_append, List.length_singleton] at ih
      omega
theorem good_even {s : List Int} (G : Good s) : s.length % 2 = 0 := by
  have h := opens_par G s.length (Nat.le_refl _)
  rw [opens_end G] at h
  simp at h
  omega
end Rm

set_option linter.all false
namespace Rm
/-! ## lists by functions -/
def mkL (m : Nat) (f : Nat → Nat) : List Nat := (List.range m).map f
theorem mkL_len (m : Nat) (f : Nat → Nat) : (mkL m f).length = m := by simp [mkL]
theorem mkL_at {m : Nat} {f : Nat → Nat} {k : Nat} (h : k < m) : at' (mkL m f) k = f k := by
  simp [at', mkL, List.getD_eq_getElem?_getD, h]
theorem mkL_get {m : Nat} {f : Nat → Nat} {k : Nat} (h : k < m) : (mkL m f)[k]? = some (f k) := by simp [mkL, h]
theorem ext_at {a b : List Nat} (hl : a.length = b.length) (h : ∀ k, k < b.length → at' a k = at' b k) : a = b := by
  apply List.ext_getElem hl
  intro k h1 h2
  have := h k h2
  simpa [at', List.getD_eq_getElem?_getD, h1, h2] using this
theorem Arcs.congr {m : Nat} {f f' : Nat → Nat} (A : Arcs m f) (h : ∀ k, k < m → f' k = f k) : Arcs m f' where
  lt := fun k hk => by rw [h k hk]; exact A.lt k hk
  ne := fun k hk => by rw [h k hk]; exact A.ne k hk
  inv := fun k hk => by rw [h k hk, h _ (A.lt k hk)]; exact A.inv k hk
  nc := fun j k h1 h2 h3 h4 => by
    rw [h j (by omega)] at h3 h4
    rw [h k h2] at h4
    exact A.nc j k h1 h2 h3 h4
theorem mkL_arcs {n : Nat} {f : Nat → Nat} (A : Arcs (2 * n) f) : ArcsL n (mkL (2 * n) f) :=
  ⟨mkL_len _ _, A.congr fun k hk => mkL_at hk⟩
/-! ## turned -/
def phi (m b x : Nat) : Nat := if x < b then x + m - b else x - b
def psi (m b y : Nat) : Nat := if y + b < m then y + b else y + b - m
def rotF (m b : Nat) (f : Nat → Nat) (k : Nat) : Nat := psi m b (f (phi m b k))
theorem phi_lt {m b x : Nat} (hb : b < m) (h : x < m) : phi m b x < m := by unfold phi; split <;> omega
theorem psi_lt {m b x : Nat} (hb : b < m) (h : x < m) : psi m b x < m := by unfold psi; split <;> omega
theorem phi_psi {m b x : Nat} (hb : b < m) (h : x < m) : phi m b (psi m b x) = x := by unfold psi phi; split <;> split <;> omega
theorem psi_phi {m b x : Nat} (hb : b < m) (h : x < m) : psi m b (phi m b x) = x := by unfold phi psi; split <;> split <;> omega
theorem rot_arcs {m b : Nat} {f : Nat → Nat} (A : Arcs m f) (hb : b < m) : Arcs m (rotF m b f) := by
  have hp : ∀ k, k < m → phi m b (rotF m b f k) = f (phi m b k) := fun k hk => phi_psi hb (A.lt _ (phi_lt hb hk))
  refine ⟨fun k hk => psi_lt hb (A.lt _ (phi_lt hb hk)), fun k hk e => ?_, fun k hk => ?_, fun j k hjk hk h1 h2 => ?_⟩
  · have := hp k hk
    rw [e] at this
    exact A.ne _ (phi_lt hb hk) this.symm
  · show psi m b (f (phi m b (rotF m b f k))) = k
    rw [hp k hk, A.inv _ (phi_lt hb hk), psi_phi hb hk]
  · have hj : j < m := by omega
    have pj := hp j hj
    have pk := hp k hk
    have lj := phi_lt hb hj
    have lk := phi_lt hb hk
    have fj := A.lt _ lj
    have fk := A.lt _ lk
    have ij := A.inv _ lj
    have ik := A.inv _ lk
    have lfj : rotF m b f j < m := psi_lt hb (A.lt _ lj)
    have lfk : rotF m b f k < m := psi_lt hb (A.lt _ lk)
    have n1 := A.nc (phi m b j) (phi m b k)
    have n2 := A.nc (phi m b k) (f (phi m b j))
    have n3 := A.nc (f (phi m b j)) (f (phi m b k))
    have n4 := A.nc (f (phi m b k)) (phi m b j)
    rw [ij] at n2 n3
    rw [ik] at n3 n4
    rw [← pj, ← pk] at n1 n2 n3 n4
    rw [← pj] at fj
    rw [← pk] at fk
    generalize rotF m b f j = x at *
    generalize rotF m b f k = y at *
    unfold phi at *
    have : (x < b ∨ b ≤ x) ∧ (y < b ∨ b ≤ y) ∧ (j < b ∨ b ≤ j) ∧ (k < b ∨ b ≤ k) := by omega
    obtain ⟨c1, c2, c3, c4⟩ := this
    rcases c1 with c1 | c1 <;> rcases c2 with c2 | c2 <;> rcases c3 with c3 | c3 <;> rcases c4 with c4 | c4 <;>
      first
        | omega
        | (simp only [c1, c2, c3, c4, if_true, if_false, Nat.not_lt.mpr c1, Nat.not_lt.mpr c2, Nat.not_lt.mpr c3, Nat.not_lt.mpr c4] at n1 n2 n3 n4; first | exact n1 (by omega) (by omega) (by omega) (by omega) | exact n2 (by omega) (by omega) (by omega) (by omega) | exact n3 (by omega) (by omega) (by omega) (by omega) | exact n4 (by omega) (by omega) (by omega) (by omega))
/-! ## mirrored -/
def mirF (m : Nat) (f : Nat → Nat) (k : Nat) : Nat := m - 1 - f (m - 1 - k)
theorem mir_arcs {m : Nat} {f : Nat → Nat} (A : Arcs m f) : Arcs m (mirF m f) := by
  refine ⟨fun k hk => by unfold mirF; omega, fun k hk e => ?_, fun k hk => ?_, fun j k hjk hk h1 h2 => ?_⟩
  · have h1 := A.lt (m - 1 - k) (by omega)
    have h2 := A.ne (m - 1 - k) (by omega)
    unfold mirF at e
    omega
  · have h1 := A.lt (m - 1 - k) (by omega)
    have h3 := A.inv (m - 1 - k) (by omega)
    unfold mirF
    rw [show m - 1 - (m - 1 - f (m - 1 - k)) = f (m - 1 - k) by omega, h3]
    omega
  · have a1 := A.lt (m - 1 - j) (by omega)
    have a2 := A.lt (m - 1 - k) (by omega)
    have a3 := A.inv (m - 1 - j) (by omega)
    have a4 := A.inv (m - 1 - k) (by omega)
    unfold mirF at h1 h2
    refine A.nc (f (m - 1 - k)) (f (m - 1 - j)) (by omega) (by omega) (by omega) (by omega)
/-! ## side by side, covered -/
def sideF (m : Nat) (f f2 : Nat → Nat) (k : Nat) : Nat := if k < m then f k else m + f2 (k - m)
theorem side_arcs {m m2 : Nat} {f f2 : Nat → Nat} (A : Arcs m f) (B : Arcs m2 f2) : Arcs (m + m2) (sideF m f f2) := by
  refine ⟨fun k hk => ?_, fun k hk => ?_, fun k hk => ?_, fun j k hjk hk h1 h2 => ?_⟩
  · unfold sideF
    split
    · have := A.lt k (by omega); omega
    · have := B.lt (k - m) (by omega); omega
  · unfold sideF
    split
    · exact A.ne k (by omega)
    · have := B.ne (k - m) (by omega); omega
  · unfold sideF
    by_cases h : k < m
    · rw [if_pos h, if_pos (A.lt k h), A.inv k h]
    · rw [if_neg h, if_neg (by omega), show m + f2 (k - m) - m = f2 (k - m) by omega, B.inv (k - m) (by omega)]
      omega
  · unfold sideF at h1 h2
    by_cases hj : j < m
    · have a := A.lt j hj
      rw [if_pos hj] at h1 h2
      by_cases hk2 : k < m
      · rw [if_pos hk2] at h2
        exact A.nc j k hjk hk2 h1 h2
      · omega
    · rw [if_neg hj] at h1 h2
      rw [if_neg (by omega)] at h2
      exact B.nc (j - m) (k - m) (by omega) (by omega) (by omega) (by omega)
def overF (m : Nat) (f : Nat → Nat) (k : Nat) : Nat := if k = 0 then m + 1 else if k = m + 1 then 0 else f (k - 1) + 1
theorem over_arcs {m : Nat} {f : Nat → Nat} (A : Arcs m f) : Arcs (m + 2) (overF m f) := by
  have mid : ∀ k, k ≠ 0 → k < m + 1 → overF m f k = f (k - 1) + 1 := fun k h1 h2 => by
    unfold overF
    rw [if_neg h1, if_neg (by omega)]
  have z0 : overF m f 0 = m + 1 := rfl
  have z1 : overF m f (m + 1) = 0 := by unfold overF; rw [if_neg (by omega), if_pos rfl]
  have cs : ∀ k, k < m + 2 → k = 0 ∨ k = m + 1 ∨ (k ≠ 0 ∧ k < m + 1) := fun k h => by omega
  refine ⟨fun k hk => ?_, fun k hk => ?_, fun k hk => ?_, fun j k hjk hk h1 h2 => ?_⟩
  · rcases cs k hk with e | e | ⟨e1, e2⟩
    · subst e; rw [z0]; omega
    · subst e; rw [z1]; omega
    · rw [mid k e1 e2]; have := A.lt (k - 1) (by omega); omega
  · rcases cs k hk with e | e | ⟨e1, e2⟩
    · subst e; rw [z0]; omega
    · subst e; rw [z1]; omega
    · rw [mid k e1 e2]; have := A.ne (k - 1) (by omega); omega
  · rcases cs k hk with e | e | ⟨e1, e2⟩
    · subst e; rw [z0, z1]
    · subst e; rw [z1, z0]
    · have := A.lt (k - 1) (by omega)
      rw [mid k e1 e2, mid _ (by omega) (by omega), show f (k - 1) + 1 - 1 = f (k - 1) by omega, A.inv (k - 1) (by omega)]
      omega
  · have hk0 : k ≠ 0 := by omega
    by_cases hk1 : k = m + 1
    · subst hk1; rw [z1] at h2; omega
    · rw [mid k hk0 (by omega)] at h2
      by_cases hj : j = 0
      · subst hj; rw [z0] at h2; have := A.lt (k - 1) (by omega); omega
      · rw [mid j hj (by omega)] at h1 h2
        exact A.nc (j - 1) (k - 1) (by omega) (by omega) (by omega) (by omega)
/-! ## sums by the remainder -/
theorem mod_add {m : Nat} {by' : Int} {k : Nat} (hk : k < m) : ((k : Int) + by').fmod (m : Int) = ((psi m (by' % (m : Int)).toNat k : Nat) : Int) := by
  have hm : (0 : Int) < m := by omega
  rw [Int.fmod_eq_emod_of_nonneg _ (by omega)]
  have h0 := Int.emod_nonneg by' (show (m : Int) ≠ 0 by omega)
  have h1 := Int.emod_lt_of_pos by' hm
  have e : ((k : Int) + by') % (m : Int) = ((k : Int) + by' % (m : Int)) % (m : Int) := by rw [Int.add_emod, Int.add_emod (k : Int) (by' % (m : Int)), Int.emod_emod]
  rw [e]
  generalize hr : by' % (m : Int) = r at *
  unfold psi
  by_cases c : (k : Int) + r < m
  · rw [Int.emod_eq_of_lt (by omega) c, if_pos (by omega)]
    omega
  · rw [if_neg (by omega)]
    have : ((k : Int) + r) % (m : Int) = ((k : Int) + r - m) % (m : Int) := by
      rw [Int.sub_emod_right]
    rw [this, Int.emod_eq_of_lt (by omega) (by omega)]
    omega
theorem mod_sub {m : Nat} {by' : Int} {k : Nat} (hk : k < m) : ((k : Int) - by').fmod (m : Int) = ((phi m (by' % (m : Int)).toNat k : Nat) : Int) := by
  have hm : (0 : Int) < m := by omega
  rw [Int.fmod_eq_emod_of_nonneg _ (by omega)]
  have h0 := Int.emod_nonneg by' (show (m : Int) ≠ 0 by omega)
  have h1 := Int.emod_lt_of_pos by' hm
  have e : ((k : Int) - by') % (m : Int) = ((k : Int) - by' % (m : Int)) % (m : Int) := by rw [Int.sub_emod, Int.sub_emod (k : Int) (by' % (m : Int)), Int.emod_emod]
  rw [e]
  generalize hr : by' % (m : Int) = r at *
  unfold phi
  by_cases c : r ≤ (k : Int)
  · rw [Int.emod_eq_of_lt (by omega) (by omega), if_neg (by omega)]
    omega
  · rw [if_pos (by omega)]
    have : ((k : Int) - r) % (m : Int) = ((k : Int) - r + m) % (m : Int) := by
      rw [Int.add_emod_right]
    rw [this, Int.emod_eq_of_lt (by omega) (by omega)]
    omega
def rotB (m : Nat) (by' : Int) : Nat := (by' % (m : Int)).toNat
theorem rotB_lt {m : Nat} (by' : Int) (h : 0 < m) : rotB m by' < m := by
  have h0 := Int.emod_nonneg by' (show (m : Int) ≠ 0 by omega)
  have h1 := Int.emod_lt_of_pos by' (show (0 : Int) < m by omega)
  unfold rotB; omega
end Rm

set_option linter.all false
namespace Rm
/-! ## lists without a number twice -/
theorem nodup_len : ∀ (M : Nat) (l : List Nat), l.Nodup → (∀ x, x ∈ l → x < M) → l.length ≤ M
  | 0, l, _, h => by
    cases l with
    | nil => exact Nat.le_refl _
    | cons x r => exact absurd (h x (by simp)) (Nat.not_lt_zero _)
  | M + 1, l, hn, h => by
    by_cases c : M ∈ l
    · have h1 := nodup_len M (l.erase M) (hn.erase M) (fun x hx => by
        have h2 := (List.Nodup.mem_erase_iff hn).mp hx
        have h3 := h x h2.2
        have h4 := h2.1
        omega)
      rw [List.length_erase_of_mem c] at h1
      omega
    · have h1 := nodup_len M l hn (fun x hx => by
        have h3 := h x hx
        have : x ≠ M := fun e => c (e ▸ hx)
        omega)
      omega
theorem nodup_sub_len : ∀ {l k : List Nat}, l.Nodup → (∀ x, x ∈ l → x ∈ k) → l.length ≤ k.length
  | [], _, _, _ => Nat.zero_le _
  | x :: r, k, hn, h => by
    have h2 := List.nodup_cons.mp hn
    have hx := h x (by simp)
    have ih := nodup_sub_len (l := r) (k := k.erase x) h2.2 (fun y hy => (List.mem_erase_of_ne (show y ≠ x from fun e => h2.1 (by rw [← e]; exact hy))).mpr (h y (by simp [hy])))
    rw [List.length_erase_of_mem hx] at ih
    have : 0 < k.length := List.length_pos_of_mem hx
    rw [List.length_cons]
    omega
theorem nodup_full {M : Nat} {l : List Nat} (hn : l.Nodup) (h : ∀ x, x ∈ l → x < M) (hl : M ≤ l.length) {y : Nat} (hy : y < M) : y ∈ l := by
  by_cases c : y ∈ l
  · exact c
  · have h1 := nodup_len M (y :: l) (List.nodup_cons.mpr ⟨c, hn⟩) (fun x hx => by
      rcases List.mem_cons.mp hx with e | e
      · omega
      · exact h x e)
    rw [List.length_cons] at h1
    omega
theorem nodup_snoc2 {l : List Nat} {x y : Nat} (hn : l.Nodup) (hx : x ∉ l) (hy : y ∉ l) (hne : x ≠ y) : (l ++ [x, y]).Nodup := by
  rw [List.nodup_append]
  refine ⟨hn, by simp [hne], fun a ha b hb => ?_⟩
  simp at hb
  rcases hb with rfl | rfl
  · exact fun e => hx (e ▸ ha)
  · exact fun e => hy (e ▸ ha)
theorem eraseIdx_filter : ∀ (l : List Nat) (j k : Nat), l.Nodup → l[j]? = some k → l.eraseIdx j = l.filter (fun x => decide (x ≠ k))
  | [], j, k, _, h => by simp at h
  | x :: r, 0, k, hn, h => by
    have e : x = k := Option.some.inj h
    subst e
    have hx := (List.nodup_cons.mp hn).1
    rw [List.eraseIdx_cons_zero, List.filter_cons_of_neg (by simp)]
    exact (List.filter_eq_self.mpr fun a ha => decide_eq_true (show a ≠ x from fun e => hx (e ▸ ha))).symm
  | x :: r, j + 1, k, hn, h => by
    have h2 := List.nodup_cons.mp hn
    have ih := eraseIdx_filter r j k h2.2 h
    have hk : k ∈ r := List.mem_of_getElem? h
    have hne : x ≠ k := fun e => h2.1 (e ▸ hk)
    rw [List.eraseIdx_cons_succ, List.filter_cons_of_pos (by simp [hne]), ih]
/-! ## roads -/
/-- fixed-point-free turn on the places below M that leaves them below M -/
structure Inv2 (M : Nat) (a : Nat → Nat) : Prop where
  lt : ∀ k, k < M → a k < M
  ne : ∀ k, k < M → a k ≠ k
  inv : ∀ k, k < M → a (a k) = k
theorem Arcs.inv2 {M : Nat} {a : Nat → Nat} (A : Arcs M a) : Inv2 M a := ⟨A.lt, A.ne, A.inv⟩
def walk (a b : Nat → Nat) : Nat → List Nat → Nat → List Nat → List Nat
  | 0, _, _, road => road
  | f + 1, s, x, road => if x ∈ s ++ road then road else walk a b f s (b (a x)) (road ++ [x, a x])
def stepR (a b : Nat → Nat) (M : Nat) (s0 : List Nat) (F : List (List Nat)) (x : Nat) : List (List Nat) :=
  if x ∈ s0 ++ F.flatten then F else F ++ [walk a b M (s0 ++ F.flatten) x []]
def goR (a b : Nat → Nat) (M : Nat) (s0 : List Nat) (i : Nat) : List (List Nat) := (List.range i).foldl (stepR a b M s0) []
def roadsM (a b : Nat → Nat) (M : Nat) : List (List Nat) := goR a b M [] M
theorem goR_zero (a b : Nat → Nat) (M : Nat) (s0 : List Nat) : goR a b M s0 0 = [] := rfl
theorem goR_succ (a b : Nat → Nat) (M : Nat) (s0 : List Nat) (i : Nat) : goR a b M s0 (i + 1) = stepR a b M s0 (goR a b M s0 i) i := by
  unfold goR
  rw [List.range_succ, List.foldl_append]
  rfl
/-- what is seen: no place twice, all below M, with a place its arc's other end -/
structure Seen (a : Nat → Nat) (M : Nat) (l : List Nat) : Prop where
  nd : l.Nodup
  lt : ∀ x, x ∈ l → x < M
  cl : ∀ x, x ∈ l → a x ∈ l
theorem Seen.push {a : Nat → Nat} {M : Nat} {l : List Nat} (S : Seen a M l) (A : Inv2 M a) {x : Nat} (hx : x < M) (hn : x ∉ l) : a x ∉ l ∧ Seen a M (l ++ [x, a x]) := by
  have h2 : a x ∉ l := fun h => hn (by
    have := S.cl _ h
    rw [A.inv x hx] at this
    exact this)
  refine ⟨h2, nodup_snoc2 S.nd hn h2 (fun e => A.ne x hx e.symm), fun y hy => ?_, fun y hy => ?_⟩
  · rcases List.mem_append.mp hy with h | h
    · exact S.lt y h
    · simp at h
      rcases h with rfl | rfl
      · exact hx
      · exact A.lt x hx
  · rcases List.mem_append.mp hy with h | h
    · exact List.mem_append.mpr (.inl (S.cl y h))
    · simp at h
      rcases h with rfl | rfl
      · simp
      · rw [A.inv x hx]; simp
theorem walk_stop {a b : Nat → Nat} {f : Nat} {s road : List Nat} {x : Nat} (h : x ∈ s ++ road) : walk a b f s x road = road := by
  cases f with
  | zero => rfl
  | succ f => exact if_pos h
theorem walk_go {a b : Nat → Nat} {f : Nat} {s road : List Nat} {x : Nat} (h : x ∉ s ++ road) : walk a b (f + 1) s x road = walk a b f s (b (a x)) (road ++ [x, a x]) := if_neg h
/-- the fuel does not run out -/
theorem fuel_pos {a : Nat → Nat} {M f : Nat} {s road : List Nat} {x : Nat} (S : Seen a M (s ++ road)) (hx : x < M) (hn : x ∉ s ++ road) (hf : M ≤ f + (s ++ road).length) : ∃ f', f = f' + 1 := by
  cases f with
  | zero => exact absurd (nodup_full S.nd S.lt (by omega) hx) hn
  | succ f => exact ⟨f, rfl⟩
theorem walk_seen {a b : Nat → Nat} {M : Nat} (A : Inv2 M a) (hb : ∀ k, k < M → b k < M) : ∀ (f : Nat) (s road : List Nat) (x : Nat), Seen a M (s ++ road) → x < M → Seen a M (s ++ walk a b f s x road)
  | 0, _, _, _, S, _ => S
  | f + 1, s, road, x, S, hx => by
    by_cases h : x ∈ s ++ road
    · rw [walk_stop h]; exact S
    · rw [walk_go h]
      refine walk_seen A hb f s (road ++ [x, a x]) (b (a x)) ?_ (hb _ (A.lt x hx))
      rw [← List.append_assoc]
      exact (S.push A hx h).2
theorem walk_pre {a b : Nat → Nat} : ∀ (f : Nat) (s road : List Nat) (x : Nat), ∃ r, walk a b f s x road = road ++ r
  | 0, _, road, _ => ⟨[], (List.append_nil road).symm⟩
  | f + 1, s, road, x => by
    by_cases h : x ∈ s ++ road
    · rw [walk_stop h]; exact ⟨[], (List.append_nil road).symm⟩
    · rw [walk_go h]
      obtain ⟨r, e⟩ := walk_pre f s (road ++ [x, a x]) (b (a x))
      exact ⟨[x, a x] ++ r, by rw [e, List.append_assoc]⟩
theorem walk_first {a b : Nat → Nat} {M : Nat} {s : List Nat} {x : Nat} (hM : 0 < M) (h : x ∉ s) : ∃ r, walk a b M s x [] = x :: a x :: r := by
  obtain ⟨f, rfl⟩ : ∃ f, M = f + 1 := ⟨M - 1, by omega⟩
  rw [walk_go (by simpa using h)]
  obtain ⟨r, e⟩ := walk_pre f s ([] ++ [x, a x]) (b (a x))
  exact ⟨r, by rw [e]; rfl⟩
theorem flatten_snoc (F : List (List Nat)) (r : List Nat) : (F ++ [r]).flatten = F.flatten ++ r := by simp
theorem goR_seen {a b : Nat → Nat} {M : Nat} {s0 : List Nat} (A : Inv2 M a) (hb : ∀ k, k < M → b k < M) (S0 : Seen a M s0) : ∀ i, i ≤ M → Seen a M (s0 ++ (goR a b M s0 i).flatten)
  | 0, _ => by rw [goR_zero]; simpa using S0
  | i + 1, h => by
    have ih := goR_seen A hb S0 i (by omega)
    rw [goR_succ]
    unfold stepR
    split
    · exact ih
    · rw [flatten_snoc, ← List.append_assoc]
      exact walk_seen A hb M _ [] i (by rw [List.append_nil]; exact ih) (by omega)
theorem goR_mem {a b : Nat → Nat} {M : Nat} {s0 : List Nat} : ∀ i, i ≤ M → ∀ x, x < i → x ∈ s0 ++ (goR a b M s0 i).flatten
  | 0, _, x, hx => absurd hx (Nat.not_lt_zero _)
  | i + 1, h, x, hx => by
    have ih := goR_mem (a := a) (b := b) (M := M) (s0 := s0) i (by omega) x
    rw [goR_succ]
    unfold stepR
    split
    · rename_i hm
      by_cases e : x = i
      · rw [e]; exact hm
      · exact ih (by omega)
    · rename_i hm
      rw [flatten_snoc, ← List.append_assoc]
      by_cases e : x = i
      · subst e
        obtain ⟨r, er⟩ := walk_first (a := a) (b := b) (M := M) (show 0 < M by omega) hm
        rw [er]
        simp
      · exact List.mem_append.mpr (.inl (ih (by omega)))
/-- places that are seen are passed over -/
theorem goR_skip {a b : Nat → Nat} {M : Nat} {s0 : List Nat} {i : Nat} : ∀ j, i ≤ j → (∀ x, i ≤ x → x < j → x ∈ s0 ++ (goR a b M s0 i).flatten) → goR a b M s0 j = goR a b M s0 i
  | 0, h, _ => by
    have : i = 0 := by omega
    rw [this]
  | j + 1, h, hx => by
    by_cases e : i = j + 1
    · rw [e]
    · have ih := goR_skip (a := a) (b := b) (M := M) (s0 := s0) (i := i) j (by omega) (fun x h1 h2 => hx x h1 (by omega))
      rw [goR_succ, ih]
      unfold stepR
      rw [if_pos (hx j (by omega) (by omega))]
/-- what is left, in its order -/
def leftL (M : Nat) (s : List Nat) : List Nat := (List.range M).filter (fun x => decide (x ∉ s))
theorem mem_left {M : Nat} {s : List Nat} {x : Nat} : x ∈ leftL M s ↔ x < M ∧ x ∉ s := by simp [leftL]
theorem left_nodup (M : Nat) (s : List Nat) : (leftL M s).Nodup := List.Pairwise.filter _ List.nodup_range
theorem left_len (M : Nat) (s : List Nat) : (leftL M s).length ≤ M := by
  have h := List.length_filter_le (fun x : Nat => decide (x ∉ s)) (List.range M)
  rw [List.length_range] at h
  exact h
theorem left_drop {M : Nat} {s : List Nat} {x : Nat} : (leftL M s).filter (fun y => decide (y ≠ x)) = leftL M (s ++ [x]) := by
  unfold leftL
  rw [List.filter_filter]
  apply List.filter_congr
  intro y _
  simp [and_comm]
theorem left_head {M : Nat} {s : List Nat} {x : Nat} {r : List Nat} (h : leftL M s = x :: r) : x < M ∧ x ∉ s ∧ ∀ y, y < x → y ∈ s := by
  have h1 : x ∈ leftL M s := by rw [h]; simp
  rw [mem_left] at h1
  refine ⟨h1.1, h1.2, fun y hy => ?_⟩
  by_cases c : y ∈ s
  · exact c
  · have h2 : y ∈ leftL M s := mem_left.mpr ⟨by omega, c⟩
    have hs : (leftL M s).Pairwise (· < ·) := List.Pairwise.filter _ List.pairwise_lt_range
    rw [h] at h2 hs
    rcases List.mem_cons.mp h2 with e | e
    · omega
    · have := (List.pairwise_cons.mp hs).1 y e
      omega
theorem left_nil {M : Nat} {s : List Nat} (h : leftL M s = []) : ∀ y, y < M → y ∈ s := fun y hy => by
  by_cases c : y ∈ s
  · exact c
  · have h2 : y ∈ leftL M s := mem_left.mpr ⟨hy, c⟩
    rw [h] at h2
    cases h2
end Rm
namespace Rm
theorem goR_len {a b : Nat → Nat} {M : Nat} {s0 : List Nat} : ∀ i, i ≤ M → (goR a b M s0 i).length ≤ i
  | 0, _ => Nat.le_refl _
  | i + 1, h => by
    have ih := goR_len (a := a) (b := b) (M := M) (s0 := s0) i (by omega)
    rw [goR_succ]
    unfold stepR
    split
    · omega
    · rw [List.length_append, List.length_singleton]; omega
end Rm
namespace Rm
theorem left_lt {M : Nat} {s r : List Nat} {x : Nat} (hx : x < M) (hn : x ∉ s) (hr : x ∈ r) : (leftL M (s ++ r)).length < (leftL M s).length := by
  have hsub : ∀ y, y ∈ x :: leftL M (s ++ r) → y ∈ leftL M s := fun y hy => by
    rcases List.mem_cons.mp hy with e | e
    · rw [e]; exact mem_left.mpr ⟨hx, hn⟩
    · have h2 := mem_left.mp e
      exact mem_left.mpr ⟨h2.1, fun z => h2.2 (List.mem_append.mpr (.inl z))⟩
  have hnd : (x :: leftL M (s ++ r)).Nodup := List.nodup_cons.mpr ⟨fun h => (mem_left.mp h).2 (List.mem_append.mpr (.inr hr)), left_nodup _ _⟩
  have := nodup_sub_len hnd hsub
  rw [List.length_cons] at this
  omega
end Rm
namespace Rm
theorem roads_ne {a b : Nat → Nat} {M : Nat} (h : 0 < M) : roadsM a b M ≠ [] := fun e => by
  have := goR_mem (a := a) (b := b) (M := M) (s0 := []) M (Nat.le_refl _) 0 h
  unfold roadsM at e
  rw [e] at this
  simp at this
theorem road_len {a b : Nat → Nat} {M : Nat} (A : Inv2 M a) (hb : ∀ k, k < M → b k < M) {r : List Nat} (hr : r ∈ roadsM a b M) : r.length ≤ M := by
  have S := goR_seen (s0 := []) A hb ⟨.nil, by simp, by simp⟩ M (Nat.le_refl _)
  rw [List.nil_append] at S
  have h1 : ∀ x, x ∈ r → x < M := fun x hx => S.lt x (List.mem_flatten.mpr ⟨r, hr, hx⟩)
  have h2 : r.Nodup := (List.sublist_flatten_of_mem hr).nodup S.nd
  exact nodup_len M r h2 h1
end Rm

set_option linter.all false
namespace Rm
/-! ## what is joined, and how many parts there are -/
inductive Conn (R : Nat → Nat → Prop) : Nat → Nat → Prop
  | refl (x : Nat) : Conn R x x
  | step {x y z : Nat} : R x y → Conn R y z → Conn R x z
  | back {x y z : Nat} : R y x → Conn R y z → Conn R x z
theorem Conn.trans {R : Nat → Nat → Prop} {x y z : Nat} (h : Conn R x y) (k : Conn R y z) : Conn R x z := by
  induction h with
  | refl x => exact k
  | step r _ ih => exact .step r (ih k)
  | back r _ ih => exact .back r (ih k)
theorem Conn.one {R : Nat → Nat → Prop} {x y : Nat} (h : R x y) : Conn R x y := .step h (.refl y)
theorem Conn.symm {R : Nat → Nat → Prop} {x y : Nat} (h : Conn R x y) : Conn R y x := by
  induction h with
  | refl x => exact .refl x
  | step r _ ih => exact ih.trans (.back r (.refl _))
  | back r _ ih => exact ih.trans (.step r (.refl _))
theorem Conn.mono {R R' : Nat → Nat → Prop} {x y : Nat} (h : Conn R x y) (k : ∀ u v, R u v → Conn R' u v) : Conn R' x y := by
  induction h with
  | refl x => exact .refl x
  | step r _ ih => exact (k _ _ r).trans ih
  | back r _ ih => exact (k _ _ r).symm.trans ih
/-- a set that no step leaves -/
theorem Conn.stays {R : Nat → Nat → Prop} {C : Nat → Prop} {x y : Nat} (h : Conn R x y) (k : ∀ u v, C u → (R u v ∨ R v u) → C v) (hx : C x) : C y := by
  induction h with
  | refl x => exact hx
  | step r _ ih => exact ih (k _ _ hx (.inl r))
  | back r _ ih => exact ih (k _ _ hx (.inr r))
def Comp (V : Nat → Prop) (R : Nat → Nat → Prop) (c : Nat) : Prop :=
  ∃ f : Nat → Nat, (∀ v, V v → f v < c) ∧ (∀ i, i < c → ∃ v, V v ∧ f v = i) ∧ ∀ u v, V u → V v → (f u = f v ↔ Conn R u v)
/-- one to one into fewer is not -/
theorem inj_le {c d : Nat} (h : Nat → Nat) (hl : ∀ i, i < c → h i < d) (hi : ∀ i j, i < c → j < c → h i = h j → i = j) : c ≤ d := by
  have hn : ((List.range c).map h).Nodup := by
    rw [List.Nodup, List.pairwise_map]
    refine List.Pairwise.imp_of_mem ?_ List.pairwise_lt_range
    intro a b ha hb hab e
    rw [List.mem_range] at ha hb
    have := hi a b ha hb e
    omega
  have h2 := nodup_len d _ hn (fun x hx => by
    obtain ⟨i, hi2, rfl⟩ := List.mem_map.mp hx
    exact hl i (List.mem_range.mp hi2))
  rw [List.length_map, List.length_range] at h2
  exact h2
theorem Comp.le {V : Nat → Prop} {R : Nat → Nat → Prop} {c d : Nat} (h : Comp V R c) (k : Comp V R d) : c ≤ d := by
  obtain ⟨f, f1, f2, f3⟩ := h
  obtain ⟨g, g1, g2, g3⟩ := k
  have hr : ∀ i, ∃ v, i < c → V v ∧ f v = i := fun i => by
    by_cases q : i < c
    · obtain ⟨v, hv⟩ := f2 i q
      exact ⟨v, fun _ => hv⟩
    · exact ⟨0, fun z => absurd z q⟩
  have hch : ∃ r : Nat → Nat, ∀ i, i < c → V (r i) ∧ f (r i) = i := ⟨fun i => Classical.choose (hr i), fun i => Classical.choose_spec (hr i)⟩
  obtain ⟨r, hr⟩ := hch
  refine inj_le (fun i => g (r i)) (fun i hi => g1 _ (hr i hi).1) (fun i j hi hj e => ?_)
  have h1 := (g3 _ _ (hr i hi).1 (hr j hj).1).mp e
  have h2 := (f3 _ _ (hr i hi).1 (hr j hj).1).mpr h1
  rw [(hr i hi).2, (hr j hj).2] at h2
  exact h2
theorem Comp.unique {V : Nat → Prop} {R : Nat → Nat → Prop} {c d : Nat} (h : Comp V R c) (k : Comp V R d) : c = d := Nat.le_antisymm (h.le k) (k.le h)
/-- parts by a list of them -/
theorem comp_of_list {V : Nat → Prop} {R : Nat → Nat → Prop} (L : List (List Nat)) (nd : L.flatten.Nodup) (hV : ∀ v, V v ↔ v ∈ L.flatten) (ne : ∀ r, r ∈ L → r ≠ [])
    (cl : ∀ r, r ∈ L → ∀ x y, x ∈ r → (R x y ∨ R y x) → y ∈ r) (cn : ∀ r, r ∈ L → ∀ x y, x ∈ r → y ∈ r → Conn R x y) : Comp V R L.length := by
  have dis : ∀ i j x, ∀ (hi : i < L.length) (hj : j < L.length), x ∈ L[i] → x ∈ L[j] → i = j := by
    have h2 := (List.pairwise_flatten.mp nd).2
    intro i j x hi hj h1 h3
    rcases Nat.lt_trichotomy i j with c | c | c
    · exact absurd rfl (List.pairwise_iff_getElem.mp h2 i j hi hj c x h1 x h3)
    · exact c
    · exact absurd rfl (List.pairwise_iff_getElem.mp h2 j i hj hi c x h3 x h1)
  have at_ : ∀ v, V v → ∃ i, ∃ hi : i < L.length, v ∈ L[i] := fun v hv => by
    obtain ⟨r, hr, hvr⟩ := List.mem_flatten.mp ((hV v).mp hv)
    obtain ⟨i, hi, e⟩ := List.mem_iff_getElem.mp hr
    exact ⟨i, hi, by rw [e]; exact hvr⟩
  have hex : ∃ f : Nat → Nat, ∀ v, V v → ∃ hi : f v < L.length, v ∈ L[f v] := by
    have : ∀ v, ∃ i, V v → ∃ hi : i < L.length, v ∈ L[i] := fun v => by
      by_cases q : V v
      · obtain ⟨i, h⟩ := at_ v q
        exact ⟨i, fun _ => h⟩
      · exact ⟨0, fun z => absurd z q⟩
    exact ⟨fun v => Classical.choose (this v), fun v => Classical.choose_spec (this v)⟩
  obtain ⟨f, hf⟩ := hex
  refine ⟨f, fun v hv => (hf v hv).1, fun i hi => ?_, fun u v hu hv => ⟨fun e => ?_, fun h => ?_⟩⟩
  · have hne := ne L[i] (List.getElem_mem hi)
    obtain ⟨x, r, e⟩ : ∃ x r, L[i] = x :: r := by
      cases h : L[i] with
      | nil => exact absurd h hne
      | cons x r => exact ⟨x, r, rfl⟩
    have hx : x ∈ L[i] := by rw [e]; simp
    have hv : V x := (hV x).mpr (List.mem_flatten.mpr ⟨_, List.getElem_mem hi, hx⟩)
    obtain ⟨h1, h2⟩ := hf x hv
    exact ⟨x, hv, dis _ _ x h1 hi h2 hx⟩
  · obtain ⟨h1, h2⟩ := hf u hu
    obtain ⟨h3, h4⟩ := hf v hv
    have h5 : v ∈ L[f u] := by simpa [e] using h4
    exact cn _ (List.getElem_mem h1) u v h2 h5
  · obtain ⟨h1, h2⟩ := hf u hu
    obtain ⟨h3, h4⟩ := hf v hv
    have h5 : v ∈ L[f u] := h.stays (C := fun x => x ∈ L[f u]) (fun x y hx hr => cl _ (List.getElem_mem h1) x y hx hr) h2
    exact dis _ _ v h1 h3 h5 h4
theorem conn_map {V : Nat → Prop} {R R' : Nat → Nat → Prop} (φ : Nat → Nat) (hR : ∀ x y, V x → (R x y ∨ R y x) → V y ∧ Conn R' (φ x) (φ y)) {u v : Nat} (h : Conn R u v) (hu : V u) : V v ∧ Conn R' (φ u) (φ v) := by
  induction h with
  | refl x => exact ⟨hu, .refl _⟩
  | step r _ ih =>
    have h1 := hR _ _ hu (.inl r)
    have h2 := ih h1.1
    exact ⟨h2.1, h1.2.trans h2.2⟩
  | back r _ ih =>
    have h1 := hR _ _ hu (.inr r)
    have h2 := ih h1.1
    exact ⟨h2.1, h1.2.trans h2.2⟩
theorem comp_map {V V' : Nat → Prop} {R R' : Nat → Nat → Prop} {c : Nat} (φ ψ : Nat → Nat) (hφ : ∀ v, V v → V' (φ v)) (hψ : ∀ w, V' w → V (ψ w)) (h1 : ∀ v, V v → ψ (φ v) = v) (h2 : ∀ w, V' w → φ (ψ w) = w)
    (hR : ∀ x y, V x → (R x y ∨ R y x) → V y ∧ Conn R' (φ x) (φ y)) (hR' : ∀ x y, V' x → (R' x y ∨ R' y x) → V' y ∧ Conn R (ψ x) (ψ y)) (h : Comp V R c) : Comp V' R' c := by
  obtain ⟨f, f1, f2, f3⟩ := h
  refine ⟨fun w => f (ψ w), fun v hv => f1 _ (hψ v hv), fun i hi => ?_, fun u v hu hv => ⟨fun e => ?_, fun h => ?_⟩⟩
  · obtain ⟨v, hv, e⟩ := f2 i hi
    exact ⟨φ v, hφ v hv, by show f (ψ (φ v)) = i; rw [h1 v hv]; exact e⟩
  · have q := (f3 _ _ (hψ u hu) (hψ v hv)).mp e
    have q2 := (conn_map φ hR q (hψ u hu)).2
    rw [h2 u hu, h2 v hv] at q2
    exact q2
  · exact (f3 _ _ (hψ u hu) (hψ v hv)).mpr (conn_map ψ hR' h hu).2
/-- two sets with no step between them -/
theorem comp_add {V1 V2 : Nat → Prop} {R : Nat → Nat → Prop} {c1 c2 : Nat} (h1 : Comp V1 R c1) (h2 : Comp V2 R c2) (dis : ∀ v, V1 v → V2 v → False) (cl : ∀ x y, V1 x → (R x y ∨ R y x) → V1 y) : Comp (fun v => V1 v ∨ V2 v) R (c1 + c2) := by
  obtain ⟨f, f1, f2, f3⟩ := h1
  obtain ⟨g, g1, g2, g3⟩ := h2
  have hex : ∃ k : Nat → Nat, (∀ v, V1 v → k v = f v) ∧ ∀ v, ¬ V1 v → k v = c1 + g v :=
    ⟨fun v => @ite Nat (V1 v) (Classical.propDecidable _) (f v) (c1 + g v), fun v h => if_pos h, fun v h => if_neg h⟩
  obtain ⟨k, k1, k2⟩ := hex
  have n2 : ∀ v, V2 v → ¬ V1 v := fun v h z => dis v z h
  refine ⟨k, fun v hv => ?_, fun i hi => ?_, fun u v hu hv => ?_⟩
  · rcases hv with h | h
    · rw [k1 v h]; have := f1 v h; omega
    · rw [k2 v (n2 v h)]; have := g1 v h; omega
  · by_cases q : i < c1
    · obtain ⟨v, hv, e⟩ := f2 i q
      exact ⟨v, .inl hv, by rw [k1 v hv]; exact e⟩
    · obtain ⟨v, hv, e⟩ := g2 (i - c1) (by omega)
      exact ⟨v, .inr hv, by rw [k2 v (n2 v hv)]; omega⟩
  · have sep : ∀ u v, V1 u → V2 v → ¬ Conn R u v := fun u v a b h => dis v (h.stays cl a) b
    rcases hu with hu | hu <;> rcases hv with hv | hv
    · rw [k1 u hu, k1 v hv]; exact f3 u v hu hv
    · rw [k1 u hu, k2 v (n2 v hv)]
      have := f1 u hu
      exact ⟨fun e => by omega, fun h => absurd h (sep u v hu hv)⟩
    · rw [k2 u (n2 u hu), k1 v hv]
      have := f1 v hv
      exact ⟨fun e => by omega, fun h => absurd h.symm (sep v u hv hu)⟩
    · rw [k2 u (n2 u hu), k2 v (n2 v hv)]
      refine ⟨fun e => (g3 u v hu hv).mp (by omega), fun h => ?_⟩
      have := (g3 u v hu hv).mpr h
      omega
theorem Comp.congr {V V' : Nat → Prop} {R R' : Nat → Nat → Prop} {c : Nat} (h : Comp V R c) (hV : ∀ v, V v ↔ V' v) (hR : ∀ u v, V u → V v → (Conn R u v ↔ Conn R' u v)) : Comp V' R' c := by
  obtain ⟨f, f1, f2, f3⟩ := h
  exact ⟨f, fun v hv => f1 v ((hV v).mpr hv), fun i hi => by obtain ⟨v, hv, e⟩ := f2 i hi; exact ⟨v, (hV v).mp hv, e⟩, fun u v hu hv => (f3 u v ((hV u).mpr hu) ((hV v).mpr hv)).trans (hR u v ((hV u).mpr hu) ((hV v).mpr hv))⟩
/-! ## roads are the parts -/
def R2 (a b : Nat → Nat) (M : Nat) : Nat → Nat → Prop := fun x y => x < M ∧ (a x = y ∨ b x = y)
structure RoadInv (a b : Nat → Nat) (M x0 : Nat) (road : List Nat) (x : Nat) : Prop where
  cn : ∀ y, y ∈ road → Conn (R2 a b M) x0 y
  cx : Conn (R2 a b M) x0 x
  br : (road = [] ∧ x = x0) ∨ (x0 ∈ road ∧ ∃ L, L ∈ road ∧ b L = x ∧ ∀ y, y ∈ road → y ≠ x0 → y ≠ L → b y ∈ road ∧ b y ≠ L)
theorem walk_class {a b : Nat → Nat} {M x0 : Nat} (A : Inv2 M a) (B : Inv2 M b) {s : List Nat} (hsb : ∀ y, y ∈ s → b y ∈ s) (hx0 : x0 < M) (h0 : x0 ∉ s) : ∀ (f : Nat) (road : List Nat) (x : Nat), Seen a M (s ++ road) → x < M → RoadInv a b M x0 road x → M ≤ f + (s ++ road).length →
    (∀ y, y ∈ walk a b f s x road → Conn (R2 a b M) x0 y ∧ b y ∈ walk a b f s x road) ∧ x0 ∈ walk a b f s x road := by
  have stop : ∀ (road : List Nat) (x : Nat), Seen a M (s ++ road) → x < M → RoadInv a b M x0 road x → x ∈ s ++ road → (∀ y, y ∈ road → Conn (R2 a b M) x0 y ∧ b y ∈ road) ∧ x0 ∈ road := by
    intro road x S hx I hm
    rcases I.br with ⟨e1, e2⟩ | ⟨h1, L, hL, hbL, hy⟩
    · subst e1 e2
      rw [List.append_nil] at hm
      exact absurd hm h0
    · have hLM : L < M := S.lt L (by simp [hL])
      have hLs : L ∉ s := fun z => (List.nodup_append.mp S.nd).2.2 L z L hL rfl
      have hbx : b x = L := by rw [← hbL]; exact B.inv L hLM
      have hxs : x ∉ s := fun z => hLs (by rw [← hbx]; exact hsb x z)
      have hxr : x ∈ road := by
        rcases List.mem_append.mp hm with z | z
        · exact absurd z hxs
        · exact z
      have hxL : x ≠ L := by rw [← hbL]; exact B.ne L hLM
      have hx0 : x = x0 := by
        by_cases q : x = x0
        · exact q
        · exact absurd hbx (hy x hxr q hxL).2
      refine ⟨fun y hyr => ⟨I.cn y hyr, ?_⟩, h1⟩
      by_cases q1 : y = x0
      · rw [q1, ← hx0, hbx]; exact hL
      · by_cases q2 : y = L
        · rw [q2, hbL]; exact hxr
        · exact (hy y hyr q1 q2).1
  intro f
  induction f with
  | zero =>
    intro road x S hx I hf
    exact stop road x S hx I (nodup_full S.nd S.lt (by omega) hx)
  | succ f ih =>
    intro road x S hx I hf
    by_cases hm : x ∈ s ++ road
    · rw [walk_stop hm]
      exact stop road x S hx I hm
    · rw [walk_go hm]
      have hp := S.push A hx hm
      have hax := A.lt x hx
      have c1 : Conn (R2 a b M) x (a x) := .one ⟨hx, .inl rfl⟩
      have c2 : Conn (R2 a b M) (a x) (b (a x)) := .one ⟨hax, .inr rfl⟩
      refine ih (road ++ [x, a x]) (b (a x)) (by rw [← List.append_assoc]; exact hp.2) (B.lt _ hax) ⟨fun y hy => ?_, (I.cx.trans c1).trans c2, .inr ⟨?_, a x, by simp, rfl, fun y hy q1 q2 => ?_⟩⟩ (by simp at hf ⊢; omega)
      · rcases List.mem_append.mp hy with z | z
        · exact I.cn y z
        · simp at z
          rcases z with rfl | rfl
          · exact I.cx
          · exact I.cx.trans c1
      · rcases I.br with ⟨e1, e2⟩ | ⟨h1, _⟩
        · rw [e2]; simp
        · simp [h1]
      · have nr : ∀ z, z ∈ road → z ≠ a x := fun z hz e => hp.1 (by rw [← e]; simp [hz])
        rcases List.mem_append.mp hy with z | z
        · rcases I.br with ⟨e1, e2⟩ | ⟨h1, L, hL, hbL, hyy⟩
          · rw [e1] at z; cases z
          · by_cases q3 : y = L
            · rw [q3, hbL]
              exact ⟨by simp, fun e => A.ne x hx e.symm⟩
            · have h4 := hyy y z q1 q3
              exact ⟨by simp [h4.1], nr _ h4.1⟩
        · simp at z
          rcases z with rfl | rfl
          · rcases I.br with ⟨e1, e2⟩ | ⟨h1, L, hL, hbL, hyy⟩
            · exact absurd e2 q1
            · have hLM : L < M := S.lt L (by simp [hL])
              have : b y = L := by rw [← hbL]; exact B.inv L hLM
              rw [this]
              exact ⟨by simp [hL], nr L hL⟩
          · exact absurd rfl q2
structure GoInv (a b : Nat → Nat) (M : Nat) (s0 : List Nat) (F : List (List Nat)) : Prop where
  seen : Seen a M (s0 ++ F.flatten)
  bcl : ∀ y, y ∈ s0 ++ F.flatten → b y ∈ s0 ++ F.flatten
  each : ∀ r, r ∈ F → r ≠ [] ∧ (∀ x, x ∈ r → a x ∈ r ∧ b x ∈ r) ∧ ∀ x y, x ∈ r → y ∈ r → Conn (R2 a b M) x y
theorem go_inv {a b : Nat → Nat} {M : Nat} (A : Inv2 M a) (B : Inv2 M b) {s0 : List Nat} (S0 : Seen a M s0) (b0 : ∀ y, y ∈ s0 → b y ∈ s0) : ∀ i, i ≤ M → GoInv a b M s0 (goR a b M s0 i)
  | 0, _ => ⟨by rw [goR_zero]; simpa using S0, fun y hy => by rw [goR_zero] at hy ⊢; simp at hy ⊢; exact b0 y hy, fun r hr => by rw [goR_zero] at hr; cases hr⟩
  | i + 1, h => by
    have I := go_inv A B S0 b0 i (by omega)
    rw [goR_succ]
    unfold stepR
    split
    · exact I
    · rename_i hm
      generalize goR a b M s0 i = F at *
      have w := walk_class A B (s := s0 ++ F.flatten) I.bcl (show i < M by omega) hm M [] i (by rw [List.append_nil]; exact I.seen) (by omega) ⟨fun y hy => (nomatch hy), .refl _, .inl ⟨rfl, rfl⟩⟩ (by omega)
      have ws := walk_seen A B.lt M (s0 ++ F.flatten) [] i (by rw [List.append_nil]; exact I.seen) (by omega)
      generalize walk a b M (s0 ++ F.flatten) i [] = R at *
      have hnd := List.nodup_append.mp ws.nd
      refine ⟨by rw [flatten_snoc, ← List.append_assoc]; exact ws, fun y hy => ?_, fun r hr => ?_⟩
      · rw [flatten_snoc, ← List.append_assoc] at hy ⊢
        rcases List.mem_append.mp hy with z | z
        · exact List.mem_append.mpr (.inl (I.bcl y z))
        · exact List.mem_append.mpr (.inr (w.1 y z).2)
      · rcases List.mem_append.mp hr with z | z
        · exact I.each r z
        · simp at z
          subst z
          refine ⟨fun e => (by rw [e] at w; cases w.2), fun x hx => ⟨?_, (w.1 x hx).2⟩, fun x y hx hy => (w.1 x hx).1.symm.trans (w.1 y hy).1⟩
          have h1 := ws.cl x (List.mem_append.mpr (.inr hx))
          rcases List.mem_append.mp h1 with z | z
          · have h2 := I.seen.cl _ z
            rw [A.inv x (ws.lt x (List.mem_append.mpr (.inr hx)))] at h2
            exact absurd rfl (hnd.2.2 x h2 x hx)
          · exact z
theorem comp_goR {a b : Nat → Nat} {M : Nat} (A : Inv2 M a) (B : Inv2 M b) {s0 : List Nat} (S0 : Seen a M s0) (b0 : ∀ y, y ∈ s0 → b y ∈ s0) : Comp (fun v => v < M ∧ v ∉ s0) (R2 a b M) (goR a b M s0 M).length := by
  have I := go_inv A B S0 b0 M (Nat.le_refl _)
  have hm := goR_mem (a := a) (b := b) (M := M) (s0 := s0) M (Nat.le_refl _)
  generalize goR a b M s0 M = F at *
  have hnd := List.nodup_append.mp I.seen.nd
  refine comp_of_list F hnd.2.1 (fun v => ⟨fun h => ?_, fun h => ?_⟩) (fun r hr => (I.each r hr).1) (fun r hr x y hx hxy => ?_) (fun r hr => (I.each r hr).2.2)
  · rcases List.mem_append.mp (hm v h.1) with z | z
    · exact absurd z h.2
    · exact z
  · exact ⟨I.seen.lt v (List.mem_append.mpr (.inr h)), fun z => hnd.2.2 v z v h rfl⟩
  · have hE := (I.each r hr).2.1 x hx
    have hxM : x < M := I.seen.lt x (List.mem_append.mpr (.inr (List.mem_flatten.mpr ⟨r, hr, hx⟩)))
    rcases hxy with ⟨_, e | e⟩ | ⟨hy, e | e⟩
    · rw [← e]; exact hE.1
    · rw [← e]; exact hE.2
    · rw [← e, A.inv y hy] at hE; exact hE.1
    · rw [← e, B.inv y hy] at hE; exact hE.2
theorem comp_roads {a b : Nat → Nat} {M : Nat} (A : Inv2 M a) (B : Inv2 M b) : Comp (fun v => v < M) (R2 a b M) (roadsM a b M).length := by
  have h := comp_goR A B (s0 := []) ⟨.nil, by simp, by simp⟩ (by simp)
  exact h.congr (fun v => by simp) (fun u v _ _ => Iff.rfl)
theorem R2_symm {a b : Nat → Nat} {M : Nat} (A : Inv2 M a) (B : Inv2 M b) {x y : Nat} (hx : x < M) (h : R2 a b M x y ∨ R2 a b M y x) : y < M ∧ (a x = y ∨ b x = y) := by
  rcases h with ⟨_, e | e⟩ | ⟨hy, e | e⟩
  · exact ⟨by rw [← e]; exact A.lt x hx, .inl e⟩
  · exact ⟨by rw [← e]; exact B.lt x hx, .inr e⟩
  · exact ⟨hy, .inl (by rw [← e]; exact A.inv y hy)⟩
  · exact ⟨hy, .inr (by rw [← e]; exact B.inv y hy)⟩
/-- no more roads than arcs -/
theorem roads_le {a b : Nat → Nat} {n : Nat} (A : Inv2 (2 * n) a) (B : Inv2 (2 * n) b) : (roadsM a b (2 * n)).length ≤ n := by
  have I := go_inv A B (s0 := []) ⟨.nil, by simp, by simp⟩ (by simp) (2 * n) (Nat.le_refl _)
  unfold roadsM
  generalize goR a b (2 * n) [] (2 * n) = F at *
  have h2 : ∀ r, r ∈ F → 2 ≤ r.length := fun r hr => by
    have hE := I.each r hr
    match r, hE, hr with
    | [], hE, _ => exact absurd rfl hE.1
    | [x], hE, hr =>
      have h3 := (hE.2.1 x (by simp)).1
      simp at h3
      exact absurd h3 (A.ne x (I.seen.lt x (by simp; exact ⟨[x], hr, by simp⟩)))
    | x :: y :: r, _, _ => simp
  have h3 := nodup_len (2 * n) _ I.seen.nd I.seen.lt
  rw [List.nil_append] at h3
  have h4 : ∀ F : List (List Nat), (∀ r, r ∈ F → 2 ≤ r.length) → 2 * F.length ≤ F.flatten.length := by
    intro F
    induction F with
    | nil => intro _; exact Nat.le_refl _
    | cons r F ih =>
      intro h
      have h5 := h r (by simp)
      have h6 := ih (fun r hr => h r (by simp [hr]))
      rw [List.flatten_cons, List.length_append, List.length_cons]
      omega
  have := h4 F h2
  omega
end Rm

set_option linter.all false
namespace Rm
/-! ## how the number of roads goes -/
theorem cnt_map {a b a' b' : Nat → Nat} {M : Nat} (A : Inv2 M a) (B : Inv2 M b) (A' : Inv2 M a') (B' : Inv2 M b') (φ ψ : Nat → Nat) (hφ : ∀ v, v < M → φ v < M) (hψ : ∀ v, v < M → ψ v < M) (h1 : ∀ v, v < M → ψ (φ v) = v) (h2 : ∀ v, v < M → φ (ψ v) = v)
    (ha : ∀ v, v < M → a' (φ v) = φ (a v)) (hb : ∀ v, v < M → b' (φ v) = φ (b v)) : (roadsM a' b' M).length = (roadsM a b M).length := by
  refine (comp_roads A' B').unique (comp_map φ ψ hφ hψ h1 h2 (fun x y hx h => ?_) (fun x y hx h => ?_) (comp_roads A B))
  · obtain ⟨hy, e⟩ := R2_symm A B hx h
    refine ⟨hy, .one ⟨hφ x hx, ?_⟩⟩
    rw [ha x hx, hb x hx]
    rcases e with e | e <;> rw [e]
    · exact .inl rfl
    · exact .inr rfl
  · obtain ⟨hy, e⟩ := R2_symm A' B' hx h
    have hx' := hψ x hx
    have e1 := ha (ψ x) hx'
    have e2 := hb (ψ x) hx'
    rw [h2 x hx] at e1 e2
    refine ⟨hy, .one ⟨hx', ?_⟩⟩
    rcases e with e | e
    · left; rw [← e, e1, h1 _ (A.lt _ hx')]
    · right; rw [← e, e2, h1 _ (B.lt _ hx')]
theorem cnt_swap {a b : Nat → Nat} {M : Nat} (A : Inv2 M a) (B : Inv2 M b) : (roadsM b a M).length = (roadsM a b M).length := by
  refine (comp_roads B A).unique ((comp_roads A B).congr (fun _ => Iff.rfl) fun u v _ _ => ⟨fun h => h.mono fun x y r => .one ⟨r.1, r.2.symm⟩, fun h => h.mono fun x y r => .one ⟨r.1, r.2.symm⟩⟩)
theorem Inv2.congr {M : Nat} {f f' : Nat → Nat} (A : Inv2 M f) (h : ∀ k, k < M → f' k = f k) : Inv2 M f' :=
  ⟨fun k hk => by rw [h k hk]; exact A.lt k hk, fun k hk => by rw [h k hk]; exact A.ne k hk, fun k hk => by rw [h k hk, h _ (A.lt k hk)]; exact A.inv k hk⟩
theorem cnt_rot {m r : Nat} {a b a' b' : Nat → Nat} (A : Arcs m a) (B : Arcs m b) (hr : r < m) (ha : ∀ k, k < m → a' k = rotF m r a k) (hb : ∀ k, k < m → b' k = rotF m r b k) : (roadsM a' b' m).length = (roadsM a b m).length :=
  cnt_map A.inv2 B.inv2 ((rot_arcs A hr).inv2.congr ha) ((rot_arcs B hr).inv2.congr hb) (psi m r) (phi m r) (fun v h => psi_lt hr h) (fun v h => phi_lt hr h) (fun v h => phi_psi hr h) (fun v h => psi_phi hr h)
    (fun v h => by rw [ha _ (psi_lt hr h)]; unfold rotF; rw [phi_psi hr h]) (fun v h => by rw [hb _ (psi_lt hr h)]; unfold rotF; rw [phi_psi hr h])
theorem cnt_mir {m : Nat} {a b a' b' : Nat → Nat} (A : Arcs m a) (B : Arcs m b) (ha : ∀ k, k < m → a' k = mirF m a k) (hb : ∀ k, k < m → b' k = mirF m b k) : (roadsM a' b' m).length = (roadsM a b m).length :=
  cnt_map A.inv2 B.inv2 ((mir_arcs A).inv2.congr ha) ((mir_arcs B).inv2.congr hb) (fun k => m - 1 - k) (fun k => m - 1 - k) (fun v h => by (try dsimp only); omega) (fun v h => by (try dsimp only); omega) (fun v h => by (try dsimp only); omega) (fun v h => by (try dsimp only); omega)
    (fun v h => by (try dsimp only); rw [ha _ (by omega)]; unfold mirF; rw [show m - 1 - (m - 1 - v) = v by omega]) (fun v h => by (try dsimp only); rw [hb _ (by omega)]; unfold mirF; rw [show m - 1 - (m - 1 - v) = v by omega])
theorem cnt_side {m m2 : Nat} {a b a2 b2 a' b' : Nat → Nat} (A : Arcs m a) (B : Arcs m b) (A2 : Arcs m2 a2) (B2 : Arcs m2 b2) (ha : ∀ k, k < m + m2 → a' k = sideF m a a2 k) (hb : ∀ k, k < m + m2 → b' k = sideF m b b2 k) :
    (roadsM a' b' (m + m2)).length = (roadsM a b m).length + (roadsM a2 b2 m2).length := by
  have IA := (side_arcs A A2).inv2.congr ha
  have IB := (side_arcs B B2).inv2.congr hb
  have lo : ∀ k, k < m → a' k = a k ∧ b' k = b k := fun k h => by
    rw [ha k (by omega), hb k (by omega)]
    unfold sideF
    rw [if_pos h, if_pos h]
    exact ⟨rfl, rfl⟩
  have hi : ∀ k, k < m2 → a' (m + k) = m + a2 k ∧ b' (m + k) = m + b2 k := fun k h => by
    rw [ha (m + k) (by omega), hb (m + k) (by omega)]
    unfold sideF
    rw [if_neg (by omega), if_neg (by omega), show m + k - m = k by omega]
    exact ⟨rfl, rfl⟩
  have c1 : Comp (fun v => v < m) (R2 a' b' (m + m2)) (roadsM a b m).length := by
    refine comp_map (V := fun v => v < m) (fun v => v) (fun v => v) (fun _ h => h) (fun _ h => h) (fun _ _ => rfl) (fun _ _ => rfl) (fun x y hx h => ?_) (fun x y hx h => ?_) (comp_roads A.inv2 B.inv2)
    · obtain ⟨hy, e⟩ := R2_symm A.inv2 B.inv2 hx h
      refine ⟨hy, .one ⟨by (try dsimp only); omega, ?_⟩⟩
      rw [(lo x hx).1, (lo x hx).2]
      exact e
    · obtain ⟨hy, e⟩ := R2_symm IA IB (by (try dsimp only at hx); omega) h
      rw [(lo x hx).1, (lo x hx).2] at e
      have : y < m := by
        rcases e with e | e <;> rw [← e]
        · exact A.lt x hx
        · exact B.lt x hx
      exact ⟨this, .one ⟨hx, e⟩⟩
  have c2 : Comp (fun v => m ≤ v ∧ v < m + m2) (R2 a' b' (m + m2)) (roadsM a2 b2 m2).length := by
    refine comp_map (V := fun v => v < m2) (fun v => m + v) (fun v => v - m) (fun _ h => ⟨by omega, by omega⟩) (fun _ h => by (try dsimp only at h ⊢); omega) (fun _ _ => by (try dsimp only); omega) (fun _ h => by (try dsimp only at h ⊢); omega) (fun x y hx h => ?_) (fun x y hx h => ?_) (comp_roads A2.inv2 B2.inv2)
    · obtain ⟨hy, e⟩ := R2_symm A2.inv2 B2.inv2 hx h
      refine ⟨hy, .one ⟨by (try dsimp only); omega, ?_⟩⟩
      rw [(hi x hx).1, (hi x hx).2]
      rcases e with e | e <;> rw [e]
      · exact .inl rfl
      · exact .inr rfl
    · (try dsimp only at hx)
      obtain ⟨hy, e⟩ := R2_symm IA IB hx.2 h
      have h1 := hi (x - m) (by omega)
      rw [show m + (x - m) = x by omega] at h1
      rw [h1.1, h1.2] at e
      have k1 := A2.lt (x - m) (by omega)
      have k2 := B2.lt (x - m) (by omega)
      refine ⟨by (try dsimp only); omega, .one ⟨by omega, ?_⟩⟩
      rcases e with e | e
      · left; omega
      · right; omega
  refine (comp_roads IA IB).unique (Comp.congr (comp_add c1 c2 (fun v h1 h2 => by (try dsimp only at h1 h2); omega) (fun x y hx h => ?_)) (fun v => by omega) (fun _ _ _ _ => Iff.rfl))
  obtain ⟨hy, e⟩ := R2_symm IA IB (by omega) h
  rw [(lo x hx).1, (lo x hx).2] at e
  rcases e with e | e <;> rw [← e]
  · exact A.lt x hx
  · exact B.lt x hx
theorem cnt_over {m : Nat} {a b a' b' : Nat → Nat} (A : Arcs m a) (B : Arcs m b) (ha : ∀ k, k < m + 2 → a' k = overF m a k) (hb : ∀ k, k < m + 2 → b' k = overF m b k) : (roadsM a' b' (m + 2)).length = (roadsM a b m).length + 1 := by
  have IA := (over_arcs A).inv2.congr ha
  have IB := (over_arcs B).inv2.congr hb
  have mid : ∀ k, k < m → a' (k + 1) = a k + 1 ∧ b' (k + 1) = b k + 1 := fun k h => by
    rw [ha _ (by omega), hb _ (by omega)]
    unfold overF
    rw [if_neg (by omega), if_neg (by omega), if_neg (by omega), if_neg (by omega)]
    exact ⟨rfl, rfl⟩
  have z0 : a' 0 = m + 1 ∧ b' 0 = m + 1 := by
    rw [ha _ (by omega), hb _ (by omega)]
    exact ⟨rfl, rfl⟩
  have z1 : a' (m + 1) = 0 ∧ b' (m + 1) = 0 := by
    rw [ha _ (by omega), hb _ (by omega)]
    unfold overF
    rw [if_neg (by omega), if_pos rfl, if_neg (by omega), if_pos rfl]
    exact ⟨rfl, rfl⟩
  have c1 : Comp (fun v => 1 ≤ v ∧ v < m + 1) (R2 a' b' (m + 2)) (roadsM a b m).length := by
    refine comp_map (V := fun v => v < m) (fun v => v + 1) (fun v => v - 1) (fun _ h => ⟨by omega, by omega⟩) (fun _ h => by (try dsimp only at h ⊢); omega) (fun _ _ => by (try dsimp only); omega) (fun _ h => by (try dsimp only at h ⊢); omega) (fun x y hx h => ?_) (fun x y hx h => ?_) (comp_roads A.inv2 B.inv2)
    · obtain ⟨hy, e⟩ := R2_symm A.inv2 B.inv2 hx h
      refine ⟨hy, .one ⟨by (try dsimp only at hx ⊢); omega, ?_⟩⟩
      rw [(mid x hx).1, (mid x hx).2]
      rcases e with e | e <;> rw [e]
      · exact .inl rfl
      · exact .inr rfl
    · (try dsimp only at hx)
      obtain ⟨hy, e⟩ := R2_symm IA IB (by omega) h
      have h1 := mid (x - 1) (by omega)
      rw [show x - 1 + 1 = x by omega] at h1
      rw [h1.1, h1.2] at e
      have k1 := A.lt (x - 1) (by omega)
      have k2 := B.lt (x - 1) (by omega)
      refine ⟨by (try dsimp only); omega, .one ⟨by omega, ?_⟩⟩
      rcases e with e | e
      · left; omega
      · right; omega
  have c2 : Comp (fun v => v = 0 ∨ v = m + 1) (R2 a' b' (m + 2)) 1 := by
    have h := comp_of_list (V := fun v => v = 0 ∨ v = m + 1) (R := R2 a' b' (m + 2)) [[0, m + 1]] (by simp) (fun v => by simp) (by simp) (fun r hr x y hx h => ?_) (fun r hr x y hx hy => ?_)
    · exact h
    · simp at hr
      subst hr
      simp at hx ⊢
      obtain ⟨hy, e⟩ := R2_symm IA IB (by omega) h
      rcases hx with rfl | rfl
      · rw [z0.1, z0.2] at e; omega
      · rw [z1.1, z1.2] at e; omega
    · simp at hr
      subst hr
      simp at hx hy
      have k : Conn (R2 a' b' (m + 2)) 0 (m + 1) := .one ⟨by omega, .inl z0.1⟩
      rcases hx with rfl | rfl <;> rcases hy with rfl | rfl
      · exact .refl _
      · exact k
      · exact k.symm
      · exact .refl _
  refine (comp_roads IA IB).unique (Comp.congr (comp_add c1 c2 (fun v h1 h2 => by (try dsimp only at h1 h2); omega) (fun x y hx h => ?_)) (fun v => by omega) (fun _ _ _ _ => Iff.rfl))
  (try dsimp only at hx)
  obtain ⟨hy, e⟩ := R2_symm IA IB (by omega) h
  have h1 := mid (x - 1) (by omega)
  rw [show x - 1 + 1 = x by omega] at h1
  rw [h1.1, h1.2] at e
  have k1 := A.lt (x - 1) (by omega)
  have k2 := B.lt (x - 1) (by omega)
  (try dsimp only)
  omega
/-! ## straight -/
def strF (m k : Nat) : Nat := m - 1 - k
theorem str_arcs (n : Nat) : Arcs (2 * n) (strF (2 * n)) := by
  refine ⟨fun k h => by unfold strF; omega, fun k h => by unfold strF; omega, fun k h => by unfold strF; omega, fun j k h1 h2 h3 h4 => by unfold strF at h3 h4; omega⟩
/-- ties from an upper end to its lower one are roads by themselves -/
theorem alone_le {a b : Nat → Nat} {n : Nat} (A : Inv2 (2 * n) a) (B : Inv2 (2 * n) b) (hb : ∀ k, k < 2 * n → b k = strF (2 * n) k) (l : List Nat) (hn : l.Nodup) (hl : ∀ k, k ∈ l → k < n ∧ a k = 2 * n - 1 - k) : l.length ≤ (roadsM a b (2 * n)).length := by
  obtain ⟨f, f1, f2, f3⟩ := comp_roads A B
  have hnd : (l.map f).Nodup := by
    rw [List.Nodup, List.pairwise_map]
    refine List.Pairwise.imp_of_mem ?_ hn
    intro x y hx hy hne e
    obtain ⟨h1, h2⟩ := hl x hx
    obtain ⟨h3, h4⟩ := hl y hy
    have hc := (f3 x y (by omega) (by omega)).mp e
    have hs := hc.stays (C := fun z => z = x ∨ z = 2 * n - 1 - x) (fun u v hu hr => by
      obtain ⟨hv, e9⟩ := R2_symm A B (by omega) hr
      rw [hb u (by omega)] at e9
      unfold strF at e9
      have e5 := A.inv x (by omega)
      rw [h2] at e5
      rcases hu with rfl | rfl
      · rw [h2] at e9; omega
      · rw [e5] at e9; omega) (.inl rfl)
    (try dsimp only at hs)
    omega
  have := nodup_len _ _ hnd (fun z hz => by
    obtain ⟨x, hx, rfl⟩ := List.mem_map.mp hz
    exact f1 x (by have := (hl x hx).1; omega))
  rw [List.length_map] at this
  exact this
end Rm

set_option linter.all false
namespace Rm
/-! ## how many ways there are to go on -/
def w : Nat → Nat → Nat
  | 0, d => if d = 0 then 1 else 0
  | l + 1, d => w l (d + 1) + (if 0 < d then w l (d - 1) else 0)
theorem w_zero : ∀ (l d : Nat), l < d → w l d = 0
  | 0, d, h => if_neg (by omega)
  | l + 1, d, h => by
    show w l (d + 1) + (if 0 < d then w l (d - 1) else 0) = 0
    rw [w_zero l (d + 1) (by omega), if_pos (by omega), w_zero l (d - 1) (by omega)]
def rowW (m l : Nat) : List Nat := (List.range m).map (w l)
theorem rowW_len (m l : Nat) : (rowW m l).length = m := by simp [rowW]
theorem rowW_at {m l d : Nat} (h : d < m) : at' (rowW m l) d = w l d := by simp [at', rowW, List.getD_eq_getElem?_getD, h]
def stepRow (r : List Nat) : List Nat := List.zipWith (· + ·) r.tail (0 :: r)
theorem stepRow_w (m l : Nat) : stepRow (rowW (m + 1) l) = rowW m (l + 1) := by
  apply List.ext_getElem
  · simp [stepRow, rowW]
    omega
  · intro i h1 h2
    simp [stepRow, rowW]
    show w l (i + 1) + _ = w l (i + 1) + _
    congr 1
    cases i with
    | zero => rfl
    | succ i => simp
def fastRow : Nat → Nat → List Nat
  | m, 0 => (List.range m).map fun d => if d = 0 then 1 else 0
  | m, l + 1 => stepRow (fastRow (m + 1) l)
theorem fastRow_w : ∀ (l m : Nat), fastRow m l = rowW m l
  | 0, m => rfl
  | l + 1, m => by
    show stepRow (fastRow (m + 1) l) = _
    rw [fastRow_w l (m + 1), stepRow_w]
/-- the sums of products -/
def catL : Nat → List Nat
  | 0 => [1]
  | k + 1 => catL k ++ [((List.range (k + 1)).map fun j => at' (catL k) j * at' (catL k) (k - j)).sum]
theorem catL_len : ∀ k, (catL k).length = k + 1
  | 0 => rfl
  | k + 1 => by
    show (catL k ++ [_]).length = _
    rw [List.length_append, catL_len k]
    rfl
def fastCat : Nat → List Nat
  | 0 => [1]
  | k + 1 => let c := fastCat k; c ++ [(List.zipWith (· * ·) c c.reverse).sum]
theorem fastCat_eq : ∀ k, fastCat k = catL k
  | 0 => rfl
  | k + 1 => by
    show fastCat k ++ [(List.zipWith (· * ·) (fastCat k) (fastCat k).reverse).sum] = _
    rw [fastCat_eq k]
    show _ = catL k ++ [((List.range (k + 1)).map fun j => at' (catL k) j * at' (catL k) (k - j)).sum]
    congr 3
    have hl := catL_len k
    apply List.ext_getElem
    · simp [hl]
    · intro i h1 h2
      simp [hl] at h1
      simp [at', List.getD_eq_getElem?_getD, hl, h1, show k - i < k + 1 by omega]
def checkCat (n : Nat) : Bool := (fastRow 1 (2 * n)).getD 0 0 == (fastCat n).getD n 0
theorem checkCat_all : (List.range 21).all checkCat = true := by decide +kernel
theorem w_cat {n : Nat} (h : n ≤ 20) : w (2 * n) 0 = at' (catL n) n := by
  have h1 := List.all_eq_true.mp checkCat_all n (List.mem_range.mpr (by omega))
  unfold checkCat at h1
  rw [fastRow_w, fastCat_eq] at h1
  have h2 := eq_of_beq h1
  have h3 := rowW_at (m := 1) (l := 2 * n) (d := 0) (by omega)
  unfold at' at h3 ⊢
  rw [← h3]
  exact h2
/-! ## words by their signs; numbers there and back -/
def okw : Nat → List Bool → Prop
  | d, [] => d = 0
  | d, true :: r => okw (d + 1) r
  | d, false :: r => 0 < d ∧ okw (d - 1) r
def unr : Nat → Nat → Nat → List Bool
  | 0, _, _ => []
  | l + 1, d, n => if n < w l (d + 1) then true :: unr l (d + 1) n else false :: unr l (d - 1) (n - w l (d + 1))
def rk : Nat → List Bool → Nat
  | _, [] => 0
  | d, true :: r => rk (d + 1) r
  | d, false :: r => w r.length (d + 1) + rk (d - 1) r
theorem unr_succ (l d n : Nat) : unr (l + 1) d n = if n < w l (d + 1) then true :: unr l (d + 1) n else false :: unr l (d - 1) (n - w l (d + 1)) := rfl
theorem unr_len : ∀ (l d n : Nat), (unr l d n).length = l
  | 0, _, _ => rfl
  | l + 1, d, n => by
    unfold unr
    split
    · rw [List.length_cons, unr_len l]
    · rw [List.length_cons, unr_len l]
theorem w_succ (l d : Nat) : w (l + 1) d = w l (d + 1) + (if 0 < d then w l (d - 1) else 0) := rfl
theorem unr_ok : ∀ (l d n : Nat), n < w l d → okw d (unr l d n) ∧ rk d (unr l d n) = n
  | 0, d, n, h => by
    by_cases e : d = 0
    · subst e
      have : n = 0 := by
        have h2 : w 0 0 = 1 := rfl
        omega
      exact ⟨rfl, this.symm⟩
    · have h2 : w 0 d = 0 := if_neg e
      omega
  | l + 1, d, n, h => by
    rw [w_succ] at h
    unfold unr
    by_cases c : n < w l (d + 1)
    · rw [if_pos c]
      exact unr_ok l (d + 1) n c
    · rw [if_neg c]
      by_cases hd : 0 < d
      · rw [if_pos hd] at h
        have ih := unr_ok l (d - 1) (n - w l (d + 1)) (by omega)
        refine ⟨⟨hd, ih.1⟩, ?_⟩
        show w (unr l (d - 1) (n - w l (d + 1))).length (d + 1) + rk (d - 1) (unr l (d - 1) (n - w l (d + 1))) = n
        rw [unr_len, ih.2]
        omega
      · rw [if_neg hd] at h
        omega
theorem rk_ok : ∀ (cs : List Bool) (d : Nat), okw d cs → rk d cs < w cs.length d ∧ unr cs.length d (rk d cs) = cs
  | [], d, h => by
    have : d = 0 := h
    subst this
    exact ⟨Nat.zero_lt_one, rfl⟩
  | true :: r, d, h => by
    have ih := rk_ok r (d + 1) h
    have e : rk d (true :: r) = rk (d + 1) r := rfl
    rw [e, List.length_cons]
    refine ⟨by rw [w_succ]; omega, ?_⟩
    unfold unr
    rw [if_pos ih.1, ih.2]
  | false :: r, d, h => by
    have ih := rk_ok r (d - 1) h.2
    have e : rk d (false :: r) = w r.length (d + 1) + rk (d - 1) r := rfl
    rw [e, List.length_cons]
    refine ⟨by rw [w_succ, if_pos h.1]; omega, ?_⟩
    unfold unr
    rw [if_neg (by omega), show w r.length (d + 1) + rk (d - 1) r - w r.length (d + 1) = rk (d - 1) r by omega, ih.2]
def enc (cs : List Bool) : List Nat := cs.map fun b => if b then 40 else 41
theorem unr_lt : ∀ (l d n n' : Nat), n < n' → n' < w l d → enc (unr l d n) < enc (unr l d n')
  | 0, d, n, n', h, h' => by
    have h2 : w 0 d ≤ 1 := by
      show (if d = 0 then 1 else 0) ≤ 1
      split <;> omega
    omega
  | l + 1, d, n, n', h, h' => by
    rw [w_succ] at h'
    unfold unr
    by_cases c : n < w l (d + 1)
    · rw [if_pos c]
      by_cases c' : n' < w l (d + 1)
      · rw [if_pos c']
        show (40 : Nat) :: enc (unr l (d + 1) n) < 40 :: enc (unr l (d + 1) n')
        exact List.cons_lt_cons_iff.mpr (.inr ⟨rfl, unr_lt l (d + 1) n n' h c'⟩)
      · rw [if_neg c']
        show (40 : Nat) :: enc (unr l (d + 1) n) < 41 :: enc (unr l (d - 1) (n' - w l (d + 1)))
        exact List.cons_lt_cons_iff.mpr (.inl (by decide))
    · rw [if_neg c, if_neg (by omega)]
      show (41 : Nat) :: enc (unr l (d - 1) (n - w l (d + 1))) < 41 :: enc (unr l (d - 1) (n' - w l (d + 1)))
      have hd : 0 < d := by
        by_cases q : 0 < d
        · exact q
        · rw [if_neg q] at h'; omega
      rw [if_pos hd] at h'
      exact List.cons_lt_cons_iff.mpr (.inr ⟨rfl, unr_lt l (d - 1) _ _ (by omega) (by omega)⟩)
/-! ## words and arcs -/
def bits (m : Nat) (f : Nat → Nat) : List Bool := (List.range m).map fun k => decide (k < f k)
theorem bits_len (m : Nat) (f : Nat → Nat) : (bits m f).length = m := by simp [bits]
theorem bits_get {m : Nat} {f : Nat → Nat} {k : Nat} (h : k < m) : (bits m f)[k]? = some (decide (k < f k)) := by simp [bits, h]
theorem enc_bits {n : Nat} {fd : List Nat} (A : ArcsL n fd) : enc (bits (2 * n) (at' fd)) = wcs (zs fd) := by
  unfold enc bits wcs
  rw [List.map_map, len_zs, A.len]
  apply List.map_congr_left
  intro k _
  show (if decide (k < at' fd k) = true then 40 else 41) = _
  rw [g_zs]
  by_cases c : k < at' fd k
  · rw [if_pos (decide_eq_true c), if_pos (by omega)]
  · rw [if_neg (fun z => c (of_decide_eq_true z)), if_neg (by omega)]
theorem enc_inj : ∀ {a b : List Bool}, enc a = enc b → a = b
  | [], [], _ => rfl
  | [], _ :: _, h => by cases h
  | _ :: _, [], h => by cases h
  | x :: a, y :: b, h => by
    have h1 : (if x then 40 else 41 : Nat) = (if y then 40 else 41) := (List.cons.inj h).1
    have h2 := enc_inj (a := a) (b := b) (List.cons.inj h).2
    rw [h2]
    congr 1
    cases x <;> cases y <;> first | rfl | (exact absurd h1 (by decide))
/-- from a place on -/
theorem okw_from {s : List Int} (G : Good s) : ∀ (j k : Nat), k + j = s.length → okw (opens s k).length ((bits s.length (fun i => (g s i).toNat)).drop k)
  | 0, k, h => by
    have : k = s.length := by omega
    subst this
    rw [opens_end G, List.drop_of_length_le (by rw [bits_len]; exact Nat.le_refl _)]
    rfl
  | j + 1, k, h => by
    have ih := okw_from G j (k + 1) (by omega)
    have hk : k < s.length := by omega
    have st := good_stage G k (by omega)
    have ok := G.2.1 k hk
    have hc : (bits s.length (fun i => (g s i).toNat)).drop k = decide (k < (g s k).toNat) :: (bits s.length (fun i => (g s i).toNat)).drop (k + 1) := by
      rw [List.drop_eq_getElem_cons (by rw [bits_len]; exact hk)]
      congr 1
      simp [bits]
    rw [hc]
    by_cases e : (k : Int) < g s k
    · rw [decide_eq_true (by omega)]
      show okw ((opens s k).length + 1) _
      rw [opens_push st e, List.length_append, List.length_singleton] at ih
      exact ih
    · rw [decide_eq_false (by omega)]
      have e5 : g s k < (k : Int) := by have := ok.2.2.1; omega
      obtain ⟨l, t, eo, ht⟩ := good_top G hk e5
      rw [opens_pop st ok e5 eo ht] at ih
      rw [eo]
      refine ⟨by simp, ?_⟩
      rw [List.length_append, List.length_singleton, Nat.add_sub_cancel]
      exact ih
theorem arcs_okw {n : Nat} {fd : List Nat} (A : ArcsL n fd) (h1 : 1 ≤ n) (h2 : n ≤ 20) : okw 0 (bits (2 * n) (at' fd)) := by
  have G := arcs_good A h1 h2
  have h := okw_from G (2 * n) 0 (by rw [len_zs, A.len]; omega)
  rw [opens0, List.drop_zero, len_zs, A.len] at h
  have e : (fun i => (g (zs fd) i).toNat) = at' fd := by
    funext i
    rw [g_zs, Int.toNat_natCast]
  rw [e] at h
  exact h
theorem bld_all {m : Nat} : ∀ (cs : List Bool) (k : Nat) (fd st : List Nat), Bld m k fd st → okw st.length cs → k + cs.length = m →
    ∃ fd', Bld m m fd' [] ∧ (∀ j, j < k → (j < at' fd' j ↔ (j ∈ st ∨ j < at' fd j))) ∧ ∀ i, ∀ hi : i < cs.length, (k + i < at' fd' (k + i) ↔ cs[i] = true)
  | [], k, fd, st, B, h, hk => by
    have e0 : st = [] := List.length_eq_zero_iff.mp h
    subst e0
    have : k = m := by simpa using hk
    subst this
    exact ⟨fd, B, fun j _ => by simp, fun i hi => absurd hi (Nat.not_lt_zero _)⟩
  | true :: r, k, fd, st, B, h, hk => by
    rw [List.length_cons] at hk
    obtain ⟨fd', B', h1, h2⟩ := bld_all r (k + 1) fd (st ++ [k]) (bld_push B (by omega)) (by rw [List.length_append]; exact h) (by omega)
    refine ⟨fd', B', fun j hj => ?_, fun i hi => ?_⟩
    · rw [h1 j (by omega)]
      simp [show j ≠ k by omega]
    · cases i with
      | zero =>
        have := (h1 k (by omega)).mpr (.inl (by simp))
        simpa using this
      | succ i =>
        have := h2 i (by simpa using hi)
        rw [show k + (i + 1) = k + 1 + i by omega]
        simpa using this
  | false :: r, k, fd, st, B, h, hk => by
    rw [List.length_cons] at hk
    obtain ⟨l, t, rfl⟩ : ∃ l t, st = l ++ [t] := by
      rcases List.eq_nil_or_concat st with e | ⟨l, t, e⟩
      · have := h.1
        rw [e] at this
        exact absurd this (Nat.lt_irrefl 0)
      · exact ⟨l, t, by rw [e, List.concat_eq_append]⟩
    have htk : t < k := B.slt t (by simp)
    have hl := B.len
    obtain ⟨fd', B', h1, h2⟩ := bld_all r (k + 1) ((fd.set k t).set t k) l (bld_pop B (by omega)) (by have := h.2; rw [List.length_append, List.length_singleton, Nat.add_sub_cancel] at this; exact this) (by omega)
    have ha : ∀ j, at' ((fd.set k t).set t k) j = if j = t then k else if j = k then t else at' fd j := fun j => by
      rw [at_set (by rw [List.length_set]; omega), at_set (by omega)]
    refine ⟨fd', B', fun j hj => ?_, fun i hi => ?_⟩
    · rw [h1 j (by omega), ha]
      by_cases e : j = t
      · subst e
        rw [if_pos rfl]
        simp [htk]
      · rw [if_neg e, if_neg (by omega)]
        simp [e]
    · cases i with
      | zero =>
        have h3 := h1 k (by omega)
        rw [ha, if_neg (by omega), if_pos rfl] at h3
        have h4 : ¬ k < at' fd' k := fun z => by
          rcases h3.mp z with q | q
          · have := B.slt k (by simp [q]); omega
          · omega
        simpa using h4
      | succ i =>
        have := h2 i (by simpa using hi)
        rw [show k + (i + 1) = k + 1 + i by omega]
        simpa using this
/-- each word of as many signs of both kinds has its arcs -/
theorem arcs_of_word {n : Nat} {cs : List Bool} (h : okw 0 cs) (hl : cs.length = 2 * n) : ∃ fd, ArcsL n fd ∧ bits (2 * n) (at' fd) = cs := by
  obtain ⟨fd, B, _, h2⟩ := bld_all (m := 2 * n) cs 0 (List.replicate (2 * n) 0) [] (bld0 _ _ List.length_replicate) h (by omega)
  refine ⟨fd, bld_arcs B, ?_⟩
  apply List.ext_getElem
  · rw [bits_len, hl]
  · intro i h3 h4
    have := h2 i h4
    simp at this
    simp [bits]
    by_cases c : cs[i] = true
    · rw [c]; simpa using this.mpr c
    · have c2 : cs[i] = false := by simpa using c
      rw [c2]
      simpa using fun z => c (this.mp z)
end Rm
namespace Rm
theorem cat_small {n j : Nat} (h : n ≤ 20) : at' (catL n) j < 2 ^ 40 := by
  have hc : (List.range 21).all (fun k => (fastCat k).all (fun x => decide (x < 2 ^ 40))) = true := by decide +kernel
  have h1 := List.all_eq_true.mp hc n (List.mem_range.mpr (by omega))
  rw [fastCat_eq] at h1
  unfold at'
  rw [List.getD_eq_getElem?_getD]
  cases e : (catL n)[j]? with
  | none => exact Nat.two_pow_pos 40
  | some x => exact of_decide_eq_true (List.all_eq_true.mp h1 x (List.mem_of_getElem? e))
theorem catL_succ (k : Nat) : catL (k + 1) = catL k ++ [((List.range (k + 1)).map fun j => at' (catL k) j * at' (catL k) (k - j)).sum] := rfl
end Rm

namespace Rv
open PySem PySem.Spec PyProof.Rows L2
open Rm (zs at')
def topS (i : Nat) : Stmt := PySem.Challenge.pw_riverloops_k05_whole_numbers_there_and_b.main.body.getD i (.Pass ⟨0, 0, 0, 0⟩)
structure Blt (mg : Str → Option Value) : Prop where
  len_ : mg "len" = none
  range_ : mg "range" = none
  isinstance_ : mg "isinstance" = none
  int_ : mg "int" = none
  bool_ : mg "bool" = none
  list_ : mg "list" = none
  str_ : mg "str" = none
  reversed_ : mg "reversed" = none
  min_ : mg "min" = none
  max_ : mg "max" = none
  abs_ : mg "abs" = none
  sum_ : mg "sum" = none
  set_ : mg "set" = none
  tuple_ : mg "tuple" = none
/-! ### common words of the walks -/
theorem hu64 {A : Around} {k : Nat} (hr : Room k A) : A.units + 64 < cLine := hr.units
/-- a def of the text: where it stands, what name it has -/
structure Dfn (K : PySem.W.Frag) (mg : Str → Option Value) (x : Str) (st : Stmt) (ps : List Str) : Prop where
  ex : ∃ (f : Addr) (fd : FuncData), Fun K x x st f fd ∧ mg x = some (.ref f) ∧ Binds K fd ps []
/-- a def that may be called by its name, and what it is worth; nothing leaves it -/
structure Cal (P : Program) (w : World) (K : PySem.W.Frag) (mg : Str → Option Value) (base : Heap) (k : Nat) (x : Str) (sp : Sp) : Prop where
  ex : ∃ (f : Addr) (fd : FuncData) (ps : List Str), FnOk P w K mg base CX0 k f fd ps sp ∧ mg x = some (.ref f) ∧ PySem.W.keepIn K (.ref f) = true ∧ Binds K fd ps []
theorem pe_c {X : Cx} {x : Str} {p pos : Pos} {e : Expr} {es : List Expr} {t : TA} {sp : Sp} {j k : Nat} (c : Cal X.prog X.w X.K X.mg X.base k x sp) (hr : Room j X.A) (hk : k ≤ j) (hg : Gl X x) (ha : PA X (e :: es) t)
    (hdb : (x == ("__debug__" : Str)) = false := by decide) (he : starEach (e :: es) X.env = (false, eval e X.env) :: starEach es X.env := by rfl) (hpl : (backTo pos (starEach es X.env)).any (·.1) = false := by rfl) :
    PE X (.Call (.Name x p) (e :: es) [] pos) (tCall sp [] E0 t) := by
  obtain ⟨f, fd, ps, F, hm, kp, b⟩ := c.ex
  exact pe_call F (hr.mono hk) hg hm kp b .nil pass0 ha hdb he hpl
section
variable {P : Program} {w : World} {K : PySem.W.Frag} {mg : Str → Option Value} {base : Heap}
theorem Dfn.cal {x : Str} {st : Stmt} {N ps : List Str} {k : Nat} {sp : Sp} (D : Dfn K mg x st ps) (S : FnScope N ps (defScope st)) (len : ∀ vs H Q E, sp vs H Q E → vs.length = ps.length)
    (hbody : ∀ (f : Addr) (cdv : Value) (A : Around) (outer : List Env) (s : Shared) (H : Hp) (vs : List V) (Q : VK) (E : XK), Room k (A.deeper (envOfC x (defScope st) s.heap.objs.size f cdv)) → sp vs H Q E →
      ∃ t, PSs (cxOf CX0 P w K mg base N x (defScope st) f cdv A outer s H E).nox (defBody st) t ∧ t { nx := fun _ H' => Q .non H', rt := Q } (start N vs) H) : Cal P w K mg base (k + 1) x sp := by
  obtain ⟨f, fd, F, hm, b⟩ := D.ex
  exact ⟨f, fd, ps, F.ok S len (fun cdv A outer s H vs Q E hr h => hbody f cdv A outer s H vs Q E hr h), hm, F.kp, b⟩
theorem cal_imp {x : Str} {k : Nat} {sp sp' : Sp} (c : Cal P w K mg base k x sp) (h : ∀ vs H Q E, sp' vs H Q E → sp vs H Q E) : Cal P w K mg base k x sp' := by
  obtain ⟨f, fd, ps, F, a, b, d⟩ := c.ex
  exact ⟨f, fd, ps, F.imp h, a, b, d⟩
theorem cal_mono {x : Str} {j k : Nat} {sp : Sp} (c : Cal P w K mg base j x sp) (h : j ≤ k) : Cal P w K mg base k x sp := by
  obtain ⟨f, fd, ps, F, a, b, d⟩ := c.ex
  exact ⟨f, fd, ps, F.mono h, a, b, d⟩
end
/-! heaps -/
theorem same_new {H : Hp} {p : Addr} {o : HO} (h : H p = none) : Same H (upd H p o) := fun b x e => by
  rw [upd_ne (ne_of_none e h)]
  exact e
/-- a store to an object that H did not hold -/
theorem same_upd {H H' : Hp} {p : Addr} {o : HO} (sm : Same H H') (h : H p = none) : Same H (upd H' p o) := fun b x e => by
  rw [upd_ne (ne_of_none e h)]
  exact sm b x e
theorem sqL {K : PySem.W.Frag} {H : Hp} {p : Addr} {xs : List V} (h : H p = some (.lst xs)) : SqL K H p xs := .inl (.inl h)
theorem sqT {K : PySem.W.Frag} {H : Hp} {p : Addr} {xs : List V} (h : H p = some (.tup xs)) : SqT K H p xs := .inl (.inl h)
theorem small63 {n : Nat} (h : n ≤ 100000) : n < sizeLine := Nat.lt_of_le_of_lt h (by decide)
theorem small63' {n : Nat} (h : n ≤ 100000) : n ≤ sizeLine := Nat.le_of_lt (small63 h)
/-! lists -/
abbrev vi (s : List Int) : List V := s.map V.int
abbrev vn (a : List Nat) : List V := vi (zs a)
theorem vi_get {s : List Int} {k : Nat} (h : k < s.length) : (vi s)[k]? = some (.int (Rm.g s k)) := by
  rw [List.getElem?_map, List.getElem?_eq_getElem h]
  simp [Rm.g, List.getD_eq_getElem?_getD, h]
theorem vi_at {s : List Int} {k : Nat} {z : Int} (h : k < s.length) (e : z = (k : Int)) : atI (vi s) z = some (.int (Rm.g s k)) := at_of e (vi_get h)
theorem vi_append (s t : List Int) : vi s ++ vi t = vi (s ++ t) := (List.map_append).symm
theorem zs_append (s t : List Nat) : zs s ++ zs t = zs (s ++ t) := (List.map_append).symm
theorem vn_push (s : List Nat) (k : Nat) : vn s ++ [V.int (k : Int)] = vn (s ++ [k]) := by simp [vn, vi, zs]
theorem vn_last (s : List Nat) (k : Nat) : (vn (s ++ [k]))[(vn (s ++ [k])).length - 1]? = some (.int (k : Int)) := by simp [vn, vi, zs]
theorem vn_drop (s : List Nat) (k : Nat) : (vn (s ++ [k])).dropLast = vn s := by simp [vn, vi, zs]
theorem vn_len (s : List Nat) : (vn s).length = s.length := by simp [vn, vi, zs]
/-! tests that are decided -/
theorem dn {p : Prop} [Decidable p] (h : ¬ decide p = true) : ¬ p := fun z => h (decide_eq_true z)
theorem nd {p : Prop} [Decidable p] (h : ¬ (!decide p) = true) : p := by
  by_cases q : p
  · exact q
  · rw [decide_eq_false q] at h; exact absurd rfl h
theorem nt {p : Prop} [Decidable p] (h : (!decide p) = true) : ¬ p := fun z => by
  rw [decide_eq_true z] at h; exact nomatch h
theorem ixN_nat {n k : Nat} (h : k < n) : ixN n (k : Int) = some k := by
  unfold ixN
  rw [if_pos (by omega), if_pos (by omega), Int.toNat_natCast]
theorem ixN_of {n k : Nat} {z : Int} (e : z = (k : Int)) (h : k < n) : ixN n z = some k := by rw [e]; exact ixN_nat h
theorem vn_set (s : List Nat) (k t : Nat) : (vn s).set k (V.int (t : Int)) = vn (s.set k t) := by simp [vn, vi, zs, List.map_set]
theorem vi_set (s : List Int) (k : Nat) (t : Int) : (vi s).set k (V.int t) = vi (s.set k t) := by simp [vi, List.map_set]
theorem rep1 {α : Type} (x : α) : ∀ n : Nat, (List.replicate n [x]).flatten = List.replicate n x
  | 0 => rfl
  | n + 1 => by rw [List.replicate_succ, List.flatten_cons, rep1 x n, List.replicate_succ]; rfl
theorem vn_rep (n : Nat) : List.replicate n (V.int 0) = vn (List.replicate n 0) := by simp [vn, vi, zs]
theorem zs_g (a : List Nat) (k : Nat) : Rm.g (zs a) k = ((at' a k : Nat) : Int) := by
  simp only [Rm.g, at', zs, List.getD_eq_getElem?_getD, List.getElem?_map]
  cases a[k]? <;> simp
theorem vn_at {a : List Nat} {k : Nat} {z : Int} (h : k < a.length) (e : z = (k : Int)) : atI (vn a) z = some (.int ((at' a k : Nat) : Int)) := by
  have := vi_at (s := zs a) (by simpa using h) e
  rw [zs_g] at this
  exact this
theorem vn_get {a : List Nat} {k : Nat} (h : k < a.length) : (vn a)[k]? = some (.int ((at' a k : Nat) : Int)) := by
  have := vi_get (s := zs a) (k := k) (by simpa using h)
  rw [zs_g] at this
  exact this
/-! texts by their signs -/
def tx (cs : List Nat) : Str := ⟨cs.toArray⟩
theorem tx_len (cs : List Nat) : (tx cs).length = cs.length := by simp [tx, Str.length]
theorem tx_lp : (("(" : String) : Str) = tx [40] := by decide +kernel
theorem tx_rp : ((")" : String) : Str) = tx [41] := by decide +kernel
theorem tx_nil : (("" : String) : Str) = tx [] := by decide +kernel
theorem tx_app (a b : List Nat) : tx a ++ tx b = tx (a ++ b) := by
  show Str.append (tx a) (tx b) = _
  simp [tx, Str.append]
theorem tx_inj {a b : List Nat} (h : tx a = tx b) : a = b := by
  have := congrArg (fun s : Str => s.cps.toList) h
  simpa [tx] using this
theorem tx_join : ∀ l : List Nat, Str.join (tx []) (l.map fun c => tx [c]) = tx l
  | [] => rfl
  | [c] => rfl
  | c :: d :: r => by
    have h := tx_join (d :: r)
    show tx [c] ++ tx [] ++ Str.join (tx []) ((d :: r).map fun c => tx [c]) = _
    rw [h, tx_app, tx_app]
    rfl
theorem tx_get {cs : List Nat} {k c : Nat} (h : cs[k]? = some c) : (tx cs).cps[k]? = some c := by simpa [tx] using h
/-! lists of ints as data -/
theorem dp_vi {K : PySem.W.Frag} {H : Hp} : ∀ s : List Int, DpAll K H (vi s) (s.map PyData.int)
  | [] => .nil
  | x :: r => .cons (.int x) (dp_vi r)
theorem rEq_ints {K : PySem.W.Frag} {H : Hp} {a b : Addr} {s t : List Int} {Q : VK} (ha : SqL K H a (vi s)) (hb : SqL K H b (vi t)) (q : Q (.bl (decide (s = t))) H) : rEqD K (.ref a) (.ref b) H Q := by
  refine ⟨_, _, .lst ha (dp_vi s), .lst hb (dp_vi t), PySem.W.ke_shaped_ints s, PySem.W.ke_shaped_ints t, ?_⟩
  rw [PyData.eqv, PySem.W.ked_eqvAll]
  exact q
theorem rNe_ints {K : PySem.W.Frag} {H : Hp} {a b : Addr} {s t : List Int} {Q : VK} (ha : SqL K H a (vi s)) (hb : SqL K H b (vi t)) (q : Q (.bl (!decide (s = t))) H) : rNeD K (.ref a) (.ref b) H Q := by
  refine ⟨_, _, .lst ha (dp_vi s), .lst hb (dp_vi t), PySem.W.ke_shaped_ints s, PySem.W.ke_shaped_ints t, ?_⟩
  rw [PyData.eqv, PySem.W.ked_eqvAll]
  exact q
/-! ways that meet: G is found at the first use -/
theorem joinC {α : Type} {C G : α → Prop} {goal : Prop} (h : (∀ x, C x → G x) → goal) (hG : ∀ x, C x → G x) : goal := h hG
def rLenK (K : PySem.W.Frag) : List V → Hp → VK → Prop := fun xs H Q => ∃ p ys, xs = [.ref p] ∧ (SqL K H p ys ∨ SqT K H p ys) ∧ Q (.int ((ys.length : Nat) : Int)) H
/-! a chain of three comparisons as a test -/
def tChain3 (r r' r'' : R2) (ta tb tc td : TE) : TE := fun σ H Q => ta σ H fun x H1 => tb σ H1 fun y H2 => r x y H2 fun z H3 => ∃ k, z = .bl k ∧ (if k = true then tc σ H3 fun u H4 => r' y u H4 fun z' H5 => ∃ k', z' = .bl k' ∧ (if k' = true then td σ H5 fun v H6 => r'' u v H6 Q else Q (.bl false) H5) else Q (.bl false) H3)
theorem pt_chain3 {X : Cx} {a b c d : Expr} {pos : Pos} {ta tb tc td : TE} {op op' op'' : CmpOp} {r r' r'' : R2} (ho : OpR X (compareOp op) r) (ho' : OpR X (compareOp op') r') (ho'' : OpR X (compareOp op'') r'') (ha : PE X a ta) (hb : PE X b tb) (hc : PE X c tc) (hd : PE X d td)
    (hm : lastMarks [op, op', op''] [b, c, d] = false := by with_unfolding_all rfl) : PT X (.Compare a [op, op', op''] [b, c, d] pos) (tTest (tChain3 r r' r'' ta tb tc td)) := by
  refine ⟨fun pins s σ H Q I h => ?_⟩
  refine isTrue_chain (thn (ha.run pins s σ H _ I h) fun v s1 ⟨x, H1, I1, r1, q1⟩ => test_link (thn (hb.run pins s1 σ H1 _ I1 q1) fun u s2 ⟨y, H2, I2, r2, q2⟩ =>
    thn (ho pins s2 σ H2 x y v u _ I2 r1 r2 q2) fun d1 s3 ⟨z, H3, I3, r3, k, e, q3⟩ => ?_)) hm
  subst e
  cases r3
  refine wpAny_truthy_bool ?_
  cases k with
  | false =>
    obtain ⟨k', e', q'⟩ := q3
    cases e'
    exact ite_ff ⟨H3, I3, q'⟩
  | true =>
    refine ite_tt (test_link (thn (hc.run pins s3 σ H3 _ I3 q3) fun w' s4 ⟨z', H4, I4, r4, q4⟩ =>
      thn (ho' pins s4 σ H4 y z' u w' _ I4 r2 r4 q4) fun d2 s5 ⟨z5, H5, I5, r5, k5, e5, q5⟩ => ?_))
    subst e5
    cases r5
    refine wpAny_truthy_bool ?_
    cases k5 with
    | false =>
      obtain ⟨k', e', q'⟩ := q5
      cases e'
      exact ite_ff ⟨H5, I5, q'⟩
    | true =>
      refine ite_tt (test_last (thn (hd.run pins s5 σ H5 _ I5 q5) fun w6 s6 ⟨z6, H6, I6, r6, q6⟩ => thn (ho'' pins s6 σ H6 z' z6 w' w6 _ I6 r4 r6 q6) fun d3 s7 ⟨z7, H7, I7, r7, k7, e7, q7⟩ => ?_))
      subst e7
      cases r7
      exact wpAny_truthy_bool ⟨H7, I7, q7⟩
/-! a new list is handed back, all else stays -/
def NewL (H : Hp) (Q : VK) (l : List Nat) : Prop := ∀ H' p, Same H H' → H p = none → H' p = some (.lst (vn l)) → Q (.ref p) H'
theorem vn_take (l : List Nat) (i : Nat) (c : Nat) (h : l[i]? = some c) : vn (l.take i) ++ [V.int (c : Int)] = vn (l.take (i + 1)) := by
  rw [vn_push, List.take_add_one, h]
  rfl
theorem vn_full {l : List Nat} {m : Nat} (h : l.length = m) : l.take m = l := List.take_of_length_le (by omega)
theorem size_of {z : Int} (m : Int) (h : 0 < m) (h20 : m ≤ 20) : ∃ n : Nat, 1 + z.fmod m = (n : Int) ∧ 1 ≤ n ∧ (n : Int) ≤ m := by
  have h0 := Int.fmod_nonneg_of_pos z h
  have h1 := Int.fmod_lt_of_pos z h
  exact ⟨(1 + z.fmod m).toNat, by omega, by omega, by omega⟩
/-! nested data -/
theorem dEq {K : PySem.W.Frag} {H : Hp} {α : Type} [DecidableEq α] [PySem.W.Datum α] {x y : V} {c d : α} {Q : VK} (hx : Dp K H x (PySem.W.Datum.toD c)) (hy : Dp K H y (PySem.W.Datum.toD d))
    (sx : SeqAt.shaped (PySem.W.Datum.toD c) = true) (sy : SeqAt.shaped (PySem.W.Datum.toD d) = true) (q : Q (.bl (decide (c = d))) H) : rEqD K x y H Q := ⟨_, _, hx, hy, sx, sy, by rw [PySem.W.Datum.eqv]; exact q⟩
theorem dNe {K : PySem.W.Frag} {H : Hp} {α : Type} [DecidableEq α] [PySem.W.Datum α] {x y : V} {c d : α} {Q : VK} (hx : Dp K H x (PySem.W.Datum.toD c)) (hy : Dp K H y (PySem.W.Datum.toD d))
    (sx : SeqAt.shaped (PySem.W.Datum.toD c) = true) (sy : SeqAt.shaped (PySem.W.Datum.toD d) = true) (q : Q (.bl (!decide (c = d))) H) : rNeD K x y H Q := ⟨_, _, hx, hy, sx, sy, by rw [PySem.W.Datum.eqv]; exact q⟩
/-- a list of lists of ints: the addresses and what they hold -/
def AllL (K : PySem.W.Frag) (H : Hp) : List V → List (List Int) → Prop
  | [], [] => True
  | .ref p :: r, s :: t => SqL K H p (vi s) ∧ AllL K H r t
  | _, _ => False
theorem AllL.dp {K : PySem.W.Frag} {H : Hp} : ∀ {xs : List V} {ss : List (List Int)}, AllL K H xs ss → DpAll K H xs (ss.map PySem.W.Datum.toD)
  | [], [], _ => .nil
  | [], _ :: _, h => h.elim
  | .ref p :: r, s :: t, h => .cons (.lst h.1 (dp_vi s)) (AllL.dp h.2)
  | .ref _ :: _, [], h => by cases h
  | .non :: _, _, h => by cases h
  | .bl _ :: _, _, h => by cases h
  | .int _ :: _, _, h => by cases h
  | .str _ :: _, _, h => by cases h
  | .byt _ :: _, _, h => by cases h
  | .flt _ :: _, _, h => by cases h
  | .ty _ :: _, _, h => by cases h
theorem AllL.same {K : PySem.W.Frag} {H H' : Hp} (sm : Same H H') : ∀ {xs : List V} {ss : List (List Int)}, AllL K H xs ss → AllL K H' xs ss
  | [], [], _ => True.intro
  | [], _ :: _, h => h.elim
  | .ref p :: r, s :: t, h => ⟨sm.seq h.1, AllL.same sm h.2⟩
  | .ref _ :: _, [], h => by cases h
  | .non :: _, _, h => by cases h
  | .bl _ :: _, _, h => by cases h
  | .int _ :: _, _, h => by cases h
  | .str _ :: _, _, h => by cases h
  | .byt _ :: _, _, h => by cases h
  | .flt _ :: _, _, h => by cases h
  | .ty _ :: _, _, h => by cases h
theorem canLayAll_ll : ∀ ss : List (List Int), PyData.canLayAll0 (ss.map PySem.W.Datum.toD) = true
  | [] => rfl
  | s :: r => by
    rw [List.map_cons, PyData.canLayAll0, canLayAll_ll r, Bool.and_true]
    show PyData.canLay0 (.list (s.map PyData.int)) = true
    rw [PyData.canLay0]
    exact PySem.W.ke_canLayAll0 s
theorem depthAll_ll : ∀ ss : List (List Int), PyData.depthAll (ss.map PySem.W.Datum.toD) ≤ 1
  | [] => Nat.zero_le _
  | s :: r => by
    rw [List.map_cons, PyData.depthAll]
    refine Nat.max_le.mpr ⟨?_, depthAll_ll r⟩
    show PyData.depth (.list (s.map PyData.int)) ≤ 1
    rw [PyData.depth, PySem.W.ke_depthAll]
    exact Nat.le_refl _
theorem shaped_ll (ss : List (List Int)) : SeqAt.shaped (PySem.W.Datum.toD ss) = true := by
  show (PyData.canLay0 (.list (ss.map PySem.W.Datum.toD)) && decide (PyData.depth (.list (ss.map PySem.W.Datum.toD)) ≤ 64)) = true
  rw [PyData.canLay0, canLayAll_ll, Bool.true_and, decide_eq_true_eq, PyData.depth]
  have := depthAll_ll ss
  omega
theorem rEq_ll {K : PySem.W.Frag} {H : Hp} {a b : Addr} {xs ys : List V} {s t : List (List Int)} {Q : VK} (ha : SqL K H a xs) (hb : SqL K H b ys) (hs : AllL K H xs s) (ht : AllL K H ys t) (q : Q (.bl (decide (s = t))) H) : rEqD K (.ref a) (.ref b) H Q :=
  dEq (.lst ha hs.dp) (.lst hb ht.dp) (shaped_ll s) (shaped_ll t) q
theorem rNe_ll {K : PySem.W.Frag} {H : Hp} {a b : Addr} {xs ys : List V} {s t : List (List Int)} {Q : VK} (ha : SqL K H a xs) (hb : SqL K H b ys) (hs : AllL K H xs s) (ht : AllL K H ys t) (q : Q (.bl (!decide (s = t))) H) : rNeD K (.ref a) (.ref b) H Q :=
  dNe (.lst ha hs.dp) (.lst hb ht.dp) (shaped_ll s) (shaped_ll t) q
def spLaw (K : PySem.W.Frag) : Sp := fun vs H Q _ => ∃ (a : Addr) (ns : List Int), vs = [.ref a] ∧ SqL K H a (vi ns) ∧ ns.length ≤ 63 ∧ ∀ H', Q (.bl true) H'
/-! all but some stay -/
def Sx (X : List Addr) (H H' : Hp) : Prop := ∀ b o, b ∉ X → H b = some o → H' b = some o
theorem Sx.refl (X : List Addr) (H : Hp) : Sx X H H := fun _ _ _ h => h
theorem Sx.trans {X : List Addr} {H H1 H2 : Hp} (s : Sx X H H1) (t : Sx X H1 H2) : Sx X H H2 := fun b o hb h => t b o hb (s b o hb h)
theorem Sx.of {X : List Addr} {H H' : Hp} (s : Same H H') : Sx X H H' := fun b o _ h => s b o h
theorem Sx.upd {X : List Addr} {H H' : Hp} {p : Addr} {o : HO} (s : Sx X H H') (hp : p ∈ X) : Sx X H (upd H' p o) := fun b u hb h => by
  rw [upd_ne (fun e => hb (by rw [e]; exact hp))]
  exact s b u hb h
theorem Sx.same {X : List Addr} {H0 H H' : Hp} (s : Sx X H H') (h0 : Same H0 H) (hX : ∀ x, x ∈ X → H0 x = none) : Same H0 H' := fun b o h => s b o (fun hb => by rw [hX b hb] at h; cases h) (h0 b o h)
/-! lists of lists -/
abbrev vr (rs : List Addr) : List V := rs.map V.ref
def HL (H : Hp) (rs : List Addr) (F : List (List Nat)) : Prop := rs.length = F.length ∧ ∀ (i : Nat) (r : Addr) (l : List Nat), rs[i]? = some r → F[i]? = some l → H r = some (.lst (vn l))
theorem HL.nil (H : Hp) : HL H [] [] := ⟨rfl, fun i r l h => by simp at h⟩
theorem HL.same {H H' : Hp} {rs : List Addr} {F : List (List Nat)} (h : HL H rs F) (s : Same H H') : HL H' rs F := ⟨h.1, fun i r l h1 h2 => s _ _ (h.2 i r l h1 h2)⟩
theorem HL.sx {X : List Addr} {H H' : Hp} {rs : List Addr} {F : List (List Nat)} (h : HL H rs F) (s : Sx X H H') (hX : ∀ x, x ∈ X → x ∉ rs) : HL H' rs F :=
  ⟨h.1, fun i r l h1 h2 => s _ _ (fun hm => hX r hm (List.mem_of_getElem? h1)) (h.2 i r l h1 h2)⟩
theorem HL.snoc {H : Hp} {rs : List Addr} {F : List (List Nat)} {r : Addr} {l : List Nat} (h : HL H rs F) (hr : H r = some (.lst (vn l))) : HL H (rs ++ [r]) (F ++ [l]) := by
  refine ⟨by simp [h.1], fun i r' l' h1 h2 => ?_⟩
  by_cases c : i < rs.length
  · rw [List.getElem?_append_left c] at h1
    rw [List.getElem?_append_left (by rw [← h.1]; exact c)] at h2
    exact h.2 i r' l' h1 h2
  · by_cases e : i = rs.length
    · subst e
      rw [List.getElem?_append_right (Nat.le_refl _)] at h1
      rw [List.getElem?_append_right (by rw [h.1]; exact Nat.le_refl _), h.1] at h2
      simp at h1 h2
      rw [← h1, ← h2]
      exact hr
    · rw [List.getElem?_eq_none (by simp; omega)] at h1
      cases h1
theorem HL.allL {K : PySem.W.Frag} {H : Hp} : ∀ {rs : List Addr} {F : List (List Nat)}, HL H rs F → AllL K H (vr rs) (F.map zs)
  | [], [], _ => True.intro
  | [], _ :: _, h => by cases h.1
  | _ :: _, [], h => by cases h.1
  | r :: rs, l :: F, h => ⟨sqL (h.2 0 r l rfl rfl), HL.allL ⟨by have := h.1; simp at this; exact this, fun i r' l' h1 h2 => h.2 (i + 1) r' l' h1 h2⟩⟩
def NewLL (H : Hp) (Q : VK) (F : List (List Nat)) : Prop := ∀ H' p rs, Same H H' → H p = none → H' p = some (.lst (vr rs)) → HL H' rs F → rs.Nodup → p ∉ rs → (∀ r, r ∈ rs → H r = none) → Q (.ref p) H'
/-! a dict as a set of places -/
def kvsOf (l : List Nat) : List (Key × V) := l.map fun k : Nat => (Sum.inl (k : Int), V.bl true)
theorem kvs_len (l : List Nat) : (kvsOf l).length = l.length := List.length_map _
theorem kvs_get : ∀ (l : List Nat) (k : Nat), (valV (kvsOf l) (Sum.inl (k : Int) : Key)).isSome = decide (k ∈ l)
  | [], k => by simp [kvsOf, valV]
  | x :: r, k => by
    show (valV (((Sum.inl (x : Int) : Key), V.bl true) :: kvsOf r) (Sum.inl (k : Int) : Key)).isSome = _
    by_cases e : x = k
    · subst e
      rw [valV_pos rfl]
      simp
    · rw [valV_neg (fun z => e (by have := Sum.inl.inj z; omega)), kvs_get r k]
      simp [show ¬ k = x from fun z => e z.symm]
theorem kvs_put {l : List Nat} {k : Nat} (h : k ∉ l) : putK (kvsOf l) (Sum.inl (k : Int) : Key) (V.bl true) = kvsOf (l ++ [k]) := by
  rw [putK_new]
  · simp [kvsOf]
  · have h2 := kvs_get l k
    rw [decide_eq_false h] at h2
    cases e : valV (kvsOf l) (Sum.inl (k : Int) : Key) with
    | none => rfl
    | some v => rw [e] at h2; cases h2
theorem in_vn (l : List Nat) (k : Nat) : inV (.int (k : Int)) (vn l) = decide (k ∈ l) := by
  unfold inV
  induction l with
  | nil => rfl
  | cons x r ih =>
    show (eqV (.int (x : Int)) (.int (k : Int)) || (vn r).any fun y => eqV y (.int (k : Int))) = _
    rw [ih]
    have e : eqV (.int (x : Int)) (.int (k : Int)) = decide (k = x) := by
      show ((x : Int) == (k : Int)) = _
      by_cases c : k = x
      · subst c; simp
      · rw [decide_eq_false c, beq_eq_false_iff_ne.mpr (fun z => c (by omega))]
    rw [e]
    simp
theorem flat_vn (l : List Nat) : (vn l).all flatV = true := by
  rw [List.all_eq_true]
  intro v hv
  simp [vn, vi, zs] at hv
  obtain ⟨x, _, rfl⟩ := hv
  rfl
theorem rgV_vn (M : Nat) : rgV 0 (M : Int) = vn (List.range M) := by
  unfold rgV
  rw [show ((M : Int) - 0).toNat = M by omega]
  simp [vn, vi, zs]
theorem zs_erase : ∀ (L : List Nat) (j : Nat), (zs L).eraseIdx j = zs (L.eraseIdx j)
  | [], _ => rfl
  | _ :: _, 0 => rfl
  | x :: r, j + 1 => by
    show (x : Int) :: (zs r).eraseIdx j = (x : Int) :: zs (r.eraseIdx j)
    rw [zs_erase r j]
/-- the place of a number in a list without repeats, and the list without it -/
theorem rem_ok {L : List Nat} {x : Nat} (hn : L.Nodup) (hx : x ∈ L) : ∃ j : Nat, (zs L)[j]? = some (x : Int) ∧ (∀ m : Nat, m < j → (zs L)[m]? ≠ some (x : Int)) ∧ (zs L).eraseIdx j = zs (L.filter fun y => decide (y ≠ x)) := by
  obtain ⟨j, hj⟩ := List.mem_iff_getElem?.mp hx
  have hjl := (List.getElem?_eq_some_iff.mp hj).1
  refine ⟨j, by simp [zs, hj], fun m hm h => ?_, ?_⟩
  · have hml : m < L.length := by omega
    have h2 : L[m]? = some x := by
      simp [zs] at h
      obtain ⟨y, h3, h4⟩ := h
      rw [h3]
      congr 1
      omega
    have := nd_ix hn h2 hj
    omega
  · rw [← Rm.eraseIdx_filter L j x hn hj]
    exact zs_erase L j
theorem cut1 (xs : List V) : cutV xs (some 1) none = xs.drop 1 := by
  unfold cutV
  rw [show HT.sIx xs.length 0 (some 1) = min 1 xs.length from HT.sIx_nat xs.length 0 1, HT.sIx_none]
  cases xs with
  | nil => rfl
  | cons x r =>
    rw [show min 1 (x :: r).length = 1 by
      rw [List.length_cons]
      omega]
    show (List.take ((x :: r).length - 1) r) = r
    rw [List.length_cons, Nat.add_sub_cancel]
    exact List.take_length
theorem fdiv2 (n : Nat) : ((2 * n : Nat) : Int).fdiv 2 = (n : Int) := by
  rw [Int.fdiv_eq_ediv_of_nonneg _ (by decide)]
  omega
/-! objects of one make at some addresses -/
def HG {α : Type} (c : α → HO) (H : Hp) (rs : List Addr) (F : List α) : Prop := rs.length = F.length ∧ ∀ (i : Nat) (r : Addr) (l : α), rs[i]? = some r → F[i]? = some l → H r = some (c l)
section
variable {α : Type} {c : α → HO} {H H' : Hp} {rs : List Addr} {F : List α}
theorem HG.nil (c : α → HO) (H : Hp) : HG c H [] [] := ⟨rfl, fun i r l h => by simp at h⟩
theorem HG.same (h : HG c H rs F) (s : Same H H') : HG c H' rs F := ⟨h.1, fun i r l h1 h2 => s _ _ (h.2 i r l h1 h2)⟩
theorem HG.sx {X : List Addr} (h : HG c H rs F) (s : Sx X H H') (hX : ∀ x, x ∈ X → x ∉ rs) : HG c H' rs F :=
  ⟨h.1, fun i r l h1 h2 => s _ _ (fun hm => hX r hm (List.mem_of_getElem? h1)) (h.2 i r l h1 h2)⟩
theorem HG.snoc {r : Addr} {l : α} (h : HG c H rs F) (hr : H r = some (c l)) : HG c H (rs ++ [r]) (F ++ [l]) := by
  refine ⟨by simp [h.1], fun i r' l' h1 h2 => ?_⟩
  by_cases q : i < rs.length
  · rw [List.getElem?_append_left q] at h1
    rw [List.getElem?_append_left (by rw [← h.1]; exact q)] at h2
    exact h.2 i r' l' h1 h2
  · by_cases e : i = rs.length
    · subst e
      rw [List.getElem?_append_right (Nat.le_refl _)] at h1
      rw [List.getElem?_append_right (by rw [h.1]; exact Nat.le_refl _), h.1] at h2
      simp at h1 h2
      rw [← h1, ← h2]
      exact hr
    · rw [List.getElem?_eq_none (by simp; omega)] at h1
      cases h1
theorem HG.at (h : HG c H rs F) {i : Nat} (hi : i < F.length) : ∃ r, rs[i]? = some r ∧ H r = some (c F[i]) := by
  have : i < rs.length := by rw [h.1]; exact hi
  exact ⟨rs[i], List.getElem?_eq_getElem this, h.2 i _ _ (List.getElem?_eq_getElem this) (List.getElem?_eq_getElem hi)⟩
theorem HG.mem (h : HG c H rs F) {r : Addr} (hr : r ∈ rs) : ∃ l, H r = some (c l) := by
  obtain ⟨i, hi⟩ := List.mem_iff_getElem?.mp hr
  have h1 := (List.getElem?_eq_some_iff.mp hi).1
  have h2 : i < F.length := by rw [← h.1]; exact h1
  exact ⟨_, h.2 i r _ hi (List.getElem?_eq_getElem h2)⟩
end
theorem HL.hg {H : Hp} {rs : List Addr} {F : List (List Nat)} (h : HL H rs F) : HG (fun l => .lst (vn l)) H rs F := h

end Rv

namespace Rv
open PySem PySem.Spec PyProof.Rows L2
open Rm (zs at')
/-! ### is_arcs -/
abbrev s_is_arcs : Stmt := topS 7
theorem sc_is_arcs : FnScope ["some", "open_ones", "k"] ["some"] (defScope s_is_arcs) := ⟨rfl, rfl, rfl, by decide +kernel, rfl, by decide +kernel, by decide +kernel⟩
def spIsArcs (K : PySem.W.Frag) : Sp := fun vs H Q _ => ∃ (a : Addr) (s : List Int), vs = [.ref a] ∧ SqL K H a (vi s) ∧ s.length ≤ 1000 ∧ ∀ b H', Same H H' → (b = true ↔ Rm.Good s) → Q (.bl b) H'
section
variable {P : Program} {w : World} {K : PySem.W.Frag} {mg : Str → Option Value} {base : Heap}
theorem ok_is_arcs {tM : Tok} (D : Dfn K mg "is_arcs" s_is_arcs ["some"]) (B : Blt mg) (g_MOST : mg "MOST" = some (.int 20 tM)) : Cal P w K mg base 1 "is_arcs" (spIsArcs K) := by
  refine D.cal sc_is_arcs (fun vs H Q E h => ?_) (fun f cdv A outer s0 H vs Q E hr h => ?_)
  · obtain ⟨a, s, rfl, _⟩ := h
    rfl
  · obtain ⟨a, s, rfl, hS, hlen, q⟩ := h
    refine ⟨_, (pss_cons (ps_if (PW.pt (pw_or (pt_cmpR op_lt (pe_callB call_len_seq (by rfl) B.len_ PySem.boot_len (pa_cons (pv 0) pa_nil)) pe_int (nomark _)) (pw_or1 (pt_cmpR op_gt (pe_callB call_len_seq (by rfl) B.len_ PySem.boot_len (pa_cons (pv 0) pa_nil)) (pe_op op_mul pe_int (pe_glob (v := .int 20) (by rfl) g_MOST ⟨_, rfl⟩)) (nomark _)))))
        (pss_one (ps_ret pe_bl))
        pss_nil)
      (pss_cons (ps_set (i := 1) sc_is_arcs.nd rfl (.inl rfl) (pe_lst pa_nil))
      (pss_cons (ps_for PassesOwn.never rfl (pi_range1 (by rfl) B.range_ (pa_cons (pe_callB call_len_seq (by rfl) B.len_ PySem.boot_len (pa_cons (pv 0) pa_nil)) pa_nil)) (pg_name (i := 2) sc_is_arcs.nd rfl (.inl rfl))
        (pss_cons (ps_if (PW.pt (pw_or (pt_not (pt_chain op_le op_lt pe_int (pe_ix ix_list (pv 0) (pv 2) (fun _ _ => rfl)) (pe_callB call_len_seq (by rfl) B.len_ PySem.boot_len (pa_cons (pv 0) pa_nil)))) (pw_or (pt_cmpR op_eq (pe_ix ix_list (pv 0) (pv 2) (fun _ _ => rfl)) (pv 2) (nomark _)) (pw_or1 (pt_cmpR op_ne (pe_ix ix_list (pv 0) (pe_ix ix_list (pv 0) (pv 2) (fun _ _ => rfl)) (fun _ _ => rfl)) (pv 2) (nomark _))))))
          (pss_one (ps_ret pe_bl))
          pss_nil)
        (pss_one (ps_if (pt_cmpR op_gt (pe_ix ix_list (pv 0) (pv 2) (fun _ _ => rfl)) (pv 2) (nomark _))
          (pss_one (ps_expr (pe_bm PySem.F.plainAttrs_list PySem.F.slot_list_append PySem.F.type_list_append mt_append (pv 1) (pa_cons (pv 2) pa_nil))))
          (pss_one (ps_if (pt_cmpR op_ne (pe_bm0 PySem.F.plainAttrs_list PySem.F.slot_list_pop PySem.F.type_list_pop mt_pop (pv 1)) (pe_ix ix_list (pv 0) (pv 2) (fun _ _ => rfl)) (nomark _))
            (pss_one (ps_ret pe_bl))
            pss_nil))))))
      (pss_one (ps_ret pe_bl))))), ?_⟩
    refine ⟨.ref a, rfl, a, _, rfl, .inl hS, _, _, rfl, rfl, _, rfl, ite2 (fun e => ?_) (fun e => ?_)⟩
    · have e := of_decide_eq_true e
      rw [List.length_map] at e
      refine iteT (q false H (Same.refl H) ⟨fun z => (nomatch z), fun G => ?_⟩)
      have := G.1.1
      omega
    have e1 := of_decide_eq_false (Bool.eq_false_iff.mpr e)
    rw [List.length_map] at e1
    refine ⟨.ref a, rfl, a, _, rfl, .inl hS, _, _, rfl, rfl, .inl ⟨by decide, by decide⟩, _, _, rfl, rfl, _, rfl, ite2 (fun e => ?_) (fun e => ?_)⟩
    · have e := of_decide_eq_true e
      rw [List.length_map] at e
      refine q false H (Same.refl H) ⟨fun z => (nomatch z), fun G => ?_⟩
      have := G.1.2
      omega
    have e2 := of_decide_eq_false (Bool.eq_false_iff.mpr e)
    rw [List.length_map] at e2
    have hL : 2 ≤ s.length ∧ s.length ≤ 40 := by omega
    refine ⟨Nat.zero_le _, fun p np => ?_⟩
    refine ⟨.ref a, rfl, a, _, rfl, .inl ((same_new np).seq hS), _, rfl, by rw [List.length_map]; omega, by rw [List.length_map]; omega, ?_⟩
    rw [show ((vi s).length : Int).toNat = s.length by rw [List.length_map]; omega]
    refine for_range (lo := 0) (n := s.length) (fun i σ H' => ∃ y2, σ = [some (.ref a), some (.ref p), y2] ∧ Same H H' ∧ H' p = some (.lst (vn (Rm.opens s i))) ∧ Rm.Stage s i) ⟨none, rfl, same_new np, upd_same, Rm.stage0 s⟩ (fun i σ H' hi hP => ?_) (fun σ H' hP => ?_)
    · obtain ⟨y2, rfl, sm, hp, st⟩ := hP
      have hS' := sm.seq hS
      rw [Int.zero_add]
      have iv : atI (vi s) (i : Int) = some (.int (Rm.g s i)) := vi_at hi rfl
      have bad : ¬ Rm.OkAt s i → Q (.bl false) H' := fun h => q false H' sm ⟨fun z => (nomatch z), fun G => absurd (G.2.1 i hi) h⟩
      -- 0 <= some[k] < len(some)
      refine ⟨.ref a, rfl, .int i, rfl, a, _, _, _, rfl, rfl, hS', iv, _, _, rfl, rfl, _, rfl, ite2 (fun e1 => ?_) (fun e1 => ?_)⟩
      case refine_2 =>
        exact ⟨_, rfl, iteT (bad fun ok => e1 (decide_eq_true ok.1))⟩
      have e1 := of_decide_eq_true e1
      refine ⟨.ref a, rfl, a, _, rfl, .inl hS', _, _, rfl, rfl, _, rfl, ?_⟩
      show if (!decide (Rm.g s i < ((vi s).length : Int))) = true then _ else _
      rw [List.length_map]
      refine ite2 (fun e2 => ?_) (fun e2 => ?_)
      · refine iteT (bad fun ok => ?_)
        have := ok.2.1
        rw [decide_eq_true this] at e2
        exact nomatch e2
      have e2 : Rm.g s i < (s.length : Int) := by
        rcases Bool.eq_false_or_eq_true (decide (Rm.g s i < (s.length : Int))) with z | z
        · exact of_decide_eq_true z
        · rw [z] at e2; exact absurd rfl e2
      -- some[k] == k
      refine ⟨.ref a, rfl, .int i, rfl, a, _, _, _, rfl, rfl, hS', iv, .int i, rfl, rfl, _, rfl, ite2 (fun e3 => ?_) (fun e3 => ?_)⟩
      · exact iteT (bad fun ok => ok.2.2.1 (V.int.inj (of_decide_eq_true e3)))
      have e3 : Rm.g s i ≠ (i : Int) := fun z => e3 (decide_eq_true (congrArg V.int z))
      -- some[some[k]] != k
      have iv2 : atI (vi s) (Rm.g s i) = some (.int (Rm.g s (Rm.g s i).toNat)) := vi_at (by omega) (by omega)
      refine ⟨.ref a, rfl, .ref a, rfl, .int i, rfl, a, _, _, _, rfl, rfl, hS', iv, a, _, _, _, rfl, rfl, hS', iv2, .int i, rfl, rfl, _, rfl, ite2 (fun e4 => ?_) (fun e4 => ?_)⟩
      · refine bad fun ok => ?_
        rw [ok.2.2.2, decide_eq_true rfl] at e4
        exact nomatch e4
      have e4 : Rm.g s (Rm.g s i).toNat = (i : Int) := by
        rcases Bool.eq_false_or_eq_true (decide (V.int (Rm.g s (Rm.g s i).toNat) = V.int (i : Int))) with z | z
        · exact V.int.inj (of_decide_eq_true z)
        · rw [z] at e4; exact absurd rfl e4
      have ok : Rm.OkAt s i := ⟨e1, e2, e3, e4⟩
      -- some[k] > k
      refine ⟨.ref a, rfl, .int i, rfl, a, _, _, _, rfl, rfl, hS', iv, .int i, rfl, _, _, rfl, rfl, _, rfl, ite2 (fun e5 => ?_) (fun e5 => ?_)⟩
      · have e5 := of_decide_eq_true e5
        refine ⟨.ref p, rfl, .inl ⟨rfl, _, sqL hp⟩, .int i, rfl, p, _, _, rfl, rfl, hp, ?_, ?_⟩
        · rw [vn_len]
          exact small63 (by have := Rm.opens_len s i; omega)
        · refine ⟨_, rfl, same_upd sm np, ?_, Rm.stage_push st ok e5⟩
          rw [upd_same, vn_push, Rm.opens_push st e5]
      · have e5 : Rm.g s i < (i : Int) := by
          have : ¬ (i : Int) < Rm.g s i := fun z => e5 (decide_eq_true z)
          omega
        obtain ⟨l, t, eo⟩ := Rm.opens_ne ok e5
        rw [eo] at hp
        refine ⟨.ref p, rfl, .inl ⟨rfl, _, sqL hp⟩, p, _, _, rfl, rfl, hp, vn_last l t, ?_⟩
        have sm2 := same_upd (o := .lst (vn l)) sm np
        rw [vn_drop]
        refine ⟨.ref a, rfl, .int i, rfl, a, _, _, _, rfl, rfl, sm2.seq hS, iv, rfl, _, rfl, ite2 (fun e6 => ?_) (fun e6 => ?_)⟩
        · have e6 : (t : Int) ≠ Rm.g s i := fun z => by
            rw [z, decide_eq_true rfl] at e6
            exact nomatch e6
          exact q false _ sm2 ⟨fun z => (nomatch z), fun G => absurd G.2.2 (Rm.stage_cross st ok e5 hi eo e6)⟩
        · have e6 : (t : Int) = Rm.g s i := by
            rcases Bool.eq_false_or_eq_true (decide (V.int (t : Int) = V.int (Rm.g s i))) with z | z
            · exact V.int.inj (of_decide_eq_true z)
            · rw [z] at e6; exact absurd rfl e6
          refine ⟨_, rfl, sm2, ?_, Rm.stage_pop st ok eo e6⟩
          rw [upd_same, Rm.opens_pop st ok e5 eo e6]
    · obtain ⟨y2, rfl, sm, hp, st⟩ := hP
      exact q true H' sm ⟨fun _ => Rm.stage_good hL st, fun _ => rfl⟩
end

end Rv

namespace Rv
open PySem PySem.Spec PyProof.Rows L2
open Rm (zs at')
/-! ### ask, of arcs -/
abbrev s_ask : Stmt := topS 8
theorem sc_ask : FnScope ["arcs"] ["arcs"] (defScope s_ask) := ⟨rfl, rfl, rfl, by decide +kernel, rfl, by decide +kernel, by decide +kernel⟩
def spAsk (K : PySem.W.Frag) : Sp := fun vs H Q _ => ∃ (a : Addr) (s : List Int), vs = [.ref a] ∧ SqL K H a (vi s) ∧ Rm.Good s ∧ ∀ H', Same H H' → Q .non H'
section
variable {P : Program} {w : World} {K : PySem.W.Frag} {mg : Str → Option Value} {base : Heap}
theorem ok_ask (D : Dfn K mg "ask" s_ask ["arcs"]) (c_is_arcs : Cal P w K mg base 1 "is_arcs" (spIsArcs K)) : Cal P w K mg base 2 "ask" (spAsk K) := by
  refine D.cal sc_ask (fun vs H Q E h => ?_) (fun f cdv A outer s0 H vs Q E hr h => ?_)
  · obtain ⟨a, s, rfl, _⟩ := h
    rfl
  · obtain ⟨a, s, rfl, hS, G, q⟩ := h
    refine ⟨_, (pss_one (ps_if (pt_not (pt_val (pe_c c_is_arcs hr (by omega) (by rfl) (pa_cons (pv 0) pa_nil))))
        (pss_one (ps_never))
        pss_nil)), ?_⟩
    refine ⟨.ref a, rfl, a, s, rfl, hS, by have := G.1; omega, fun b H' sm hb => ⟨b, rfl, ?_⟩⟩
    rw [hb.mpr G]
    exact iteF (q H' sm)
end

end Rv

namespace Rv
open PySem PySem.Spec PyProof.Rows L2
open Rm (zs at')
/-! ### _law_cell_at -/
abbrev s_law_cell_at : Stmt := topS 17
theorem sc_law_cell_at : FnScope ["script", "k"] ["script", "k"] (defScope s_law_cell_at) := ⟨rfl, rfl, rfl, by decide +kernel, rfl, by decide +kernel, by decide +kernel⟩
def spCell (K : PySem.W.Frag) : Sp := fun vs H Q _ => ∃ (a : Addr) (ns : List Int) (k : Int), vs = [.ref a, .int k] ∧ SqL K H a (vi ns) ∧ 0 ≤ k ∧ ∀ c : Int, Q (.int c) H
section
variable {P : Program} {w : World} {K : PySem.W.Frag} {mg : Str → Option Value} {base : Heap}
theorem ok_law_cell_at (D : Dfn K mg "_law_cell_at" s_law_cell_at ["script", "k"]) (B : Blt mg) : Cal P w K mg base 1 "_law_cell_at" (spCell K) := by
  refine D.cal sc_law_cell_at (fun vs H Q E h => ?_) (fun f cdv A outer s0 H vs Q E hr h => ?_)
  · obtain ⟨a, ns, k, rfl, _⟩ := h
    rfl
  · obtain ⟨a, ns, k, rfl, hS, h0, q⟩ := h
    refine ⟨_, (pss_cons (ps_if (pt_cmpR op_lt (pv 1) (pe_callB call_len_seq (by rfl) B.len_ PySem.boot_len (pa_cons (pv 0) pa_nil)) (nomark _))
        (pss_one (ps_ret (pe_ix ix_list (pv 0) (pv 1) (fun _ _ => rfl))))
        pss_nil)
      (pss_one (ps_ret pe_int))), ?_⟩
    refine ⟨.int k, rfl, .ref a, rfl, a, _, rfl, .inl hS, _, _, rfl, rfl, _, rfl, ite2 (fun e => ?_) (fun e => ?_)⟩
    · have e := of_decide_eq_true e
      rw [List.length_map] at e
      exact ⟨.ref a, rfl, .int k, rfl, a, _, _, _, rfl, rfl, hS, vi_at (k := k.toNat) (by omega) (by omega), q _⟩
    · exact q 0
end

end Rv

namespace Rv
open PySem PySem.Spec PyProof.Rows L2
open Rm (zs at')
/-! ### _law_whole -/
abbrev s_law_whole : Stmt := topS 18
theorem sc_law_whole : FnScope ["found"] ["found"] (defScope s_law_whole) := ⟨rfl, rfl, rfl, by decide +kernel, rfl, by decide +kernel, by decide +kernel⟩
theorem tyInt {K : PySem.W.Frag} {H : Hp} (i : Int) : TyX K H (.int i) (.type "int") := .base (.int i)
def spWhole : Sp := fun vs H Q _ => ∃ i : Int, vs = [.int i] ∧ Q (.bl true) H
section
variable {P : Program} {w : World} {K : PySem.W.Frag} {mg : Str → Option Value} {base : Heap}
theorem ok_law_whole (D : Dfn K mg "_law_whole" s_law_whole ["found"]) (B : Blt mg) : Cal P w K mg base 1 "_law_whole" spWhole := by
  refine D.cal sc_law_whole (fun vs H Q E h => ?_) (fun f cdv A outer s0 H vs Q E hr h => ?_)
  · obtain ⟨i, rfl, _⟩ := h
    rfl
  · obtain ⟨i, rfl, q⟩ := h
    refine ⟨_, (pss_one (ps_ret (pe_and (pe_callB call_isi (by rfl) B.isinstance_ (by decide +kernel) (pa_cons (pv 0) (pa_cons (pe_bltn (v := .ty "int") (by rfl) B.int_ (by decide +kernel) rfl) pa_nil))) (pe_one (pe_not (pe_callB call_isi (by rfl) B.isinstance_ (by decide +kernel) (pa_cons (pv 0) (pa_cons (pe_bltn (v := .ty "bool") (by rfl) B.bool_ (by decide +kernel) rfl) pa_nil)))))))), ?_⟩
    refine ⟨.int i, rfl, _, _, _, _, true, rfl, .ty "int", tyInt i, kit_ty (by decide +kernel), true, rfl, iteT ?_⟩
    exact ⟨.int i, rfl, _, _, _, _, false, rfl, .ty "bool", tyInt i, kit_ty (by decide +kernel), false, rfl, q⟩
end

end Rv

namespace Rv
open PySem PySem.Spec PyProof.Rows L2
open Rm (zs at')
/-! ### _law_numbers -/
abbrev s_law_numbers : Stmt := topS 19
theorem sc_law_numbers : FnScope ["found", "due", "x"] ["found", "due"] (defScope s_law_numbers) := ⟨rfl, rfl, rfl, by decide +kernel, rfl, by decide +kernel, by decide +kernel⟩
theorem tyLst {K : PySem.W.Frag} {H : Hp} {p : Addr} {xs : List V} (h : H p = some (.lst xs)) : TyX K H (.ref p) (.type "list") := .base (.lst h)
def spNumbers (K : PySem.W.Frag) : Sp := fun vs H Q _ => ∃ (p b : Addr) (s t : List Int), vs = [.ref p, .ref b] ∧ H p = some (.lst (vi s)) ∧ SqL K H b (vi t) ∧ (s = t → Q (.bl true) H) ∧ (s ≠ t → Q (.bl false) H)
section
variable {P : Program} {w : World} {K : PySem.W.Frag} {mg : Str → Option Value} {base : Heap}
theorem ok_law_numbers (D : Dfn K mg "_law_numbers" s_law_numbers ["found", "due"]) (B : Blt mg) (c_law_whole : Cal P w K mg base 1 "_law_whole" spWhole) : Cal P w K mg base 2 "_law_numbers" (spNumbers K) := by
  refine D.cal sc_law_numbers (fun vs H Q E h => ?_) (fun f cdv A outer s0 H vs Q E hr h => ?_)
  · obtain ⟨p, b, s, t, rfl, _⟩ := h
    rfl
  · obtain ⟨p, b, s, t, rfl, hP, hT, q1, q2⟩ := h
    refine ⟨_, (pss_cons (ps_if (PW.pt (pw_or (pt_not (pt_val (pe_callB call_isi (by rfl) B.isinstance_ (by decide +kernel) (pa_cons (pv 0) (pa_cons (pe_bltn (v := .ty "list") (by rfl) B.list_ (by decide +kernel) rfl) pa_nil))))) (pw_or1 (pt_cmpR op_ne (pe_callB call_len_seq (by rfl) B.len_ PySem.boot_len (pa_cons (pv 0) pa_nil)) (pe_callB call_len_seq (by rfl) B.len_ PySem.boot_len (pa_cons (pv 1) pa_nil)) (nomark _)))))
        (pss_one (ps_ret pe_bl))
        pss_nil)
      (pss_cons (ps_for PassesOwn.never rfl (pi_list (pv 0)) (pg_name (i := 2) sc_law_numbers.nd rfl (.inl rfl))
        (pss_one (ps_if (pt_not (pt_val (pe_c c_law_whole hr (by omega) (by rfl) (pa_cons (pv 2) pa_nil))))
          (pss_one (ps_ret pe_bl))
          pss_nil)))
      (pss_one (ps_ret (pe_cmpR (op_eqD (hu64 hr)) (pv 0) (pv 1) (nomark _)))))), ?_⟩
    refine ⟨.ref p, rfl, _, _, _, _, true, rfl, .ty "list", tyLst hP, kit_ty (by decide +kernel), true, rfl, iteF ?_⟩
    refine ⟨.ref p, rfl, p, _, rfl, .inl (sqL hP), .ref b, rfl, b, _, rfl, .inl hT, rfl, _, rfl, ite2 (fun e => ?_) (fun e => ?_)⟩
    · refine q2 fun z => ?_
      rw [z, decide_eq_true rfl] at e
      exact nomatch e
    refine ⟨.ref p, rfl, p, rfl, ⟨_, sqL hP⟩, for_list (xs := vi s) (fun i σ H' => H' = H ∧ ∃ y2, σ = [some (.ref p), some (.ref b), y2]) ⟨rfl, none, rfl⟩ (fun i σ H' _ h => ?_) (fun i v σ H' hi h => ?_) (fun σ H' h => ?_)⟩
    · rw [h.1]
      exact sqL hP
    · obtain ⟨rfl, y2, rfl⟩ := h
      have hi' : i < s.length := by
        have := (List.getElem?_eq_some_iff.mp hi).1
        simpa using this
      rw [vi_get hi'] at hi
      cases hi
      exact ⟨_, rfl, _, rfl, true, rfl, iteF ⟨rfl, _, rfl⟩⟩
    · obtain ⟨rfl, y2, rfl⟩ := h
      refine ⟨.ref p, rfl, .ref b, rfl, rEq_ints (sqL hP) hT ?_⟩
      by_cases z : s = t
      · rw [decide_eq_true z]; exact q1 z
      · rw [decide_eq_false z]; exact q2 z
end

end Rv

namespace Rv
open PySem PySem.Spec PyProof.Rows L2
open Rm (zs at')
/-! ### _law_arcs -/
abbrev s_law_arcs : Stmt := topS 20
theorem sc_law_arcs : FnScope ["script", "at", "size", "found", "ahead", "k", "cell", "other"] ["script", "at", "size"] (defScope s_law_arcs) := ⟨rfl, rfl, rfl, by decide +kernel, rfl, by decide +kernel, by decide +kernel⟩
def spLawArcs (K : PySem.W.Frag) : Sp := fun vs H Q _ => ∃ (a : Addr) (ns : List Int) (at0 : Int) (n : Nat), vs = [.ref a, .int at0, .int (n : Int)] ∧ SqL K H a (vi ns) ∧ 0 ≤ at0 ∧ 1 ≤ n ∧ n ≤ 20 ∧
  ∀ H' p fd, Rm.ArcsL n fd → Same H H' → H p = none → H' p = some (.lst (vn fd)) → Q (.ref p) H'
theorem pick4 (c : Int) (x y : Int) : ∃ z : Int, atI [V.int x, V.int y, V.int 0, V.int 1] ((c.fdiv 4).fmod 4) = some (.int z) := by
  have h0 := Int.fmod_nonneg_of_pos (c.fdiv 4) (show (0 : Int) < 4 by decide)
  have h1 := Int.fmod_lt_of_pos (c.fdiv 4) (show (0 : Int) < 4 by decide)
  generalize (c.fdiv 4).fmod 4 = r at h0 h1
  have : r = 0 ∨ r = 1 ∨ r = 2 ∨ r = 3 := by omega
  rcases this with rfl | rfl | rfl | rfl
  · exact ⟨x, rfl⟩
  · exact ⟨y, rfl⟩
  · exact ⟨0, rfl⟩
  · exact ⟨1, rfl⟩
section
variable {P : Program} {w : World} {K : PySem.W.Frag} {mg : Str → Option Value} {base : Heap}
theorem ok_law_arcs (D : Dfn K mg "_law_arcs" s_law_arcs ["script", "at", "size"]) (B : Blt mg) (c_law_cell_at : Cal P w K mg base 1 "_law_cell_at" (spCell K)) : Cal P w K mg base 2 "_law_arcs" (spLawArcs K) := by
  refine D.cal sc_law_arcs (fun vs H Q E h => ?_) (fun f cdv A outer s0 H vs Q E hr h => ?_)
  · obtain ⟨a, ns, at0, n, rfl, _⟩ := h
    rfl
  · obtain ⟨a, ns, at0, n, rfl, hS, h0, h1, h20, q⟩ := h
    refine ⟨_, (pss_cons (ps_set (i := 3) sc_law_arcs.nd rfl (.inl rfl) (pe_op op_rep (pe_lst (pa_cons pe_int pa_nil)) (pe_op op_mul pe_int (pv 2))))
      (pss_cons (ps_set (i := 4) sc_law_arcs.nd rfl (.inl rfl) (pe_lst pa_nil))
      (pss_cons (ps_for PassesOwn.never rfl (pi_range1 (by rfl) B.range_ (pa_cons (pe_op op_mul pe_int (pv 2)) pa_nil)) (pg_name (i := 5) sc_law_arcs.nd rfl (.inl rfl))
        (pss_cons (ps_set (i := 6) sc_law_arcs.nd rfl (.inl rfl) (pe_c c_law_cell_at hr (by omega) (by rfl) (pa_cons (pv 0) (pa_cons (pe_op op_add (pv 1) (pv 5)) pa_nil))))
        (C8.pss_cut (ps_if (pt_cmpR op_gt (pe_op op_add (pv 1) (pv 5)) pe_int (nomark _))
          (pss_one (ps_set (i := 6) sc_law_arcs.nd rfl (.inl rfl) (pe_op op_fdivN (pe_c c_law_cell_at hr (by omega) (by rfl) (pa_cons (pv 0) (pa_cons (pe_op op_sub (pe_op op_add (pv 1) (pv 5)) pe_int) pa_nil))) pe_int)))
          pss_nil)
        (pss_one (ps_if (PW.pt (pw_and (pt_cmpR op_lt (pe_callB call_len_seq (by rfl) B.len_ PySem.boot_len (pa_cons (pv 4) pa_nil)) (pe_op op_sub (pe_op op_mul pe_int (pv 2)) (pv 5)) (nomark _)) (pw_and1 (PW.pt (pw_or (pt_cmpR op_eq (pe_callB call_len_seq (by rfl) B.len_ PySem.boot_len (pa_cons (pv 4) pa_nil)) pe_int (nomark _)) (pw_or1 (pt_cmpR op_eq (pe_op op_modN (pe_ix ix_list (pe_lst (pa_cons (pv 6) (pa_cons (pe_op op_fdivN (pv 6) pe_int) (pa_cons pe_int (pa_cons pe_int pa_nil))))) (pe_op op_modN (pe_op op_fdivN (pv 6) pe_int) pe_int) (fun _ _ => rfl)) pe_int) pe_int (nomark _))))))))
          (pss_one (ps_expr (pe_bm PySem.F.plainAttrs_list PySem.F.slot_list_append PySem.F.type_list_append mt_append (pv 4) (pa_cons (pv 5) pa_nil))))
          (pss_cons (ps_set (i := 7) sc_law_arcs.nd rfl (.inl rfl) (pe_bm0 PySem.F.plainAttrs_list PySem.F.slot_list_pop PySem.F.type_list_pop mt_pop (pv 4)))
          (pss_cons (ps_asg (pv 7) (pg_sub (pv 3) (pv 5) set_list))
          (pss_one (ps_asg (pv 5) (pg_sub (pv 3) (pv 7) set_list))))))))))
      (pss_one (ps_ret (pv 3)))))), ?_⟩
    refine ⟨by show 1 ≤ sizeLine; decide, fun x nx => ?_⟩
    have m2 : (2 * (n : Int)).toNat = 2 * n := by omega
    refine ⟨.int n, rfl, 2, n, rfl, rfl, .inl ⟨by decide, by decide⟩, x, _, _, rfl, rfl, upd_same, by omega, by omega, ?_, fun p np => ?_⟩
    · rw [m2]
      exact small63' (by show 1 * (2 * n) ≤ _; omega)
    rw [m2, rep1, vn_rep]
    have sx : Same H (upd H x (.lst [V.int 0])) := same_new nx
    have np0 : H p = none := sx.free np
    refine ⟨Nat.zero_le _, fun o no => ?_⟩
    have sp' := same_new (o := .lst (vn (List.replicate (2 * n) 0))) np
    have no1 := sp'.free no
    have no0 : H o = none := sx.free no1
    have hpo : p ≠ o := ne_of_none upd_same no
    refine ⟨.int n, rfl, 2, n, rfl, rfl, .inl ⟨by decide, by decide⟩, _, rfl, by omega, by omega, ?_⟩
    rw [m2]
    refine for_range (lo := 0) (n := 2 * n) (fun i σ H' => ∃ y5 y6 y7 fd st, σ = [some (.ref a), some (.int at0), some (.int n), some (.ref p), some (.ref o), y5, y6, y7] ∧ Same H H' ∧ H' p = some (.lst (vn fd)) ∧ H' o = some (.lst (vn st)) ∧ Rm.Bld (2 * n) i fd st ∧ st.length ≤ 2 * n - i ∧ (st.length + i) % 2 = 0)
      ⟨none, none, none, List.replicate (2 * n) 0, [], rfl, (sx.trans sp').trans (same_new no), by rw [upd_ne hpo, upd_same], upd_same, Rm.bld0 _ _ (List.length_replicate), Nat.zero_le _, rfl⟩ (fun i σ H' hi hP => ?_) (fun σ H' hP => ?_)
    · obtain ⟨y5, y6, y7, fd, st, rfl, sm, hp, ho, bl, hsl, hpar⟩ := hP
      rw [Int.zero_add]
      have hS' := sm.seq hS
      -- cell = _law_cell_at(script, at + k)
      refine ⟨.ref a, rfl, .int at0, rfl, .int i, rfl, _, _, rfl, rfl, a, ns, _, rfl, hS', by omega, ?_⟩
      intro c0
      -- what stands in the cell's slot is a number
      refine ⟨fun σ2 H2 => ∃ c : Int, σ2 = [some (.ref a), some (.int at0), some (.int n), some (.ref p), some (.ref o), some (.int i), some (.int c), y7] ∧ H' = H2, ?_, ?_⟩
      · refine ⟨.int at0, rfl, .int i, rfl, _, _, rfl, rfl, _, _, rfl, rfl, _, rfl, ite2 (fun e => ?_) (fun e => ⟨c0, rfl, rfl⟩)⟩
        have e := of_decide_eq_true e
        refine ⟨.ref a, rfl, .int at0, rfl, .int i, rfl, _, _, rfl, rfl, _, _, rfl, rfl, a, ns, _, rfl, hS', by omega, fun c2 => ?_⟩
        exact ⟨_, _, rfl, rfl, ⟨by decide, by decide⟩, _, rfl, rfl⟩
      rintro σ2 H2 ⟨c, rfl, rfl⟩
      refine ⟨.ref o, rfl, o, _, rfl, .inl (sqL ho), .int n, rfl, 2, n, rfl, rfl, .inl ⟨by decide, by decide⟩, .int i, rfl, _, _, rfl, rfl, _, _, rfl, rfl, _, rfl, ?_⟩
      rw [vn_len]
      apply joinC (α := Hp) (C := fun H2 => Same H' H2 ∧ st.length < 2 * n - i)
      · intro hpush
        apply joinC (α := Hp) (C := fun H2 => Same H' H2 ∧ st ≠ [])
        · intro hpop
          refine ite2 (fun e1 => ?_) (fun e1 => ?_)
          · have e1 := of_decide_eq_true e1
            refine ⟨.ref o, rfl, o, _, rfl, .inl (sqL ho), rfl, _, rfl, ?_⟩
            rw [vn_len]
            refine ite2 (fun e2 => ?_) (fun e2 => ?_)
            · exact iteT (hpush H' ⟨Same.refl _, by omega⟩)
            · refine ⟨.int c, rfl, .int c, rfl, c, 2, rfl, rfl, ⟨by decide, by decide⟩, by show 4 ≤ sizeLine; decide, fun x2 nx2 => ?_⟩
              obtain ⟨z, hz⟩ := pick4 c c (c.fdiv 2)
              refine ⟨.int c, rfl, _, _, rfl, rfl, ⟨by decide, by decide⟩, _, _, rfl, rfl, (show (4 : Int) ≠ 0 by decide), x2, _, _, _, rfl, rfl, sqL upd_same, hz, _, _, rfl, rfl, (show (2 : Int) ≠ 0 by decide), rfl, _, rfl, ite2 (fun e3 => ?_) (fun e3 => ?_)⟩
              · exact hpush _ ⟨same_new nx2, by omega⟩
              · refine hpop _ ⟨same_new nx2, fun z => e2 ?_⟩
                rw [z]
                rfl
          · exact iteF (hpop H' ⟨Same.refl _, fun z => by
              subst z
              exact dn e1 (by simp; omega)⟩)
        · intro H2 hC
          obtain ⟨s2, hne⟩ := hC
          obtain ⟨l, t, rfl⟩ : ∃ l t, st = l ++ [t] := by
            rcases List.eq_nil_or_concat st with e | ⟨l, t, e⟩
            · exact absurd e hne
            · exact ⟨l, t, by rw [e, List.concat_eq_append]⟩
          have htk : t < i := bl.slt t (by simp)
          refine ⟨.ref o, rfl, .inl ⟨rfl, _, sqL (s2 _ _ ho)⟩, o, _, _, rfl, rfl, s2 _ _ ho, vn_last l t, ?_⟩
          rw [vn_drop]
          have hl2 := bl.len
          refine ⟨.int t, rfl, .ref p, rfl, .int i, rfl, p, _, _, i, rfl, rfl, by rw [upd_ne hpo]; exact s2 _ _ hp, ixN_nat (by rw [vn_len]; omega), ?_⟩
          rw [vn_set]
          refine ⟨.int i, rfl, .ref p, rfl, .int t, rfl, p, _, _, t, rfl, rfl, upd_same, ixN_nat (by rw [vn_len, List.length_set]; omega), ?_⟩
          rw [vn_set]
          have hlen : (l ++ [t]).length = l.length + 1 := by simp
          refine ⟨_, _, _, _, l, rfl, same_upd (same_upd (same_upd (sm.trans s2) no0) np0) np0, upd_same, ?_, Rm.bld_pop bl hi, by omega, by omega⟩
          rw [upd_ne (Ne.symm hpo), upd_ne (Ne.symm hpo), upd_same]
      · intro H2 hC
        obtain ⟨s2, hlt⟩ := hC
        refine ⟨.ref o, rfl, .inl ⟨rfl, _, sqL (s2 _ _ ho)⟩, .int i, rfl, o, _, _, rfl, rfl, s2 _ _ ho, ?_, ?_⟩
        · rw [vn_len]
          exact small63 (by omega)
        · refine ⟨_, _, _, fd, st ++ [i], rfl, same_upd (sm.trans s2) no0, ?_, by rw [upd_same, vn_push], Rm.bld_push bl hi, ?_, ?_⟩
          · rw [upd_ne hpo]; exact s2 _ _ hp
          · rw [List.length_append, List.length_singleton]; omega
          · rw [List.length_append, List.length_singleton]; omega
    · obtain ⟨y5, y6, y7, fd, st, rfl, sm, hp, ho, bl, hsl, hpar⟩ := hP
      have e0 : st = [] := List.length_eq_zero_iff.mp (by omega)
      subst e0
      exact ⟨.ref p, rfl, q H' p fd (Rm.bld_arcs bl) sm np0 hp⟩
end

end Rv

namespace Rv
open PySem PySem.Spec PyProof.Rows L2
open Rm (zs at')
/-! ### _law_good -/
abbrev s_law_good : Stmt := topS 21
theorem sc_law_good : FnScope ["some", "k", "j"] ["some"] (defScope s_law_good) := ⟨rfl, rfl, rfl, by decide +kernel, rfl, by decide +kernel, by decide +kernel⟩
def spGood (K : PySem.W.Frag) : Sp := fun vs H Q _ => ∃ (a : Addr) (s : List Int), vs = [.ref a] ∧ SqL K H a (vi s) ∧ s.length ≤ 1000 ∧ ∀ b, (b = true ↔ Rm.Good s) → Q (.bl b) H
section
variable {P : Program} {w : World} {K : PySem.W.Frag} {mg : Str → Option Value} {base : Heap}
theorem ok_law_good (D : Dfn K mg "_law_good" s_law_good ["some"]) (B : Blt mg) : Cal P w K mg base 1 "_law_good" (spGood K) := by
  refine D.cal sc_law_good (fun vs H Q E h => ?_) (fun f cdv A outer s0 H vs Q E hr h => ?_)
  · obtain ⟨a, s, rfl, _⟩ := h
    rfl
  · obtain ⟨a, s, rfl, hS, hlen, q⟩ := h
    refine ⟨_, (pss_cons (ps_if (PW.pt (pw_or (pt_cmpR op_lt (pe_callB call_len_seq (by rfl) B.len_ PySem.boot_len (pa_cons (pv 0) pa_nil)) pe_int (nomark _)) (pw_or (pt_cmpR op_gt (pe_callB call_len_seq (by rfl) B.len_ PySem.boot_len (pa_cons (pv 0) pa_nil)) pe_int (nomark _)) (pw_or1 (pt_cmpR op_eq (pe_op op_modN (pe_callB call_len_seq (by rfl) B.len_ PySem.boot_len (pa_cons (pv 0) pa_nil)) pe_int) pe_int (nomark _))))))
        (pss_one (ps_ret pe_bl))
        pss_nil)
      (pss_cons (ps_for PassesOwn.never rfl (pi_range1 (by rfl) B.range_ (pa_cons (pe_callB call_len_seq (by rfl) B.len_ PySem.boot_len (pa_cons (pv 0) pa_nil)) pa_nil)) (pg_name (i := 1) sc_law_good.nd rfl (.inl rfl))
        (pss_cons (ps_if (PW.pt (pw_or (pt_not (pt_chain op_le op_lt pe_int (pe_ix ix_list (pv 0) (pv 1) (fun _ _ => rfl)) (pe_callB call_len_seq (by rfl) B.len_ PySem.boot_len (pa_cons (pv 0) pa_nil)))) (pw_or (pt_cmpR op_eq (pe_ix ix_list (pv 0) (pv 1) (fun _ _ => rfl)) (pv 1) (nomark _)) (pw_or1 (pt_cmpR op_ne (pe_ix ix_list (pv 0) (pe_ix ix_list (pv 0) (pv 1) (fun _ _ => rfl)) (fun _ _ => rfl)) (pv 1) (nomark _))))))
          (pss_one (ps_ret pe_bl))
          pss_nil)
        (pss_one (ps_for PassesOwn.never rfl (pi_range1 (by rfl) B.range_ (pa_cons (pv 1) pa_nil)) (pg_name (i := 2) sc_law_good.nd rfl (.inl rfl))
          (pss_one (ps_if (PW.pt (pw_and (pt_cmpR op_gt (pe_ix ix_list (pv 0) (pv 1) (fun _ _ => rfl)) (pv 1) (nomark _)) (pw_and1 (pt_chain3 op_lt op_lt op_lt (pv 2) (pv 1) (pe_ix ix_list (pv 0) (pv 2) (fun _ _ => rfl)) (pe_ix ix_list (pv 0) (pv 1) (fun _ _ => rfl))))))
            (pss_one (ps_ret pe_bl))
            pss_nil))))))
      (pss_one (ps_ret pe_bl)))), ?_⟩
    have bad : ¬ Rm.Good s → Q (.bl false) H := fun h => q false ⟨fun z => (nomatch z), fun G => absurd G h⟩
    have vl : (vi s).length = s.length := List.length_map _
    refine ⟨.ref a, rfl, a, _, rfl, .inl hS, _, _, rfl, rfl, _, rfl, ?_⟩
    rw [vl]
    refine ite2 (fun e => iteT (bad fun G => ?_)) (fun e => ?_)
    · have := G.1.1; have := of_decide_eq_true e; omega
    have e1 := dn e
    refine ⟨.ref a, rfl, a, _, rfl, .inl hS, _, _, rfl, rfl, _, rfl, ?_⟩
    rw [vl]
    refine ite2 (fun e => iteT (bad fun G => ?_)) (fun e => ?_)
    · have := G.1.2; have := of_decide_eq_true e; omega
    have e2 := dn e
    refine ⟨.ref a, rfl, a, _, rfl, .inl hS, _, _, rfl, rfl, (show (2 : Int) ≠ 0 by decide), rfl, _, rfl, ?_⟩
    rw [vl]
    refine ite2 (fun e => bad fun G => ?_) (fun e => ?_)
    · have h1 := V.int.inj (of_decide_eq_true e)
      have h2 := Rm.good_even G
      rw [Int.fmod_eq_emod_of_nonneg _ (by decide)] at h1
      omega
    have hL : 2 ≤ s.length ∧ s.length ≤ 40 := by omega
    refine ⟨.ref a, rfl, a, _, rfl, .inl hS, _, rfl, by omega, by omega, ?_⟩
    rw [vl, show ((s.length : Int)).toNat = s.length by omega]
    refine for_range (lo := 0) (n := s.length) (fun i σ H' => ∃ y1 y2, σ = [some (.ref a), y1, y2] ∧ H' = H ∧ (∀ k : Nat, k < i → Rm.OkAt s k) ∧ (∀ j k : Nat, j < k → k < i → (k : Int) < Rm.g s j → Rm.g s j < Rm.g s k → False))
      ⟨none, none, rfl, rfl, fun _ h => absurd h (Nat.not_lt_zero _), fun _ _ _ h => absurd h (Nat.not_lt_zero _)⟩ (fun i σ H' hi hP => ?_) (fun σ H' hP => ?_)
    · obtain ⟨y1, y2, rfl, rfl, hok, hnc⟩ := hP
      rw [Int.zero_add]
      have iv : atI (vi s) (i : Int) = some (.int (Rm.g s i)) := vi_at hi rfl
      have badi : ¬ Rm.OkAt s i → Q (.bl false) H' := fun h => bad fun G => absurd (G.2.1 i hi) h
      refine ⟨.ref a, rfl, .int i, rfl, a, _, _, _, rfl, rfl, hS, iv, _, _, rfl, rfl, _, rfl, ite2 (fun e1 => ?_) (fun e1 => ⟨_, rfl, iteT (badi fun ok => dn e1 ok.1)⟩)⟩
      have e1 := of_decide_eq_true e1
      refine ⟨.ref a, rfl, a, _, rfl, .inl hS, _, _, rfl, rfl, _, rfl, ?_⟩
      rw [vl]
      refine ite2 (fun e2 => iteT (badi fun ok => nt e2 ok.2.1)) (fun e2 => ?_)
      have e2 := nd e2
      refine ⟨.ref a, rfl, .int i, rfl, a, _, _, _, rfl, rfl, hS, iv, .int i, rfl, rfl, _, rfl, ite2 (fun e3 => iteT (badi fun ok => ok.2.2.1 (V.int.inj (of_decide_eq_true e3)))) (fun e3 => ?_)⟩
      have e3 : Rm.g s i ≠ (i : Int) := fun z => dn e3 (congrArg V.int z)
      have iv2 : atI (vi s) (Rm.g s i) = some (.int (Rm.g s (Rm.g s i).toNat)) := vi_at (by omega) (by omega)
      refine ⟨.ref a, rfl, .ref a, rfl, .int i, rfl, a, _, _, _, rfl, rfl, hS, iv, a, _, _, _, rfl, rfl, hS, iv2, .int i, rfl, rfl, _, rfl, ite2 (fun e4 => badi fun ok => nt e4 (congrArg V.int ok.2.2.2)) (fun e4 => ?_)⟩
      have e4 : Rm.g s (Rm.g s i).toNat = (i : Int) := V.int.inj (nd e4)
      have ok : Rm.OkAt s i := ⟨e1, e2, e3, e4⟩
      -- for j in range(k)
      refine ⟨.int i, rfl, _, rfl, by omega, by omega, ?_⟩
      rw [Int.toNat_natCast]
      refine for_range (lo := 0) (n := i) (fun j σ H'' => ∃ y2, σ = [some (.ref a), some (.int i), y2] ∧ H'' = H' ∧ ∀ j' : Nat, j' < j → (i : Int) < Rm.g s j' → Rm.g s j' < Rm.g s i → False)
        ⟨_, rfl, rfl, fun _ h => absurd h (Nat.not_lt_zero _)⟩ (fun j σ H'' hj hP => ?_) (fun σ H'' hP => ?_)
      · obtain ⟨y2, rfl, rfl, hc⟩ := hP
        rw [Int.zero_add]
        have jv : atI (vi s) (j : Int) = some (.int (Rm.g s j)) := vi_at (by omega) rfl
        have keep : ¬ ((i : Int) < Rm.g s j ∧ Rm.g s j < Rm.g s i) → ∃ y2, [some (V.ref a), some (V.int i), some (V.int j)] = [some (V.ref a), some (V.int i), y2] ∧ H'' = H'' ∧ ∀ j' : Nat, j' < j + 1 → (i : Int) < Rm.g s j' → Rm.g s j' < Rm.g s i → False := fun hn => by
          refine ⟨_, rfl, rfl, fun j' h1 h2 h3 => ?_⟩
          by_cases e : j' = j
          · subst e; exact hn ⟨h2, h3⟩
          · exact hc j' (by omega) h2 h3
        refine ⟨.ref a, rfl, .int i, rfl, a, _, _, _, rfl, rfl, hS, iv, .int i, rfl, _, _, rfl, rfl, _, rfl, ite2 (fun e5 => ?_) (fun e5 => iteF (keep fun z => dn e5 (by omega)))⟩
        refine ⟨.int j, rfl, .int i, rfl, _, _, rfl, rfl, _, rfl, ite2 (fun e6 => ?_) (fun e6 => absurd (show (j : Int) < (i : Int) by omega) (dn e6))⟩
        refine ⟨.ref a, rfl, .int j, rfl, a, _, _, _, rfl, rfl, hS, jv, _, _, rfl, rfl, _, rfl, ite2 (fun e7 => ?_) (fun e7 => ⟨_, rfl, iteF (keep fun z => dn e7 z.1)⟩)⟩
        refine ⟨.ref a, rfl, .int i, rfl, a, _, _, _, rfl, rfl, hS, iv, _, _, rfl, rfl, _, rfl, ite2 (fun e8 => ?_) (fun e8 => keep fun z => dn e8 z.2)⟩
        exact bad fun G => G.2.2 j i hj hi (of_decide_eq_true e7) (of_decide_eq_true e8)
      · obtain ⟨y2, rfl, rfl, hc⟩ := hP
        refine ⟨_, _, rfl, rfl, fun k hk => ?_, fun j k h1 h2 h3 h4 => ?_⟩
        · by_cases e : k = i
          · subst e; exact ok
          · exact hok k (by omega)
        · by_cases e : k = i
          · subst e; exact hc j h1 h3 h4
          · exact hnc j k h1 (by omega) h3 h4
    · obtain ⟨y1, y2, rfl, rfl, hok, hnc⟩ := hP
      exact q true ⟨fun _ => ⟨hL, hok, hnc⟩, fun _ => rfl⟩
end

end Rv

namespace Rv
open PySem PySem.Spec PyProof.Rows L2
open Rm (zs at')
/-! ### arcs_of, of a word -/
abbrev s_arcs_of : Stmt := topS 9
theorem sc_arcs_of : FnScope ["word", "found", "open_ones", "k", "other"] ["word"] (defScope s_arcs_of) := ⟨rfl, rfl, rfl, by decide +kernel, rfl, by decide +kernel, by decide +kernel⟩
theorem isLp : decide (V.str ⟨#[40]⟩ = V.str (("(" : String) : Str)) = true := decide_eq_true (by rw [tx_lp]; rfl)
theorem notLp : decide (V.str ⟨#[41]⟩ = V.str (("(" : String) : Str)) = false := decide_eq_false (by
  rw [tx_lp]
  intro h
  have := tx_inj (a := [41]) (b := [40]) (V.str.inj h)
  cases this)
theorem isRp : decide (V.str ⟨#[41]⟩ = V.str ((")" : String) : Str)) = true := decide_eq_true (by rw [tx_rp]; rfl)
def spArcsOf (K : PySem.W.Frag) : Sp := fun vs H Q _ => ∃ s : List Int, Rm.Good s ∧ vs = [.str (tx (Rm.wcs s))] ∧ ∀ H' p, Same H H' → H p = none → H' p = some (.lst (vi s)) → Q (.ref p) H'
section
variable {P : Program} {w : World} {K : PySem.W.Frag} {mg : Str → Option Value} {base : Heap}
theorem ok_arcs_of {tM : Tok} (D : Dfn K mg "arcs_of" s_arcs_of ["word"]) (B : Blt mg) (g_MOST : mg "MOST" = some (.int 20 tM)) : Cal P w K mg base 1 "arcs_of" (spArcsOf K) := by
  refine D.cal sc_arcs_of (fun vs H Q E h => ?_) (fun f cdv A outer s0 H vs Q E hr h => ?_)
  · obtain ⟨s, G, rfl, _⟩ := h
    rfl
  · obtain ⟨s, G, rfl, q⟩ := h
    refine ⟨_, (pss_cons (ps_set (i := 1) sc_arcs_of.nd rfl (.inl rfl) (pe_op op_rep (pe_lst (pa_cons pe_int pa_nil)) (pe_callB call_len_str (by rfl) B.len_ PySem.boot_len (pa_cons (pv 0) pa_nil))))
      (pss_cons (ps_set (i := 2) sc_arcs_of.nd rfl (.inl rfl) (pe_lst pa_nil))
      (pss_cons (ps_for PassesOwn.never rfl (pi_range1 (by rfl) B.range_ (pa_cons (pe_callB call_len_str (by rfl) B.len_ PySem.boot_len (pa_cons (pv 0) pa_nil)) pa_nil)) (pg_name (i := 3) sc_arcs_of.nd rfl (.inl rfl))
        (pss_one (ps_if (pt_cmpR op_eq (pe_item_str (pv 0) (pv 3) (fun _ _ => rfl)) pe_str (nomark _))
          (pss_one (ps_expr (pe_bm PySem.F.plainAttrs_list PySem.F.slot_list_append PySem.F.type_list_append mt_append (pv 2) (pa_cons (pv 3) pa_nil))))
          (pss_one (ps_if (PW.pt (pw_and (pt_cmpR op_eq (pe_item_str (pv 0) (pv 3) (fun _ _ => rfl)) pe_str (nomark _)) (pw_and1 (pt_cmpR op_gt (pe_callB call_len_seq (by rfl) B.len_ PySem.boot_len (pa_cons (pv 2) pa_nil)) pe_int (nomark _)))))
            (pss_cons (ps_set (i := 4) sc_arcs_of.nd rfl (.inl rfl) (pe_bm0 PySem.F.plainAttrs_list PySem.F.slot_list_pop PySem.F.type_list_pop mt_pop (pv 2)))
            (pss_cons (ps_asg (pv 4) (pg_sub (pv 1) (pv 3) set_list))
            (pss_one (ps_asg (pv 3) (pg_sub (pv 1) (pv 4) set_list)))))
            (pss_one (ps_never)))))))
      (pss_cons (ps_if (PW.pt (pw_or (pt_cmpR op_gt (pe_callB call_len_seq (by rfl) B.len_ PySem.boot_len (pa_cons (pv 2) pa_nil)) pe_int (nomark _)) (pw_or1 (pt_not (pt_chain op_le op_le pe_int (pe_callB call_len_str (by rfl) B.len_ PySem.boot_len (pa_cons (pv 0) pa_nil)) (pe_op op_mul pe_int (pe_glob (v := .int 20) (by rfl) g_MOST ⟨_, rfl⟩)))))))
        (pss_one (ps_never))
        pss_nil)
      (pss_one (ps_ret (pv 1))))))), ?_⟩
    have hL := G.1
    have hwl : (tx (Rm.wcs s)).length = s.length := by rw [tx_len, Rm.wcs_len]
    have hline : (tx (Rm.wcs s)).length ≤ sizeLine := by rw [hwl]; exact small63' (by omega)
    refine ⟨by show 1 ≤ sizeLine; decide, fun x nx => ?_⟩
    refine ⟨_, rfl, _, rfl, hline, x, _, _, rfl, rfl, upd_same, by omega, by rw [hwl]; omega, ?_, fun p np => ?_⟩
    · rw [hwl]
      exact small63' (by show 1 * (s.length) ≤ _; omega)
    rw [show (((tx (Rm.wcs s)).length : Nat) : Int).toNat = s.length by rw [hwl]; omega, rep1]
    have sx : Same H (upd H x (.lst [V.int 0])) := same_new nx
    have np0 : H p = none := sx.free np
    refine ⟨Nat.zero_le _, fun o no => ?_⟩
    have sp' := same_new (o := .lst (List.replicate s.length (V.int 0))) np
    have no0 : H o = none := sx.free (sp'.free no)
    have hpo : p ≠ o := ne_of_none upd_same no
    refine ⟨_, rfl, _, rfl, hline, _, rfl, by omega, by rw [hwl]; omega, ?_⟩
    rw [show (((tx (Rm.wcs s)).length : Nat) : Int).toNat = s.length by rw [hwl]; omega]
    refine for_range (lo := 0) (n := s.length) (fun i σ H' => ∃ y3 y4 fd, σ = [some (.str (tx (Rm.wcs s))), some (.ref p), some (.ref o), y3, y4] ∧ Same H H' ∧ H' p = some (.lst (vi fd)) ∧ H' o = some (.lst (vn (Rm.opens s i))) ∧ Rm.Rd s i fd)
      ⟨none, none, List.replicate s.length 0, rfl, (sx.trans sp').trans (same_new no), by rw [upd_ne hpo, upd_same]; simp [vi], upd_same, Rm.rd0 _ _ List.length_replicate⟩ (fun i σ H' hi hP => ?_) (fun σ H' hP => ?_)
    · obtain ⟨y3, y4, fd, rfl, sm, hp, ho, rd⟩ := hP
      rw [Int.zero_add]
      have hw := Rm.wcs_get hi
      have st := Rm.good_stage G i (by omega)
      by_cases e : (i : Int) < Rm.g s i
      · rw [if_pos e] at hw
        refine ⟨_, rfl, .int i, rfl, _, _, 40, rfl, rfl, by omega, by omega, by rw [hwl]; omega, tx_get (by rw [Int.toNat_natCast]; exact hw), rfl, _, rfl, ?_⟩
        rw [isLp]
        refine iteT ⟨.ref o, rfl, .inl ⟨rfl, _, sqL ho⟩, .int i, rfl, o, _, _, rfl, rfl, ho, ?_, ?_⟩
        · rw [vn_len]
          exact small63 (by have := Rm.opens_len s i; omega)
        · refine ⟨_, _, fd, rfl, same_upd sm no0, by rw [upd_ne hpo]; exact hp, ?_, Rm.rd_push G hi e rd⟩
          rw [upd_same, vn_push, Rm.opens_push st e]
      · rw [if_neg e] at hw
        have ok := G.2.1 i hi
        have e5 : Rm.g s i < (i : Int) := by have := ok.2.2.1; omega
        obtain ⟨l, t, eo, ht⟩ := Rm.good_top G hi e5
        rw [eo] at ho
        refine ⟨_, rfl, .int i, rfl, _, _, 41, rfl, rfl, by omega, by omega, by rw [hwl]; omega, tx_get (by rw [Int.toNat_natCast]; exact hw), rfl, _, rfl, ?_⟩
        rw [notLp]
        refine iteF ⟨_, rfl, .int i, rfl, _, _, 41, rfl, rfl, by omega, by omega, by rw [hwl]; omega, tx_get (by rw [Int.toNat_natCast]; exact hw), rfl, _, rfl, ?_⟩
        rw [isRp]
        refine iteT ⟨.ref o, rfl, o, _, rfl, .inl (sqL ho), _, _, rfl, rfl, _, rfl, ?_⟩
        rw [decide_eq_true (show (0 : Int) < ((vn (l ++ [t])).length : Int) by rw [vn_len, List.length_append, List.length_singleton]; omega)]
        refine iteT ⟨.ref o, rfl, .inl ⟨rfl, _, sqL ho⟩, o, _, _, rfl, rfl, ho, vn_last l t, ?_⟩
        rw [vn_drop]
        have hl2 := rd.1
        refine ⟨.int t, rfl, .ref p, rfl, .int i, rfl, p, _, _, i, rfl, rfl, by rw [upd_ne hpo]; exact hp, ixN_nat (by rw [List.length_map]; omega), ?_⟩
        rw [vi_set]
        refine ⟨.int i, rfl, .ref p, rfl, .int t, rfl, p, _, _, t, rfl, rfl, upd_same, ixN_nat (by rw [List.length_map, List.length_set]; omega), ?_⟩
        rw [vi_set]
        refine ⟨_, _, _, rfl, same_upd (same_upd (same_upd sm no0) np0) np0, upd_same, ?_, Rm.rd_pop G hi ht e5 rd⟩
        rw [upd_ne (Ne.symm hpo), upd_ne (Ne.symm hpo), upd_same, Rm.opens_pop st ok e5 eo ht]
    · obtain ⟨y3, y4, fd, rfl, sm, hp, ho, rd⟩ := hP
      rw [Rm.opens_end G] at ho
      refine ⟨.ref o, rfl, o, _, rfl, .inl (sqL ho), _, _, rfl, rfl, _, rfl, ?_⟩
      rw [decide_eq_false (show ¬ (0 : Int) < (((vn [] : List V).length : Nat) : Int) by simp [vn, vi])]
      refine iteF ⟨_, rfl, _, rfl, hline, _, _, rfl, rfl, _, rfl, ?_⟩
      rw [decide_eq_true (show (2 : Int) ≤ (((tx (Rm.wcs s)).length : Nat) : Int) by rw [hwl]; omega)]
      refine iteT ⟨_, _, rfl, rfl, .inl ⟨by decide, by decide⟩, _, _, rfl, rfl, _, rfl, ?_⟩
      rw [decide_eq_true (show (((tx (Rm.wcs s)).length : Nat) : Int) ≤ 2 * 20 by rw [hwl]; omega)]
      refine iteF ⟨.ref p, rfl, ?_⟩
      rw [Rm.rd_end G rd] at hp
      exact q H' p sm np0 hp
end

end Rv

namespace Rv
open PySem PySem.Spec PyProof.Rows L2
open Rm (zs at')
/-! ### ask_size -/
abbrev s_ask_size : Stmt := topS 11
theorem sc_ask_size : FnScope ["size"] ["size"] (defScope s_ask_size) := ⟨rfl, rfl, rfl, by decide +kernel, rfl, by decide +kernel, by decide +kernel⟩
def spAskSize : Sp := fun vs H Q _ => ∃ n : Nat, vs = [.int (n : Int)] ∧ 1 ≤ n ∧ n ≤ 20 ∧ Q .non H
section
variable {P : Program} {w : World} {K : PySem.W.Frag} {mg : Str → Option Value} {base : Heap}
theorem ok_ask_size {tM : Tok} (D : Dfn K mg "ask_size" s_ask_size ["size"]) (g_MOST : mg "MOST" = some (.int 20 tM)) : Cal P w K mg base 1 "ask_size" spAskSize := by
  refine D.cal sc_ask_size (fun vs H Q E h => ?_) (fun f cdv A outer s0 H vs Q E hr h => ?_)
  · obtain ⟨n, rfl, _⟩ := h
    rfl
  · obtain ⟨n, rfl, h1, h20, q⟩ := h
    refine ⟨_, (pss_one (ps_if (pt_not (pt_chain op_le op_le pe_int (pv 0) (pe_glob (v := .int 20) (by rfl) g_MOST ⟨_, rfl⟩)))
        (pss_one (ps_never))
        pss_nil)), ?_⟩
    refine ⟨.int n, rfl, _, _, rfl, rfl, _, rfl, ?_⟩
    rw [decide_eq_true (by omega)]
    refine iteT ⟨_, _, rfl, rfl, _, rfl, ?_⟩
    rw [decide_eq_true (by omega)]
    exact iteF q
end

end Rv

namespace Rv
open PySem PySem.Spec PyProof.Rows L2
open Rm (zs at')
/-! ### ways, many, arcs_at -/
abbrev s_ways : Stmt := topS 12
theorem sc_ways : FnScope ["size", "rows", "left", "row", "depth"] ["size"] (defScope s_ways) := ⟨rfl, rfl, rfl, by decide +kernel, rfl, by decide +kernel, by decide +kernel⟩
abbrev s_many : Stmt := topS 13
theorem sc_many : FnScope ["size"] ["size"] (defScope s_many) := ⟨rfl, rfl, rfl, by decide +kernel, rfl, by decide +kernel, by decide +kernel⟩
abbrev s_arcs_at : Stmt := topS 14
theorem sc_arcs_at : FnScope ["size", "number", "rows", "word", "depth", "left"] ["size", "number"] (defScope s_arcs_at) := ⟨rfl, rfl, rfl, by decide +kernel, rfl, by decide +kernel, by decide +kernel⟩
def waysL (n : Nat) : List (List Nat) := (List.range (2 * n + 1)).map (Rm.rowW (2 * n + 2))
def spWays : Sp := fun vs H Q _ => ∃ n : Nat, vs = [.int (n : Int)] ∧ n ≤ 20 ∧ NewLL H Q (waysL n)
def spMany : Sp := fun vs H Q _ => ∃ n : Nat, vs = [.int (n : Int)] ∧ 1 ≤ n ∧ n ≤ 20 ∧ ∀ H', Same H H' → Q (.int ((Rm.w (2 * n) 0 : Nat) : Int)) H'
def spArcsAt : Sp := fun vs H Q _ => ∃ (n N : Nat) (fd : List Nat), vs = [.int (n : Int), .int (N : Int)] ∧ 1 ≤ n ∧ n ≤ 20 ∧ N < Rm.w (2 * n) 0 ∧ Rm.ArcsL n fd ∧ Rm.wcs (zs fd) = Rm.enc (Rm.unr (2 * n) 0 N) ∧ NewL H Q fd
theorem waysL_get {n l : Nat} (h : l < 2 * n + 1) : (waysL n)[l]? = some (Rm.rowW (2 * n + 2) l) := by
  unfold waysL
  rw [List.getElem?_map, List.getElem?_range h]
  rfl
theorem waysL_len (n : Nat) : (waysL n).length = 2 * n + 1 := by simp [waysL]
/-- a cell of the rows -/
theorem ways_cell {H : Hp} {n l d : Nat} {rs : List Addr} (h : HL H rs (waysL n)) (hl : l < 2 * n + 1) (hd : d < 2 * n + 2) : ∃ r, (∀ z : Int, z = (l : Int) → atI (vr rs) z = some (.ref r)) ∧ H r = some (.lst (vn (Rm.rowW (2 * n + 2) l))) ∧ ∀ z : Int, z = (d : Int) → atI (vn (Rm.rowW (2 * n + 2) l)) z = some (.int ((Rm.w l d : Nat) : Int)) := by
  have hrl : l < rs.length := by rw [h.1, waysL_len]; exact hl
  refine ⟨rs[l], fun z e => at_of e (by simp [vr, hrl]), h.2 l _ _ (List.getElem?_eq_getElem hrl) (waysL_get hl), fun z e => ?_⟩
  rw [vn_at (k := d) (by rw [Rm.rowW_len]; exact hd) e, Rm.rowW_at hd]
section
variable {P : Program} {w : World} {K : PySem.W.Frag} {mg : Str → Option Value} {base : Heap}
theorem ok_ways (D : Dfn K mg "ways" s_ways ["size"]) (B : Blt mg) : Cal P w K mg base 1 "ways" spWays := by
  refine D.cal sc_ways (fun vs H Q E h => ?_) (fun f cdv A outer s0 H vs Q E hr h => ?_)
  · obtain ⟨n, rfl, _⟩ := h
    rfl
  · obtain ⟨n, rfl, h20, q⟩ := h
    refine ⟨_, (pss_cons (ps_set (i := 1) sc_ways.nd rfl (.inl rfl) (pe_lst (pa_cons (pe_op op_cat (pe_lst (pa_cons pe_int pa_nil)) (pe_op op_rep (pe_lst (pa_cons pe_int pa_nil)) (pe_op op_add (pe_op op_mul pe_int (pv 0)) pe_int))) pa_nil)))
      (pss_cons (ps_for PassesOwn.never rfl (pi_range2 (by rfl) B.range_ (pa_cons pe_int (pa_cons (pe_op op_add (pe_op op_mul pe_int (pv 0)) pe_int) pa_nil))) (pg_name (i := 2) sc_ways.nd rfl (.inl rfl))
        (pss_cons (ps_set (i := 3) sc_ways.nd rfl (.inl rfl) (pe_lst pa_nil))
        (pss_cons (ps_for PassesOwn.never rfl (pi_range1 (by rfl) B.range_ (pa_cons (pe_op op_add (pe_op op_mul pe_int (pv 0)) pe_int) pa_nil)) (pg_name (i := 4) sc_ways.nd rfl (.inl rfl))
          (pss_one (ps_expr (pe_bm PySem.F.plainAttrs_list PySem.F.slot_list_append PySem.F.type_list_append mt_append (pv 3) (pa_cons (pe_op op_add (pe_ix ix_list (pe_ix ix_list (pv 1) (pe_un un_neg pe_int) (fun _ _ => rfl)) (pe_op op_add (pv 4) pe_int) (fun _ _ => rfl)) (pe_ifExp (pt_cmpR op_gt (pv 4) pe_int (nomark _)) (pe_ix ix_list (pe_ix ix_list (pv 1) (pe_un un_neg pe_int) (fun _ _ => rfl)) (pe_op op_sub (pv 4) pe_int) (fun _ _ => rfl)) pe_int)) pa_nil)))))
        (pss_one (ps_expr (pe_bm PySem.F.plainAttrs_list PySem.F.slot_list_append PySem.F.type_list_append mt_append (pv 1) (pa_cons (pe_op op_cat (pv 3) (pe_lst (pa_cons pe_int pa_nil))) pa_nil)))))))
      (pss_one (ps_ret (pv 1))))), ?_⟩
    -- rows
    refine ⟨by show 1 ≤ sizeLine; decide, fun x nx => ⟨by show 1 ≤ sizeLine; decide, fun y ny => ⟨.int n, rfl, 2, n, rfl, rfl, .inl ⟨by decide, by decide⟩, _, _, rfl, rfl, y, _, _, rfl, rfl, upd_same, by omega, by omega, ?_, fun z nz => ?_⟩⟩⟩
    · rw [show (2 * (n : Int) + 1).toNat = 2 * n + 1 by omega]
      exact small63' (by show 1 * (2 * n + 1) ≤ _; omega)
    rw [show (2 * (n : Int) + 1).toNat = 2 * n + 1 by omega, rep1, vn_rep]
    have sx := same_new (o := .lst [V.int 1]) nx
    have sy := same_new (o := .lst [V.int 0]) ny
    have sz := same_new (o := .lst (vn (List.replicate (2 * n + 1) 0))) nz
    refine ⟨x, z, _, _, rfl, rfl, sz _ _ (sy _ _ upd_same), upd_same, ?_, fun t nt => ?_⟩
    · rw [vn_len, List.length_replicate]
      exact small63' (by show 1 + _ ≤ _; omega)
    have e0 : [V.int 1] ++ vn (List.replicate (2 * n + 1) 0) = vn (Rm.rowW (2 * n + 2) 0) := by
      have : Rm.rowW (2 * n + 2) 0 = 1 :: List.replicate (2 * n + 1) 0 := by
        apply List.ext_getElem
        · simp [Rm.rowW]
        · intro i h1 h2
          simp [Rm.rowW]
          show (if i = 0 then 1 else 0) = _
          cases i with
          | zero => rfl
          | succ i => simp
      rw [this]
      simp [vn, vi, zs]
    rw [e0]
    have st := same_new (o := .lst (vn (Rm.rowW (2 * n + 2) 0))) nt
    refine ⟨by show 1 ≤ sizeLine; decide, fun p np => ?_⟩
    have sp := same_new (o := .lst [V.ref t]) np
    have ht := sp _ _ (upd_same (H := (upd (upd (upd H x (.lst [V.int 1])) y (.lst [V.int 0])) z (.lst (vn (List.replicate (2 * n + 1) 0))))) (a := t) (o := .lst (vn (Rm.rowW (2 * n + 2) 0))))
    have S1 := (((sx.trans sy).trans sz).trans st).trans sp
    have n1 : H t = none := sx.free (sy.free (sz.free nt))
    have n2 : H p = none := sx.free (sy.free (sz.free (st.free np)))
    have hpt : p ∉ [t] := by
      have : t ≠ p := ne_of_none upd_same np
      simp [this.symm]
    have hp := upd_same (H := upd (upd (upd (upd H x (.lst [V.int 1])) y (.lst [V.int 0])) z (.lst (vn (List.replicate (2 * n + 1) 0)))) t (.lst (vn (Rm.rowW (2 * n + 2) 0)))) (a := p) (o := .lst [V.ref t])
    generalize upd (upd (upd (upd (upd H x (.lst [V.int 1])) y (.lst [V.int 0])) z (.lst (vn (List.replicate (2 * n + 1) 0)))) t (.lst (vn (Rm.rowW (2 * n + 2) 0)))) p (.lst [V.ref t]) = H1 at S1 ht hp
    -- for left in range(1, 2 * size + 1)
    refine ⟨.int n, rfl, 2, n, rfl, rfl, .inl ⟨by decide, by decide⟩, _, _, rfl, rfl, 1, _, rfl, ⟨by decide, by decide, by omega, by omega⟩, ?_⟩
    rw [show (2 * (n : Int) + 1 - 1).toNat = 2 * n by omega]
    refine for_range (lo := 1) (n := 2 * n) (fun i σ H' => ∃ y2 y3 y4 rs, σ = [some (.int (n : Int)), some (.ref p), y2, y3, y4] ∧ Same H H' ∧ H' p = some (.lst (vr rs)) ∧ HL H' rs ((List.range (i + 1)).map (Rm.rowW (2 * n + 2))) ∧ rs.Nodup ∧ p ∉ rs ∧ (∀ r, r ∈ rs → H r = none) ∧ i ≤ 2 * n)
      ⟨none, none, none, [t], rfl, S1, hp, ⟨rfl, fun i r l h1 h2 => ?_⟩, by simp, hpt, by simp [n1], Nat.zero_le _⟩ (fun i σ H' hi hP => ?_) (fun σ H' hP => ?_)
    · cases i with
      | zero =>
        cases h1
        cases h2
        exact ht
      | succ i => simp at h1
    · obtain ⟨y2, y3, y4, rs, rfl, sm, hp, hl, hnd, hpr, hfr, _⟩ := hP
      refine ⟨Nat.zero_le _, fun r nr => ?_⟩
      have sr := same_new (o := .lst []) nr
      have r0 : H r = none := sm.free nr
      have hrp : r ≠ p := (ne_of_none hp nr).symm
      have hl1 := hl.1
      rw [List.length_map, List.length_range] at hl1
      -- the last row
      obtain ⟨l, rl, rfl⟩ : ∃ l rl, rs = l ++ [rl] := by
        rcases List.eq_nil_or_concat rs with e | ⟨l, t, e⟩
        · rw [e] at hl1; simp at hl1
        · exact ⟨l, t, by rw [e, List.concat_eq_append]⟩
      have hll : l.length = i := by rw [List.length_append, List.length_singleton] at hl1; omega
      have hrl : H' rl = some (.lst (vn (Rm.rowW (2 * n + 2) i))) := hl.2 i rl _ (by rw [List.getElem?_append_right (by omega), hll]; simp) (by rw [List.getElem?_map, List.getElem?_range (by omega)]; rfl)
      have hrs : r ∉ l ++ [rl] := fun h => by
        obtain ⟨j, hj⟩ := List.mem_iff_getElem?.mp h
        have hj2 := (List.getElem?_eq_some_iff.mp hj).1
        have := hl.2 j r _ hj (by rw [List.getElem?_map, List.getElem?_range (by omega)]; rfl)
        rw [nr] at this
        cases this
      have S0 : ∀ x, x ∈ [r] → H x = none := fun x hx => by simp at hx; rw [hx]; exact r0
      have hrlr : rl ≠ r := fun e => hrs (by rw [← e]; simp)
      refine ⟨.int n, rfl, 2, n, rfl, rfl, .inl ⟨by decide, by decide⟩, _, _, rfl, rfl, _, rfl, by omega, by omega, ?_⟩
      rw [show (2 * (n : Int) + 1).toNat = 2 * n + 1 by omega]
      refine for_range (lo := 0) (n := 2 * n + 1) (fun j σ H'' => ∃ y4, σ = [some (.int (n : Int)), some (.ref p), some (.int (1 + (i : Int))), some (.ref r), y4] ∧ Sx [r] H' H'' ∧ H'' r = some (.lst (vn (Rm.rowW j (i + 1)))))
        ⟨_, rfl, Sx.of sr, upd_same⟩ (fun j σ H'' hj hP2 => ?_) (fun σ H'' hP2 => ?_)
      · obtain ⟨y4, rfl, sx, hr2⟩ := hP2
        rw [Int.zero_add]
        have hp2 : H'' p = some (.lst (vr (l ++ [rl]))) := sx _ _ (by simp [hrp.symm]) hp
        have hrl2 : H'' rl = some (.lst (vn (Rm.rowW (2 * n + 2) i))) := sx _ _ (by simp [hrlr]) hrl
        have hat : atI (vr (l ++ [rl])) (-1) = some (.ref rl) := by
          unfold vr
          rw [List.map_append]
          exact atI_last _ _
        have hv : ∀ d : Nat, ∀ z : Int, z = (d : Int) → d < 2 * n + 2 → atI (vn (Rm.rowW (2 * n + 2) i)) z = some (.int ((Rm.w i d : Nat) : Int)) := fun d z e h => by
          rw [vn_at (k := d) (by rw [Rm.rowW_len]; exact h) e, Rm.rowW_at h]
        have hnext : Rm.rowW (j + 1) (i + 1) = Rm.rowW j (i + 1) ++ [Rm.w (i + 1) j] := by
          unfold Rm.rowW
          rw [List.range_succ, List.map_append]
          rfl
        refine ⟨.ref r, rfl, .inl ⟨rfl, _, sqL hr2⟩, .ref p, rfl, 1, rfl, p, _, -1, _, rfl, rfl, sqL hp2, hat, .int j, rfl, _, _, rfl, rfl, rl, _, _, _, rfl, rfl, sqL hrl2, hv (j + 1) _ (by omega) (by omega), .int j, rfl, _, _, rfl, rfl, _, rfl, ite2 (fun e => ?_) (fun e => ?_)⟩
        · have e := of_decide_eq_true e
          refine ⟨.ref p, rfl, 1, rfl, p, _, -1, _, rfl, rfl, sqL hp2, hat, .int j, rfl, _, _, rfl, rfl, rl, _, _, _, rfl, rfl, sqL hrl2, hv (j - 1) _ (by omega) (by omega), _, _, rfl, rfl, r, _, _, rfl, rfl, hr2, by rw [vn_len, Rm.rowW_len]; exact small63 (by omega), ?_⟩
          refine ⟨_, rfl, sx.upd (by simp), ?_⟩
          rw [upd_same, hnext]
          dsimp only
          have ev : ((Rm.w i (j + 1) : Nat) : Int) + ((Rm.w i (j - 1) : Nat) : Int) = ((Rm.w (i + 1) j : Nat) : Int) := by
            rw [Rm.w_succ, if_pos (by omega)]
            omega
          rw [ev, vn_push]
        · have e : j = 0 := by have := dn e; omega
          subst e
          refine ⟨_, _, rfl, rfl, r, _, _, rfl, rfl, hr2, by rw [vn_len, Rm.rowW_len]; exact small63 (by omega), ?_⟩
          refine ⟨_, rfl, sx.upd (by simp), ?_⟩
          rw [upd_same, hnext]
          dsimp only
          have ev : ((Rm.w i (0 + 1) : Nat) : Int) + 0 = ((Rm.w (i + 1) 0 : Nat) : Int) := by
            rw [Rm.w_succ, if_neg (by omega)]
            omega
          rw [ev, vn_push]
      · obtain ⟨y4, rfl, sx, hr2⟩ := hP2
        have hSm : Same H H'' := Sx.same sx sm S0
        have hp2 : H'' p = some (.lst (vr (l ++ [rl]))) := sx _ _ (by simp [hrp.symm]) hp
        have hl2 : HL H'' (l ++ [rl]) ((List.range (i + 1)).map (Rm.rowW (2 * n + 2))) := hl.sx sx (fun x hx => by simp at hx; rw [hx]; exact hrs)
        refine ⟨.ref p, rfl, .inl ⟨rfl, _, sqL hp2⟩, .ref r, rfl, by show 1 ≤ sizeLine; decide, fun z nz => ?_⟩
        have sz := same_new (o := .lst [V.int 0]) nz
        refine ⟨r, z, _, _, rfl, rfl, sz _ _ hr2, upd_same, by rw [vn_len, Rm.rowW_len]; exact small63' (by show _ + 1 ≤ _; omega), fun r2 nr2 => ?_⟩
        have e1 : vn (Rm.rowW (2 * n + 1) (i + 1)) ++ [V.int 0] = vn (Rm.rowW (2 * n + 2) (i + 1)) := by
          have : Rm.rowW (2 * n + 2) (i + 1) = Rm.rowW (2 * n + 1) (i + 1) ++ [Rm.w (i + 1) (2 * n + 1)] := by
            unfold Rm.rowW
            rw [List.range_succ, List.map_append]
            rfl
          rw [this, Rm.w_zero (i + 1) (2 * n + 1) (by omega)]
          exact vn_push _ 0
        rw [e1]
        have sr2 := same_new (o := .lst (vn (Rm.rowW (2 * n + 2) (i + 1)))) nr2
        have hp3 := sr2 _ _ (sz _ _ hp2)
        have hl3 := (hl2.same sz).same sr2
        have hr3 : (upd (upd H'' z (.lst [V.int 0])) r2 (.lst (vn (Rm.rowW (2 * n + 2) (i + 1))))) r2 = some (.lst (vn (Rm.rowW (2 * n + 2) (i + 1)))) := upd_same
        have n0 : H r2 = none := hSm.free (sz.free nr2)
        have np2 : r2 ≠ p := (ne_of_none (sz _ _ hp2) nr2).symm
        have nrs2 : r2 ∉ l ++ [rl] := fun h => by
          obtain ⟨j, hj⟩ := List.mem_iff_getElem?.mp h
          have hj2 := (List.getElem?_eq_some_iff.mp hj).1
          have := (hl2.same sz).2 j r2 _ hj (by rw [List.getElem?_map, List.getElem?_range (by omega)]; rfl)
          rw [nr2] at this
          cases this
        have S4 := (hSm.trans sz).trans sr2
        generalize upd (upd H'' z (.lst [V.int 0])) r2 (.lst (vn (Rm.rowW (2 * n + 2) (i + 1)))) = H4 at S4 hp3 hl3 hr3
        refine ⟨p, _, _, rfl, rfl, hp3, by rw [List.length_map]; exact small63 (by omega), ?_⟩
        refine ⟨_, _, _, l ++ [rl] ++ [r2], rfl, same_upd S4 n2, by rw [upd_same]; simp [vr], ?_, ?_, ?_, ?_, by omega⟩
        · rw [List.range_succ (n := i + 1), List.map_append]
          refine HL.sx (X := [p]) (HL.snoc hl3 hr3) ((Sx.refl _ _).upd (by simp)) (fun y hy => ?_)
          simp only [List.mem_singleton] at hy
          subst hy
          intro h
          rcases List.mem_append.mp h with h | h
          · exact hpr h
          · simp at h; exact np2 h.symm
        · rw [List.nodup_append]
          exact ⟨hnd, by simp, fun y hy z hz => by simp only [List.mem_singleton] at hz; rw [hz]; exact fun e => nrs2 (e ▸ hy)⟩
        · intro h
          rcases List.mem_append.mp h with h | h
          · exact hpr h
          · simp at h; exact np2 h.symm
        · intro y hy
          rcases List.mem_append.mp hy with hy | hy
          · exact hfr y hy
          · simp at hy; rw [hy]; exact n0
    · obtain ⟨y2, y3, y4, rs, rfl, sm, hp, hl, hnd, hpr, hfr, _⟩ := hP
      exact ⟨.ref p, rfl, q H' p rs sm n2 hp hl hnd hpr hfr⟩
theorem ok_many (D : Dfn K mg "many" s_many ["size"]) (B : Blt mg) (c_ask_size : Cal P w K mg base 1 "ask_size" spAskSize) (c_ways : Cal P w K mg base 1 "ways" spWays) : Cal P w K mg base 2 "many" spMany := by
  refine D.cal sc_many (fun vs H Q E h => ?_) (fun f cdv A outer s0 H vs Q E hr h => ?_)
  · obtain ⟨n, rfl, _⟩ := h
    rfl
  · obtain ⟨n, rfl, h1, h20, q⟩ := h
    refine ⟨_, (pss_cons (ps_expr (pe_c c_ask_size hr (by omega) (by rfl) (pa_cons (pv 0) pa_nil)))
      (pss_one (ps_ret (pe_ix ix_list (pe_ix ix_list (pe_c c_ways hr (by omega) (by rfl) (pa_cons (pv 0) pa_nil)) (pe_op op_mul pe_int (pv 0)) (fun _ _ => rfl)) pe_int (fun _ _ => rfl))))), ?_⟩
    refine ⟨.int n, rfl, n, rfl, h1, h20, ?_⟩
    refine ⟨.int n, rfl, n, rfl, h20, fun H1 p rs s1 np hp hl _ _ _ => ?_⟩
    obtain ⟨r, e1, e2, e3⟩ := ways_cell hl (l := 2 * n) (d := 0) (by omega) (by omega)
    exact ⟨.int n, rfl, 2, n, rfl, rfl, .inl ⟨by decide, by decide⟩, p, _, _, _, rfl, rfl, sqL hp, e1 _ (by omega), r, _, 0, _, rfl, rfl, sqL e2, e3 _ rfl, q H1 s1⟩
theorem ok_arcs_at (D : Dfn K mg "arcs_at" s_arcs_at ["size", "number"]) (B : Blt mg) (c_ask_size : Cal P w K mg base 1 "ask_size" spAskSize) (c_ways : Cal P w K mg base 1 "ways" spWays) (c_arcs_of : Cal P w K mg base 1 "arcs_of" (spArcsOf K)) : Cal P w K mg base 2 "arcs_at" spArcsAt := by
  refine D.cal sc_arcs_at (fun vs H Q E h => ?_) (fun f cdv A outer s0 H vs Q E hr h => ?_)
  · obtain ⟨n, N, fd, rfl, _⟩ := h
    rfl
  · obtain ⟨n, N, fd, rfl, h1, h20, hN, hA, hW, q⟩ := h
    refine ⟨_, (pss_cons (ps_expr (pe_c c_ask_size hr (by omega) (by rfl) (pa_cons (pv 0) pa_nil)))
      (pss_cons (ps_set (i := 2) sc_arcs_at.nd rfl (.inl rfl) (pe_c c_ways hr (by omega) (by rfl) (pa_cons (pv 0) pa_nil)))
      (pss_cons (ps_if (pt_not (pt_chain op_le op_lt pe_int (pv 1) (pe_ix ix_list (pe_ix ix_list (pv 2) (pe_op op_mul pe_int (pv 0)) (fun _ _ => rfl)) pe_int (fun _ _ => rfl))))
        (pss_one (ps_never))
        pss_nil)
      (pss_cons (ps_set (i := 3) sc_arcs_at.nd rfl (.inl rfl) pe_str)
      (pss_cons (ps_set (i := 4) sc_arcs_at.nd rfl (.inl rfl) pe_int)
      (pss_cons (ps_for PassesOwn.never rfl (pi_revR (by rfl) B.reversed_ (prg_1 (by rfl) B.range_ (pe_op op_mul pe_int (pv 0)))) (pg_name (i := 5) sc_arcs_at.nd rfl (.inl rfl))
        (pss_one (ps_if (pt_cmpR op_lt (pv 1) (pe_ix ix_list (pe_ix ix_list (pv 2) (pv 5) (fun _ _ => rfl)) (pe_op op_add (pv 4) pe_int) (fun _ _ => rfl)) (nomark _))
          (pss_cons (ps_set (i := 3) sc_arcs_at.nd rfl (.inl rfl) (pe_op op_add_str (pv 3) pe_str))
          (pss_one (ps_set (i := 4) sc_arcs_at.nd rfl (.inl rfl) (pe_op op_add (pv 4) pe_int))))
          (pss_cons (ps_set (i := 1) sc_arcs_at.nd rfl (.inl rfl) (pe_op op_sub (pv 1) (pe_ix ix_list (pe_ix ix_list (pv 2) (pv 5) (fun _ _ => rfl)) (pe_op op_add (pv 4) pe_int) (fun _ _ => rfl))))
          (pss_cons (ps_set (i := 3) sc_arcs_at.nd rfl (.inl rfl) (pe_op op_add_str (pv 3) pe_str))
          (pss_one (ps_set (i := 4) sc_arcs_at.nd rfl (.inl rfl) (pe_op op_sub (pv 4) pe_int))))))))
      (pss_one (ps_ret (pe_c c_arcs_of hr (by omega) (by rfl) (pa_cons (pv 3) pa_nil)))))))))), ?_⟩
    refine ⟨.int n, rfl, n, rfl, h1, h20, ?_⟩
    refine ⟨.int n, rfl, n, rfl, h20, fun H1 p rs s1 np hp hl _ _ _ => ?_⟩
    obtain ⟨r, e1, e2, e3⟩ := ways_cell hl (l := 2 * n) (d := 0) (by omega) (by omega)
    refine ⟨.int N, rfl, _, _, rfl, rfl, _, rfl, ?_⟩
    rw [decide_eq_true (by omega)]
    refine iteT ⟨.ref p, rfl, .int n, rfl, 2, n, rfl, rfl, .inl ⟨by decide, by decide⟩, p, _, _, _, rfl, rfl, sqL hp, e1 _ (by omega), r, _, 0, _, rfl, rfl, sqL e2, e3 _ rfl, _, _, rfl, rfl, _, rfl, ?_⟩
    rw [decide_eq_true (by omega)]
    refine iteF ?_
    -- the word
    refine ⟨.int n, rfl, 2, n, rfl, rfl, .inl ⟨by decide, by decide⟩, _, rfl, by decide, by decide, by omega, by omega, ?_⟩
    rw [show (2 * (n : Int) - 0).toNat = 2 * n by omega]
    refine for_it walk_rangeC (fun i σ H' => H' = H1 ∧ ∃ (y5 : Option V) (pre : List Bool) (d c : Nat), σ = [some (.int (n : Int)), some (.int (c : Int)), some (.ref p), some (.str (tx (Rm.enc pre))), some (.int (d : Int)), y5] ∧ pre.length = i ∧ i ≤ 2 * n ∧ d ≤ i ∧ c < Rm.w (2 * n - i) d ∧ pre ++ Rm.unr (2 * n - i) d c = Rm.unr (2 * n) 0 N)
      ⟨rfl, none, [], 0, N, by rw [tx_nil]; rfl, rfl, by omega, by omega, hN, rfl⟩ (fun _ _ _ _ _ => True.intro) (fun i v σ H' H'' hi hP hY => ?_) (fun σ H' hP => ?_)
    · obtain ⟨rfl, y5, pre, d, c, rfl, hpl, _, hd, hc, hu⟩ := hP
      obtain ⟨rfl, rfl⟩ := hY
      obtain ⟨l, hlm⟩ : ∃ l, 2 * n - i = l + 1 := ⟨2 * n - i - 1, by omega⟩
      have hln : 2 * n - (i + 1) = l := by omega
      rw [hlm] at hc hu
      have hv : (0 + (((2 * n : Nat) : Nat) : Int) - 1 + (i : Int) * (-1) : Int) = (l : Int) := by omega
      show gName 5 (V.int (0 + (((2 * n : Nat) : Nat) : Int) - 1 + ((i : Nat) : Int) * (-1))) _ _ _
      rw [hv]
      obtain ⟨r2, f1, f2, f3⟩ := ways_cell hl (l := l) (d := d + 1) (by omega) (by omega)
      have hlen : (Rm.enc pre).length = i := by unfold Rm.enc; rw [List.length_map]; exact hpl
      refine ⟨.int c, rfl, .ref p, rfl, .int l, rfl, p, _, _, _, rfl, rfl, sqL hp, f1 _ rfl, .int d, rfl, _, _, rfl, rfl, r2, _, _, _, rfl, rfl, sqL f2, f3 _ (by omega), _, _, rfl, rfl, _, rfl, ?_⟩
      rw [Rm.unr_succ] at hu
      by_cases cc : c < Rm.w l (d + 1)
      · rw [decide_eq_true (by omega)]
        rw [if_pos cc] at hu
        refine iteT ⟨_, rfl, _, _, rfl, rfl, ?_, .int d, rfl, _, _, rfl, rfl, ?_⟩
        · rw [tx_lp, tx_len, tx_len, hlen]
          exact small63' (by show _ + 1 ≤ _; omega)
        · refine ⟨rfl, some (.int (l : Int)), pre ++ [true], d + 1, c, ?_, by simp [hpl], by omega, by omega, by rw [hln]; exact cc, by rw [hln, List.append_assoc]; exact hu⟩
          rw [tx_lp, tx_app]
          simp [Rm.enc]
      · rw [decide_eq_false (by omega)]
        rw [if_neg cc] at hu
        rw [Rm.w_succ] at hc
        have hd0 : 0 < d := by
          by_cases z : 0 < d
          · exact z
          · rw [if_neg z] at hc; omega
        rw [if_pos hd0] at hc
        refine iteF ⟨.int c, rfl, .ref p, rfl, .int l, rfl, p, _, _, _, rfl, rfl, sqL hp, f1 _ rfl, .int d, rfl, _, _, rfl, rfl, r2, _, _, _, rfl, rfl, sqL f2, f3 _ (by omega), _, _, rfl, rfl, ?_⟩
        refine ⟨_, rfl, _, _, rfl, rfl, ?_, .int d, rfl, _, _, rfl, rfl, ?_⟩
        · rw [tx_rp, tx_len, tx_len, hlen]
          exact small63' (by show _ + 1 ≤ _; omega)
        · refine ⟨rfl, some (.int (l : Int)), pre ++ [false], d - 1, c - Rm.w l (d + 1), ?_, by simp [hpl], by omega, by omega, by rw [hln]; omega, by rw [hln, List.append_assoc]; exact hu⟩
          rw [tx_rp, tx_app]
          have z1 : (c : Int) - ((Rm.w l (d + 1) : Nat) : Int) = ((c - Rm.w l (d + 1) : Nat) : Int) := by omega
          have z2 : (d : Int) - 1 = ((d - 1 : Nat) : Int) := by omega
          dsimp only
          rw [z1, z2]
          simp [Rm.enc]
    · obtain ⟨rfl, y5, pre, d, c, rfl, hpl, _, hd, hc, hu⟩ := hP
      rw [Nat.sub_self] at hu
      have e : pre = Rm.unr (2 * n) 0 N := by
        rw [← hu]
        exact (List.append_nil pre).symm
      refine ⟨_, rfl, zs fd, Rm.arcs_good hA h1 h20, by rw [hW, e]; rfl, fun H2 p2 s2 np2 hp2 => q H2 p2 (s1.trans s2) (s1.free np2) hp2⟩
end

end Rv

namespace Rv
open PySem PySem.Spec PyProof.Rows L2
open Rm (zs at')
/-! ### number_of -/
abbrev s_number_of : Stmt := topS 15
theorem sc_number_of : FnScope ["arcs", "rows", "number", "depth", "k"] ["arcs"] (defScope s_number_of) := ⟨rfl, rfl, rfl, by decide +kernel, rfl, by decide +kernel, by decide +kernel⟩
def spNumberOf (K : PySem.W.Frag) : Sp := fun vs H Q _ => ∃ (a : Addr) (n : Nat) (fd : List Nat), vs = [.ref a] ∧ SqL K H a (vn fd) ∧ Rm.ArcsL n fd ∧ 1 ≤ n ∧ n ≤ 20 ∧ ∀ H', Same H H' → Q (.int ((Rm.rk 0 (Rm.bits (2 * n) (at' fd)) : Nat) : Int)) H'
section
variable {P : Program} {w : World} {K : PySem.W.Frag} {mg : Str → Option Value} {base : Heap}
theorem ok_number_of (D : Dfn K mg "number_of" s_number_of ["arcs"]) (B : Blt mg) (c_ask : Cal P w K mg base 2 "ask" (spAsk K)) (c_ways : Cal P w K mg base 1 "ways" spWays) : Cal P w K mg base 3 "number_of" (spNumberOf K) := by
  refine D.cal sc_number_of (fun vs H Q E h => ?_) (fun f cdv A outer s0 H vs Q E hr h => ?_)
  · obtain ⟨a, n, fd, rfl, _⟩ := h
    rfl
  · obtain ⟨a, n, fd, rfl, ha, hA, h1, h20, q⟩ := h
    refine ⟨_, (pss_cons (ps_expr (pe_c c_ask hr (by omega) (by rfl) (pa_cons (pv 0) pa_nil)))
      (pss_cons (ps_set (i := 1) sc_number_of.nd rfl (.inl rfl) (pe_c c_ways hr (by omega) (by rfl) (pa_cons (pe_op op_fdivN (pe_callB call_len_seq (by rfl) B.len_ PySem.boot_len (pa_cons (pv 0) pa_nil)) pe_int) pa_nil)))
      (pss_cons (ps_set (i := 2) sc_number_of.nd rfl (.inl rfl) pe_int)
      (pss_cons (ps_set (i := 3) sc_number_of.nd rfl (.inl rfl) pe_int)
      (pss_cons (ps_for PassesOwn.never rfl (pi_range1 (by rfl) B.range_ (pa_cons (pe_callB call_len_seq (by rfl) B.len_ PySem.boot_len (pa_cons (pv 0) pa_nil)) pa_nil)) (pg_name (i := 4) sc_number_of.nd rfl (.inl rfl))
        (pss_one (ps_if (pt_cmpR op_gt (pe_ix ix_list (pv 0) (pv 4) (fun _ _ => rfl)) (pv 4) (nomark _))
          (pss_one (ps_set (i := 3) sc_number_of.nd rfl (.inl rfl) (pe_op op_add (pv 3) pe_int)))
          (pss_cons (ps_set (i := 2) sc_number_of.nd rfl (.inl rfl) (pe_op op_add (pv 2) (pe_ix ix_list (pe_ix ix_list (pv 1) (pe_op op_sub (pe_op op_sub (pe_callB call_len_seq (by rfl) B.len_ PySem.boot_len (pa_cons (pv 0) pa_nil)) pe_int) (pv 4)) (fun _ _ => rfl)) (pe_op op_add (pv 3) pe_int) (fun _ _ => rfl))))
          (pss_one (ps_set (i := 3) sc_number_of.nd rfl (.inl rfl) (pe_op op_sub (pv 3) pe_int)))))))
      (pss_one (ps_ret (pv 2)))))))), ?_⟩
    have hln := hA.len
    refine ⟨.ref a, rfl, a, zs fd, rfl, ha, Rm.arcs_good hA h1 h20, fun H1 s1 => ?_⟩
    have ha1 := s1.seq ha
    refine ⟨.ref a, rfl, a, _, rfl, .inl ha1, _, _, rfl, rfl, ⟨by decide, by decide⟩, n, by rw [vn_len, hln]; dsimp only; rw [fdiv2]; rfl, h20, fun H2 p rs s2 np hp hl _ _ _ => ?_⟩
    have ha2 := s2.seq ha1
    refine ⟨.ref a, rfl, a, _, rfl, .inl ha2, _, rfl, by rw [vn_len]; omega, by rw [vn_len]; omega, ?_⟩
    rw [show (((vn fd).length : Nat) : Int).toNat = 2 * n by rw [vn_len, hln]; omega]
    refine for_range (lo := 0) (n := 2 * n) (fun i σ H' => H' = H2 ∧ ∃ (y4 : Option V) (d c : Nat), σ = [some (.ref a), some (.ref p), some (.int (c : Int)), some (.int (d : Int)), y4] ∧ d ≤ i ∧ Rm.okw d ((Rm.bits (2 * n) (at' fd)).drop i) ∧ c + Rm.rk d ((Rm.bits (2 * n) (at' fd)).drop i) = Rm.rk 0 (Rm.bits (2 * n) (at' fd)))
      ⟨rfl, none, 0, 0, rfl, Nat.le_refl _, Rm.arcs_okw hA h1 h20, by rw [List.drop_zero, Nat.zero_add]⟩ (fun i σ H' hi hP => ?_) (fun σ H' hP => ?_)
    · obtain ⟨rfl, y4, d, c, rfl, hd, ho, hk⟩ := hP
      rw [Int.zero_add]
      have hbl := Rm.bits_len (2 * n) (at' fd)
      have hc : (Rm.bits (2 * n) (at' fd)).drop i = decide (i < at' fd i) :: (Rm.bits (2 * n) (at' fd)).drop (i + 1) := by
        rw [List.drop_eq_getElem_cons (by rw [hbl]; exact hi)]
        congr 1
        simp [Rm.bits]
      rw [hc] at ho hk
      refine ⟨.ref a, rfl, .int i, rfl, a, _, _, _, rfl, rfl, ha2, vn_at (by omega) rfl, .int i, rfl, _, _, rfl, rfl, _, rfl, ?_⟩
      by_cases e : i < at' fd i
      · rw [decide_eq_true (show (i : Int) < ((at' fd i : Nat) : Int) by omega)]
        rw [decide_eq_true e] at ho hk
        exact iteT ⟨.int d, rfl, _, _, rfl, rfl, rfl, _, d + 1, c, rfl, by omega, ho, hk⟩
      · rw [decide_eq_false (show ¬ (i : Int) < ((at' fd i : Nat) : Int) by omega)]
        rw [decide_eq_false e] at ho hk
        obtain ⟨hd0, ho⟩ := ho
        have hk : c + (Rm.w ((Rm.bits (2 * n) (at' fd)).drop (i + 1)).length (d + 1) + Rm.rk (d - 1) ((Rm.bits (2 * n) (at' fd)).drop (i + 1))) = Rm.rk 0 (Rm.bits (2 * n) (at' fd)) := hk
        rw [List.length_drop, hbl] at hk
        obtain ⟨r2, f1, f2, f3⟩ := ways_cell hl (l := 2 * n - (i + 1)) (d := d + 1) (by omega) (by omega)
        refine iteF ⟨_, rfl, .ref p, rfl, .ref a, rfl, a, _, rfl, .inl ha2, _, _, rfl, rfl, .int i, rfl, _, _, rfl, rfl, p, _, _, _, rfl, rfl, sqL hp, f1 _ (by rw [vn_len]; omega), .int d, rfl, _, _, rfl, rfl, r2, _, _, _, rfl, rfl, sqL f2, f3 _ (by omega), _, _, rfl, rfl, .int d, rfl, _, _, rfl, rfl, ?_⟩
        refine ⟨rfl, some (.int (i : Int)), d - 1, c + Rm.w (2 * n - (i + 1)) (d + 1), ?_, by omega, ho, by omega⟩
        have z2 : (d : Int) - 1 = ((d - 1 : Nat) : Int) := by omega
        have z1 : (c : Int) + ((Rm.w (2 * n - (i + 1)) (d + 1) : Nat) : Int) = ((c + Rm.w (2 * n - (i + 1)) (d + 1) : Nat) : Int) := by omega
        dsimp only
        rw [z2, z1]
        rfl
    · obtain ⟨rfl, y4, d, c, rfl, hd, ho, hk⟩ := hP
      rw [List.drop_of_length_le (by rw [Rm.bits_len]; exact Nat.le_refl _)] at hk
      have : c = Rm.rk 0 (Rm.bits (2 * n) (at' fd)) := by
        rw [← hk]
        rfl
      rw [this]
      exact ⟨_, rfl, q _ (s1.trans s2)⟩
end

end Rv

namespace Rv
open PySem PySem.Spec PyProof.Rows L2
open Rm (zs at')
/-! ### _law_word -/
abbrev s_law_word : Stmt := topS 22
theorem sc_law_word : FnScope ["arcs", "k"] ["arcs"] (defScope s_law_word) := ⟨rfl, rfl, rfl, by decide +kernel, rfl, by decide +kernel, by decide +kernel⟩
theorem pickS (b : Bool) : atI [V.str (("(" : String) : Str), V.str ((")" : String) : Str)] (if b then 1 else 0) = some (.str (tx [if b then 41 else 40])) := by
  cases b
  · show some (V.str (("(" : String) : Str)) = _
    rw [tx_lp]; rfl
  · show some (V.str ((")" : String) : Str)) = _
    rw [tx_rp]; rfl
def spLawWord (K : PySem.W.Frag) : Sp := fun vs H Q _ => ∃ (a : Addr) (s : List Int), vs = [.ref a] ∧ SqL K H a (vi s) ∧ Rm.Good s ∧ ∀ H', Same H H' → Q (.str (tx (Rm.wcs s))) H'
section
variable {P : Program} {w : World} {K : PySem.W.Frag} {mg : Str → Option Value} {base : Heap}
theorem ok_law_word (D : Dfn K mg "_law_word" s_law_word ["arcs"]) (B : Blt mg) : Cal P w K mg base 1 "_law_word" (spLawWord K) := by
  refine D.cal sc_law_word (fun vs H Q E h => ?_) (fun f cdv A outer s0 H vs Q E hr h => ?_)
  · obtain ⟨a, s, rfl, _⟩ := h
    rfl
  · obtain ⟨a, s, rfl, hS, G, q⟩ := h
    refine ⟨_, (pss_one (ps_ret (pe_join pe_str (pe_lc (own := [("k", 1)]) (g := gName 1) (tt := tYes) rfl sc_law_word.nd (pi_range1 (by rfl) B.range_ (pa_cons (pe_callB call_len_seq (by rfl) B.len_ PySem.boot_len (pa_cons (pv 0) pa_nil)) pa_nil)) (blkOk_by (N := ["arcs", "k"]) (sc := defScope s_law_word) (by decide +kernel)) (fun _ _ _ _ _ => pg_name (i := 1) sc_law_word.nd rfl (Or.inl rfl)) (fun _ _ _ _ _ => pts_nil) (fun _ _ _ _ _ => (pe_ix (r := rIxL K) ix_list (pe_lst (pa_cons pe_str (pa_cons pe_str pa_nil))) (pe_callTy call_int1 (by rfl) B.int_ (by decide +kernel) (pa_cons (pe_cmpR op_lt (pe_ix (r := rIxL K) ix_list (pv 0) (pv 1) (fun _ _ => rfl)) (pv 1) (nomark _)) pa_nil)) (fun _ _ => rfl))))))), ?_⟩
    have hL := G.1
    refine ⟨⟨_, rfl⟩, .ref a, rfl, a, _, rfl, .inl hS, _, rfl, by rw [List.length_map]; omega, by rw [List.length_map]; omega, fun p np => ?_⟩
    rw [show ((vi s).length : Int).toNat = s.length by rw [List.length_map]; omega]
    refine lc_range (lo := 0) (n := s.length) (fun i H' => Sx [p] H H' ∧ H' p = some (.lst (((Rm.wcs s).take i).map fun c => V.str (tx [c])))) ⟨Sx.of (same_new np), upd_same⟩ (fun i H' hi hP => ?_) (fun H' hP => ?_)
    · obtain ⟨sx, hp⟩ := hP
      rw [Int.zero_add]
      have S0 : Same H H' := fun u o e => sx u o (by simp; exact ne_of_none e np) e
      refine ⟨rfl, ?_⟩
      unfold tYes
      refine iteT ⟨by show 2 ≤ sizeLine; decide, fun x nx => ?_⟩
      have snx := same_new (o := .lst [V.str (("(" : String) : Str), V.str ((")" : String) : Str)]) nx
      have hS' := (S0.trans snx).seq hS
      have hw := Rm.wcs_get hi
      have hne := (G.2.1 i hi).2.2.1
      refine ⟨.ref a, rfl, .int i, rfl, a, _, _, _, rfl, rfl, hS', vi_at hi rfl, .int i, rfl, _, _, rfl, rfl, .inr ⟨_, rfl, x, _, _, _, rfl, rfl, sqL upd_same, pickS _, _, snx _ _ hp, ?_, (sx.trans (Sx.of snx)).upd (by simp), ?_⟩⟩
      · rw [List.length_map, List.length_take]
        exact small63 (by omega)
      · have e : (if decide (Rm.g s i < (i : Int)) = true then 41 else 40) = (if (i : Int) < Rm.g s i then 40 else 41 : Nat) := by
          by_cases h : (i : Int) < Rm.g s i
          · rw [if_pos h, if_neg (by rw [decide_eq_true_eq]; omega)]
          · rw [if_neg h, if_pos (by rw [decide_eq_true_eq]; omega)]
        rw [upd_same, e, List.take_add_one, hw, List.map_append]
        rfl
    · obtain ⟨sx, hp⟩ := hP
      have S0 : Same H H' := fun u o e => sx u o (by simp; exact ne_of_none e np) e
      rw [List.take_of_length_le (by rw [Rm.wcs_len]; exact Nat.le_refl _)] at hp
      refine ⟨_, p, (Rm.wcs s).map (fun c => tx [c]), rfl, rfl, .inl (sqL (by rw [hp, List.map_map]; rfl)), ?_, ?_⟩
      · have e1 : ((Rm.wcs s).map (fun c => tx [c])).map (·.length) = (Rm.wcs s).map (fun _ => 1) := by
          rw [List.map_map]
          exact List.map_congr_left fun c _ => tx_len [c]
        rw [e1, tx_nil, tx_len]
        have e2 : ((Rm.wcs s).map (fun _ => 1)).sum = (Rm.wcs s).length := by
          generalize Rm.wcs s = l
          induction l with
          | nil => rfl
          | cons x r ih => rw [List.map_cons, List.sum_cons, ih, List.length_cons]; omega
        rw [e2, Rm.wcs_len]
        show s.length + _ * 0 ≤ _
        omega
      · rw [TL.join_eq, tx_nil, tx_join]
        exact q H' S0
end

end Rv

namespace Rv
open PySem PySem.Spec PyProof.Rows L2
open Rm (zs at')
/-! ### the law -/
abbrev s_law : Stmt := topS 23
theorem sc_law : FnScope ["script", "size", "counts", "k", "whole", "n", "found", "drawn", "told", "j"] ["script"] (defScope s_law) := ⟨rfl, rfl, rfl, by decide +kernel, rfl, by decide +kernel, by decide +kernel⟩
section
variable {P : Program} {w : World} {K : PySem.W.Frag} {mg : Str → Option Value} {base : Heap}
theorem ok_law {f : Addr} {fd : FuncData} (F : Fun K "law" "law" s_law f fd) (B : Blt mg) (c_law_cell_at : Cal P w K mg base 1 "_law_cell_at" (spCell K)) (c_many : Cal P w K mg base 2 "many" spMany) (c_law_whole : Cal P w K mg base 1 "_law_whole" spWhole)
    (c_arcs_at : Cal P w K mg base 2 "arcs_at" spArcsAt) (c_law_numbers : Cal P w K mg base 2 "_law_numbers" (spNumbers K)) (c_law_good : Cal P w K mg base 1 "_law_good" (spGood K)) (c_number_of : Cal P w K mg base 3 "number_of" (spNumberOf K))
    (c_law_word : Cal P w K mg base 1 "_law_word" (spLawWord K)) (c_law_arcs : Cal P w K mg base 2 "_law_arcs" (spLawArcs K)) :
    FnOk P w K mg base CX0 4 f fd ["script"] (spLaw K) := by
  refine F.ok sc_law (fun vs H Q E h => ?_) (fun cdv A outer s0 H vs Q E hr h => ?_)
  · obtain ⟨a, ns, rfl, _⟩ := h
    rfl
  · obtain ⟨a, ns, rfl, hS, h63, q⟩ := h
    refine ⟨_, (C8.pss_cut (ps_set (i := 1) sc_law.nd rfl (.inl rfl) (pe_op op_add pe_int (pe_op op_modN (pe_c c_law_cell_at hr (by omega) (by rfl) (pa_cons (pv 0) (pa_cons pe_int pa_nil))) pe_int)))
      (pss_cons (ps_set (i := 2) sc_law.nd rfl (.inr rfl) (pe_lst (pa_cons pe_int pa_nil)))
      (C8.pss_cut (ps_for PassesOwn.never rfl (pi_range2 (by rfl) B.range_ (pa_cons pe_int (pa_cons (pe_op op_add (pv 1) pe_int) pa_nil))) (pg_name (i := 3) sc_law.nd rfl (.inr rfl))
        (pss_one (ps_expr (pe_bm PySem.F.plainAttrs_list PySem.F.slot_list_append PySem.F.type_list_append mt_append (pv 2) (pa_cons (pe_callB (cr_sum rfl) (by rfl) B.sum_ (by decide +kernel) (pa_cons (pe_lc (own := [("j", 9)]) (g := gName 9) (tt := tYes) rfl sc_law.nd (pi_range1 (by rfl) B.range_ (pa_cons (pv 3) pa_nil)) (blkOk_by (N := ["script", "size", "counts", "k", "whole", "n", "found", "drawn", "told", "j"]) (sc := defScope s_law) (by decide +kernel)) (fun _ _ _ _ _ => pg_name (i := 9) sc_law.nd rfl (Or.inl rfl)) (fun _ _ _ _ _ => pts_nil) (fun _ _ _ _ _ => (pe_op op_mul (pe_ix (r := rIxL K) ix_list (pv 2) (pv 9) (fun _ _ => rfl)) (pe_ix (r := rIxL K) ix_list (pv 2) (pe_op op_sub (pe_op op_sub (pv 3) pe_int) (pv 9)) (fun _ _ => rfl))))) pa_nil)) pa_nil)))))
      (pss_cons (ps_set (i := 4) sc_law.nd rfl (.inl rfl) (pe_c c_many hr (by omega) (by rfl) (pa_cons (pv 1) pa_nil)))
      (pss_cons (ps_if (PW.pt (pw_or (pt_not (pt_val (pe_c c_law_whole hr (by omega) (by rfl) (pa_cons (pv 4) pa_nil)))) (pw_or1 (pt_cmpR op_ne (pv 4) (pe_ix ix_list (pv 2) (pv 1) (fun _ _ => rfl)) (nomark _)))))
        (pss_one (ps_ret pe_bl))
        pss_nil)
      (pss_cons (ps_set (i := 5) sc_law.nd rfl (.inl rfl) (pe_op op_modN (pe_c c_law_cell_at hr (by omega) (by rfl) (pa_cons (pv 0) (pa_cons pe_int pa_nil))) (pv 4)))
      (C8.pss_cut (ps_if (pt_cmpR op_eq (pe_op op_modN (pe_c c_law_cell_at hr (by omega) (by rfl) (pa_cons (pv 0) (pa_cons pe_int pa_nil))) pe_int) pe_int (nomark _))
        (pss_one (ps_set (i := 5) sc_law.nd rfl (.inl rfl) (pe_op op_sub (pe_op op_sub (pv 4) pe_int) (pe_op op_modN (pe_op op_modN (pv 5) pe_int) (pv 4)))))
        pss_nil)
      (pss_cons (ps_set (i := 6) sc_law.nd rfl (.inl rfl) (pe_c c_arcs_at hr (by omega) (by rfl) (pa_cons (pv 1) (pa_cons (pv 5) pa_nil))))
      (pss_cons (ps_if (PW.pt (pw_or (pt_not (pt_val (pe_c c_law_numbers hr (by omega) (by rfl) (pa_cons (pv 6) (pa_cons (pe_callTy call_list_of (by rfl) B.list_ (by decide +kernel) (pa_cons (pv 6) pa_nil)) pa_nil))))) (pw_or (pt_cmpR op_ne (pe_callB call_len_seq (by rfl) B.len_ PySem.boot_len (pa_cons (pv 6) pa_nil)) (pe_op op_mul pe_int (pv 1)) (nomark _)) (pw_or1 (pt_not (pt_val (pe_c c_law_good hr (by omega) (by rfl) (pa_cons (pv 6) pa_nil))))))))
        (pss_one (ps_ret pe_bl))
        pss_nil)
      (pss_cons (ps_if (pt_cmpR op_ne (pe_c c_number_of hr (by omega) (by rfl) (pa_cons (pe_callTy call_list_of (by rfl) B.list_ (by decide +kernel) (pa_cons (pv 6) pa_nil)) pa_nil)) (pv 5) (nomark _))
        (pss_one (ps_ret pe_bl))
        pss_nil)
      (C8.pss_cut (ps_if (PW.pt (pw_and (pt_cmpR op_lt (pe_op op_add (pv 5) pe_int) (pv 4) (nomark _)) (pw_and1 (pt_not (pt_cmpR op_lt_str (pe_c c_law_word hr (by omega) (by rfl) (pa_cons (pv 6) pa_nil)) (pe_c c_law_word hr (by omega) (by rfl) (pa_cons (pe_c c_arcs_at hr (by omega) (by rfl) (pa_cons (pv 1) (pa_cons (pe_op op_add (pv 5) pe_int) pa_nil))) pa_nil)) (nomark _))))))
        (pss_one (ps_ret pe_bl))
        pss_nil)
      (pss_cons (ps_set (i := 7) sc_law.nd rfl (.inl rfl) (pe_c c_law_arcs hr (by omega) (by rfl) (pa_cons (pv 0) (pa_cons pe_int (pa_cons (pv 1) pa_nil)))))
      (pss_cons (ps_set (i := 8) sc_law.nd rfl (.inl rfl) (pe_c c_number_of hr (by omega) (by rfl) (pa_cons (pe_callTy call_list_of (by rfl) B.list_ (by decide +kernel) (pa_cons (pv 7) pa_nil)) pa_nil)))
      (pss_one (ps_ret (pe_and (pe_c c_law_whole hr (by omega) (by rfl) (pa_cons (pv 8) pa_nil)) (pe_and (pe_chain op_le op_lt pe_int (pv 8) (pv 4)) (pe_one (pe_cmpR (op_eqD (hu64 hr)) (pe_c c_arcs_at hr (by omega) (by rfl) (pa_cons (pv 1) (pa_cons (pv 8) pa_nil))) (pv 7) (nomark _)))))))))))))))))))), ?_⟩
    -- size
    refine ⟨fun σ H' => ∃ n : Nat, σ = [some (.ref a), some (.int (n : Int)), none, none, none, none, none, none, none, none] ∧ H = H' ∧ 1 ≤ n ∧ n ≤ 20, ?_, ?_⟩
    · refine ⟨.ref a, rfl, a, ns, 0, rfl, hS, by decide, fun c => ⟨_, _, rfl, rfl, (show (20 : Int) ≠ 0 by decide), _, _, rfl, rfl, ?_⟩⟩
      obtain ⟨n, hn, h1, h20⟩ := size_of (z := c) 20 (by decide) (by decide)
      exact ⟨n, by rw [← hn]; rfl, rfl, h1, by omega⟩
    rintro σ1 H1 ⟨n, rfl, rfl, h1, h20⟩
    -- counts
    refine ⟨by show 1 ≤ sizeLine; decide, fun p np => ?_⟩
    refine ⟨fun σ H' => ∃ y3, σ = [some (.ref a), some (.int (n : Int)), some (.ref p), y3, none, none, none, none, none, none] ∧ Same H H' ∧ H' p = some (.lst (vn (Rm.catL n))), ?_, ?_⟩
    · refine ⟨_, rfl, _, _, rfl, rfl, 1, _, rfl, ⟨by decide, by decide, by omega, by omega⟩, ?_⟩
      rw [show ((n : Int) + 1 - 1).toNat = n by omega]
      have sp := same_new (o := .lst [V.int 1]) np
      refine for_range (lo := 1) (n := n) (fun i σ H' => ∃ y3, σ = [some (.ref a), some (.int (n : Int)), some (.ref p), y3, none, none, none, none, none, none] ∧ Sx [p] H H' ∧ H' p = some (.lst (vn (Rm.catL i)))) ⟨none, rfl, Sx.of sp, by rw [upd_same]; rfl⟩ (fun i σ H' hi hP => ?_) (fun σ H' hP => ?_)
      · obtain ⟨y3, rfl, sx, hp⟩ := hP
        have hcl := Rm.catL_len i
        refine ⟨.ref p, rfl, .inl ⟨rfl, _, sqL hp⟩, _, rfl, _, rfl, by omega, by omega, fun D nD => ?_⟩
        rw [show (1 + (i : Int)).toNat = i + 1 by omega]
        refine lc_range (lo := 0) (n := i + 1) (fun j H'' => Sx [D] H' H'' ∧ H'' D = some (.lst (vn (((List.range (i + 1)).map fun j => at' (Rm.catL i) j * at' (Rm.catL i) (i - j)).take j)))) ⟨Sx.of (same_new nD), upd_same⟩ (fun j H'' hj hP2 => ?_) (fun H'' hP2 => ?_)
        · obtain ⟨sx2, hD⟩ := hP2
          rw [Int.zero_add]
          have hp2 := sx2 _ _ (by simp; exact ne_of_none hp nD) hp
          refine ⟨rfl, ?_⟩
          unfold tYes
          have b1 := Rm.cat_small (n := i) (j := j) (by omega)
          refine iteT ⟨.ref p, rfl, .int j, rfl, p, _, _, _, rfl, rfl, sqL hp2, vn_at (by omega) rfl, .ref p, rfl, _, rfl, _, _, rfl, rfl, .int j, rfl, _, _, rfl, rfl, p, _, _, _, rfl, rfl, sqL hp2, vn_at (k := i - j) (by omega) (by omega), _, _, rfl, rfl, .inl ⟨by omega, by omega⟩, _, hD, ?_, sx2.upd (by simp), ?_⟩
          · rw [vn_len, List.length_take, List.length_map, List.length_range]
            exact small63 (by omega)
          · rw [upd_same]
            dsimp only
            have e : ((at' (Rm.catL i) j : Nat) : Int) * ((at' (Rm.catL i) (i - j) : Nat) : Int) = ((at' (Rm.catL i) j * at' (Rm.catL i) (i - j) : Nat) : Int) := by rw [Int.natCast_mul]
            rw [e, vn_take _ _ _ (by rw [List.getElem?_map, List.getElem?_range hj]; rfl)]
        · obtain ⟨sx2, hD⟩ := hP2
          rw [vn_full (m := i + 1) (by simp)] at hD
          have hp2 := sx2 _ _ (by simp; exact ne_of_none hp nD) hp
          refine ⟨D, _, rfl, sqL hD, p, _, _, rfl, rfl, hp2, by rw [vn_len]; exact small63 (by omega), ?_⟩
          refine ⟨_, rfl, Sx.upd (fun b u hb hu => sx2 _ _ (by simp; intro e; rw [e] at hu; have := sx D u (by rw [← e]; exact hb) hu; rw [nD] at this; cases this) (sx _ _ hb hu)) (by simp), ?_⟩
          rw [upd_same]
          have es : ∀ l : List Nat, (zs l).sum = ((l.sum : Nat) : Int) := fun l => by
            induction l with
            | nil => rfl
            | cons x r ih =>
              show ((x : Int) :: zs r).sum = _
              rw [List.sum_cons, ih, List.sum_cons]
              omega
          rw [es, vn_push, Rm.catL_succ]
      · obtain ⟨y3, rfl, sx, hp⟩ := hP
        exact ⟨_, rfl, fun b u hu => sx b u (by simp; exact ne_of_none hu np) hu, hp⟩
    rintro σ2 H2 ⟨y3, rfl, s2, hp⟩
    have hcat := Rm.w_cat h20
    have hcl := Rm.catL_len n
    -- whole
    refine ⟨.int n, rfl, n, rfl, h1, h20, fun H3 s3 => ?_⟩
    have hp := s3 _ _ hp
    have S3 := s2.trans s3
    refine ⟨_, rfl, _, rfl, true, rfl, iteF ?_⟩
    refine ⟨_, rfl, .ref p, rfl, .int n, rfl, p, _, _, _, rfl, rfl, sqL hp, vn_at (by omega) rfl, rfl, _, rfl, ?_⟩
    rw [hcat, decide_eq_true rfl]
    rw [← hcat]
    refine iteF ?_
    have wpos : 0 < Rm.w (2 * n) 0 := by
      have h := (Rm.rk_ok _ 0 (Rm.arcs_okw (Rm.mkL_arcs (Rm.str_arcs n)) h1 h20)).1
      rw [Rm.bits_len] at h
      omega
    generalize hw : Rm.w (2 * n) 0 = W at wpos hcat ⊢
    -- n
    refine ⟨.ref a, rfl, a, ns, 1, rfl, S3.seq hS, by decide, fun c => ⟨_, rfl, _, _, rfl, rfl, by omega, ?_⟩⟩
    obtain ⟨N0, e0, l0⟩ : ∃ N0 : Nat, c.fmod (W : Int) = (N0 : Int) ∧ N0 < W := by
      have h0 := Int.fmod_nonneg_of_pos c (show (0 : Int) < W by omega)
      have h1 := Int.fmod_lt_of_pos c (show (0 : Int) < W by omega)
      exact ⟨(c.fmod W).toNat, by omega, by omega⟩
    dsimp only
    rw [e0]
    refine ⟨fun σ H' => ∃ N : Nat, σ = [some (.ref a), some (.int (n : Int)), some (.ref p), y3, some (.int (W : Int)), some (.int (N : Int)), none, none, none, none] ∧ H3 = H' ∧ N < W, ?_, ?_⟩
    · refine ⟨.ref a, rfl, a, ns, 2, rfl, S3.seq hS, by decide, fun c => ⟨_, _, rfl, rfl, (show (6 : Int) ≠ 0 by decide), rfl, _, rfl, ite2 (fun e => ?_) (fun e => ?_)⟩⟩
      · refine ⟨_, rfl, _, _, rfl, rfl, .int N0, rfl, _, _, rfl, rfl, (show (3 : Int) ≠ 0 by decide), _, rfl, _, _, rfl, rfl, by omega, _, _, rfl, rfl, (W - 1 - (N0 % 3) % W : Nat), ?_, rfl, by omega⟩
        have e1 : (N0 : Int).fmod 3 = ((N0 % 3 : Nat) : Int) := by rw [Int.fmod_eq_emod_of_nonneg _ (by decide)]; rfl
        dsimp only
        rw [e1, Int.fmod_eq_emod_of_nonneg _ (by omega), ← Int.natCast_emod]
        have := Nat.mod_lt (N0 % 3) wpos
        rw [show (W : Int) - 1 - ((N0 % 3 % W : Nat) : Int) = ((W - 1 - N0 % 3 % W : Nat) : Int) by omega]
        rfl
      · exact ⟨N0, rfl, rfl, l0⟩
    rintro σ4 H4 ⟨N, rfl, rfl, lN⟩
    subst hw
    obtain ⟨ok1, ok2⟩ := Rm.unr_ok (2 * n) 0 N lN
    obtain ⟨fd, hA, hbits⟩ := Rm.arcs_of_word ok1 (Rm.unr_len _ _ _)
    have hW : Rm.wcs (zs fd) = Rm.enc (Rm.unr (2 * n) 0 N) := by rw [← hbits, Rm.enc_bits hA]
    have hfl := hA.len
    refine ⟨.int n, rfl, .int N, rfl, n, N, fd, rfl, h1, h20, lN, hA, hW, fun H5 t s5 nt ht => ?_⟩
    have S5 := S3.trans s5
    refine ⟨_, rfl, .ref t, rfl, t, _, rfl, .inl (sqL ht), fun c1 nc1 => ?_⟩
    have S6 := s5.trans (same_new (o := .lst (vn fd)) nc1)
    have t6 := same_new (o := .lst (vn fd)) nc1 _ _ ht
    have c6 : upd H5 c1 (.lst (vn fd)) c1 = some (.lst (vn fd)) := upd_same
    generalize upd H5 c1 (.lst (vn fd)) = H6 at S6 t6 c6
    refine ⟨t, c1, zs fd, zs fd, rfl, t6, sqL c6, fun _ => ⟨true, rfl, iteF ?_⟩, fun z => absurd rfl z⟩
    refine ⟨.ref t, rfl, t, _, rfl, .inl (sqL t6), .int n, rfl, _, _, rfl, rfl, .inl ⟨by decide, by decide⟩, rfl, _, rfl, ?_⟩
    rw [vn_len, hfl, decide_eq_true (by show V.int ((2 * n : Nat) : Int) = V.int (2 * (n : Int)); rw [Int.natCast_mul]; rfl)]
    refine iteF ⟨.ref t, rfl, t, zs fd, rfl, sqL t6, by rw [Rm.len_zs]; omega, fun b hb => ?_⟩
    have hbt : b = true := hb.mpr (Rm.arcs_good hA h1 h20)
    subst hbt
    refine ⟨_, rfl, iteF ?_⟩
    refine ⟨.ref t, rfl, t, _, rfl, .inl (sqL t6), fun c2 nc2 => ?_⟩
    have S7 := S6.trans (same_new (o := .lst (vn fd)) nc2)
    have t7 := same_new (o := .lst (vn fd)) nc2 _ _ t6
    have c7 : upd H6 c2 (.lst (vn fd)) c2 = some (.lst (vn fd)) := upd_same
    generalize upd H6 c2 (.lst (vn fd)) = H7 at S7 t7 c7
    refine ⟨c2, n, fd, rfl, sqL c7, hA, h1, h20, fun H8 s8 => ?_⟩
    rw [hbits, ok2]
    refine ⟨.int N, rfl, rfl, _, rfl, ?_⟩
    rw [decide_eq_true rfl]
    refine iteF ?_
    have S8 := S3.trans (S7.trans s8)
    have t8 := s8 _ _ t7
    -- the next one
    refine ⟨fun σ H' => σ = [some (.ref a), some (.int (n : Int)), some (.ref p), y3, some (.int ((Rm.w (2 * n) 0 : Nat) : Int)), some (.int (N : Int)), some (.ref t), none, none, none] ∧ Same H8 H', ?_, ?_⟩
    · refine ⟨_, rfl, _, _, rfl, rfl, _, rfl, _, _, rfl, rfl, _, rfl, ite2 (fun e => ?_) (fun e => ?_)⟩
      · have l1 : N + 1 < Rm.w (2 * n) 0 := by have := of_decide_eq_true e; omega
        obtain ⟨ok3, ok4⟩ := Rm.unr_ok (2 * n) 0 (N + 1) l1
        obtain ⟨fe, hB, hbits2⟩ := Rm.arcs_of_word ok3 (Rm.unr_len _ _ _)
        have hW2 : Rm.wcs (zs fe) = Rm.enc (Rm.unr (2 * n) 0 (N + 1)) := by rw [← hbits2, Rm.enc_bits hB]
        refine ⟨.ref t, rfl, t, zs fd, rfl, sqL t8, Rm.arcs_good hA h1 h20, fun H9 s9 => ?_⟩
        refine ⟨.int n, rfl, .int N, rfl, _, _, rfl, rfl, n, N + 1, fe, rfl, h1, h20, l1, hB, hW2, fun H10 t' s10 nt' ht' => ?_⟩
        refine ⟨t', zs fe, rfl, sqL ht', Rm.arcs_good hB h1 h20, fun H11 s11 => ?_⟩
        refine ⟨_, _, rfl, rfl, _, rfl, ?_⟩
        have hlt : (tx (Rm.wcs (zs fd))).cps.toList < (tx (Rm.wcs (zs fe))).cps.toList := by
          rw [hW, hW2]
          exact Rm.unr_lt (2 * n) 0 N (N + 1) (by omega) l1
        rw [decide_eq_true hlt]
        exact iteF ⟨rfl, (s9.trans s10).trans s11⟩
      · exact ⟨rfl, Same.refl _⟩
    rintro σ9 H9 ⟨rfl, s9⟩
    have S9 := S8.trans s9
    -- the drawn ones
    refine ⟨.ref a, rfl, _, rfl, a, ns, 3, n, rfl, S9.seq hS, by decide, h1, h20, fun H10 d fg hG s10 nd10 hd => ?_⟩
    have okg := Rm.arcs_okw hG h1 h20
    obtain ⟨lg, ug⟩ := Rm.rk_ok _ 0 okg
    rw [Rm.bits_len] at lg ug
    have hgl := hG.len
    refine ⟨.ref d, rfl, d, _, rfl, .inl (sqL hd), fun c3 nc3 => ?_⟩
    have d11 := same_new (o := .lst (vn fg)) nc3 _ _ hd
    have c11 : upd H10 c3 (.lst (vn fg)) c3 = some (.lst (vn fg)) := upd_same
    generalize upd H10 c3 (.lst (vn fg)) = H11 at d11 c11
    refine ⟨c3, n, fg, rfl, sqL c11, hG, h1, h20, fun H12 s12 => ?_⟩
    have d12 := s12 _ _ d11
    generalize hr : Rm.rk 0 (Rm.bits (2 * n) (at' fg)) = r at lg ug ⊢
    have hW3 : Rm.wcs (zs fg) = Rm.enc (Rm.unr (2 * n) 0 r) := by rw [ug, Rm.enc_bits hG]
    refine ⟨_, rfl, _, rfl, true, rfl, ?_⟩
    refine iteT ⟨.int r, rfl, _, _, rfl, rfl, _, rfl, ?_⟩
    rw [decide_eq_true (show (0 : Int) ≤ (r : Int) by omega)]
    refine iteT ⟨_, rfl, _, _, rfl, rfl, _, rfl, ?_⟩
    rw [decide_eq_true (show (r : Int) < ((Rm.w (2 * n) 0 : Nat) : Int) by omega)]
    refine iteT ⟨.int n, rfl, .int r, rfl, n, r, fg, rfl, h1, h20, lg, hG, hW3, fun H13 z s13 nz hz => ?_⟩
    refine ⟨_, rfl, rEq_ints (sqL hz) (sqL (s13 _ _ d12)) ?_⟩
    rw [decide_eq_true rfl]
    exact q _
end

end Rv

namespace Rv
open PySem PySem.Spec PyProof.Rows L2
theorem all_mk {l : PySem.W.OpenLaw} {w : World} {K : PySem.W.Frag} {h : Heap} {mg : Str → Option Value} {fa : Addr} (X : K.In h) (G : h.Ns mainGlobals mg) (hfa : mg "law" = some (.ref fa))
    {f_is_arcs : Addr} {od_is_arcs an_is_arcs : Option Addr} {sl_is_arcs : Array (Option Value)} {oc_is_arcs kV_is_arcs dc_is_arcs pm_is_arcs cd_is_arcs ct_is_arcs : Value}
    {f_ask : Addr} {od_ask an_ask : Option Addr} {sl_ask : Array (Option Value)} {oc_ask kV_ask dc_ask pm_ask cd_ask ct_ask : Value}
    {f_arcs_of : Addr} {od_arcs_of an_arcs_of : Option Addr} {sl_arcs_of : Array (Option Value)} {oc_arcs_of kV_arcs_of dc_arcs_of pm_arcs_of cd_arcs_of ct_arcs_of : Value}
    {f_ask_size : Addr} {od_ask_size an_ask_size : Option Addr} {sl_ask_size : Array (Option Value)} {oc_ask_size kV_ask_size dc_ask_size pm_ask_size cd_ask_size ct_ask_size : Value}
    {f_ways : Addr} {od_ways an_ways : Option Addr} {sl_ways : Array (Option Value)} {oc_ways kV_ways dc_ways pm_ways cd_ways ct_ways : Value}
    {f_many : Addr} {od_many an_many : Option Addr} {sl_many : Array (Option Value)} {oc_many kV_many dc_many pm_many cd_many ct_many : Value}
    {f_arcs_at : Addr} {od_arcs_at an_arcs_at : Option Addr} {sl_arcs_at : Array (Option Value)} {oc_arcs_at kV_arcs_at dc_arcs_at pm_arcs_at cd_arcs_at ct_arcs_at : Value}
    {f_number_of : Addr} {od_number_of an_number_of : Option Addr} {sl_number_of : Array (Option Value)} {oc_number_of kV_number_of dc_number_of pm_number_of cd_number_of ct_number_of : Value}
    {f_law_cell_at : Addr} {od_law_cell_at an_law_cell_at : Option Addr} {sl_law_cell_at : Array (Option Value)} {oc_law_cell_at kV_law_cell_at dc_law_cell_at pm_law_cell_at cd_law_cell_at ct_law_cell_at : Value}
    {f_law_whole : Addr} {od_law_whole an_law_whole : Option Addr} {sl_law_whole : Array (Option Value)} {oc_law_whole kV_law_whole dc_law_whole pm_law_whole cd_law_whole ct_law_whole : Value}
    {f_law_numbers : Addr} {od_law_numbers an_law_numbers : Option Addr} {sl_law_numbers : Array (Option Value)} {oc_law_numbers kV_law_numbers dc_law_numbers pm_law_numbers cd_law_numbers ct_law_numbers : Value}
    {f_law_arcs : Addr} {od_law_arcs an_law_arcs : Option Addr} {sl_law_arcs : Array (Option Value)} {oc_law_arcs kV_law_arcs dc_law_arcs pm_law_arcs cd_law_arcs ct_law_arcs : Value}
    {f_law_good : Addr} {od_law_good an_law_good : Option Addr} {sl_law_good : Array (Option Value)} {oc_law_good kV_law_good dc_law_good pm_law_good cd_law_good ct_law_good : Value}
    {f_law_word : Addr} {od_law_word an_law_word : Option Addr} {sl_law_word : Array (Option Value)} {oc_law_word kV_law_word dc_law_word pm_law_word cd_law_word ct_law_word : Value}
    {f_law : Addr} {od_law an_law : Option Addr} {sl_law : Array (Option Value)} {oc_law kV_law dc_law pm_law cd_law ct_law : Value}
    (a_is_arcs : PySem.W.nsIn K mainGlobals "is_arcs" = some (some (.ref f_is_arcs))) (l_is_arcs : K.lookup f_is_arcs = some ⟨oc_is_arcs, od_is_arcs, .func (PySem.W.fnOf "is_arcs" "is_arcs" (defArgs s_is_arcs) (defBody s_is_arcs) (defScope s_is_arcs) .none kV_is_arcs dc_is_arcs pm_is_arcs an_is_arcs cd_is_arcs ct_is_arcs), sl_is_arcs⟩) (x_is_arcs : PySem.W.codeIn K cd_is_arcs "is_arcs" = true) (k_is_arcs : PySem.W.keepIn K (.ref f_is_arcs) = true)
    (a_ask : PySem.W.nsIn K mainGlobals "ask" = some (some (.ref f_ask))) (l_ask : K.lookup f_ask = some ⟨oc_ask, od_ask, .func (PySem.W.fnOf "ask" "ask" (defArgs s_ask) (defBody s_ask) (defScope s_ask) .none kV_ask dc_ask pm_ask an_ask cd_ask ct_ask), sl_ask⟩) (x_ask : PySem.W.codeIn K cd_ask "ask" = true) (k_ask : PySem.W.keepIn K (.ref f_ask) = true)
    (a_arcs_of : PySem.W.nsIn K mainGlobals "arcs_of" = some (some (.ref f_arcs_of))) (l_arcs_of : K.lookup f_arcs_of = some ⟨oc_arcs_of, od_arcs_of, .func (PySem.W.fnOf "arcs_of" "arcs_of" (defArgs s_arcs_of) (defBody s_arcs_of) (defScope s_arcs_of) .none kV_arcs_of dc_arcs_of pm_arcs_of an_arcs_of cd_arcs_of ct_arcs_of), sl_arcs_of⟩) (x_arcs_of : PySem.W.codeIn K cd_arcs_of "arcs_of" = true) (k_arcs_of : PySem.W.keepIn K (.ref f_arcs_of) = true)
    (a_ask_size : PySem.W.nsIn K mainGlobals "ask_size" = some (some (.ref f_ask_size))) (l_ask_size : K.lookup f_ask_size = some ⟨oc_ask_size, od_ask_size, .func (PySem.W.fnOf "ask_size" "ask_size" (defArgs s_ask_size) (defBody s_ask_size) (defScope s_ask_size) .none kV_ask_size dc_ask_size pm_ask_size an_ask_size cd_ask_size ct_ask_size), sl_ask_size⟩) (x_ask_size : PySem.W.codeIn K cd_ask_size "ask_size" = true) (k_ask_size : PySem.W.keepIn K (.ref f_ask_size) = true)
    (a_ways : PySem.W.nsIn K mainGlobals "ways" = some (some (.ref f_ways))) (l_ways : K.lookup f_ways = some ⟨oc_ways, od_ways, .func (PySem.W.fnOf "ways" "ways" (defArgs s_ways) (defBody s_ways) (defScope s_ways) .none kV_ways dc_ways pm_ways an_ways cd_ways ct_ways), sl_ways⟩) (x_ways : PySem.W.codeIn K cd_ways "ways" = true) (k_ways : PySem.W.keepIn K (.ref f_ways) = true)
    (a_many : PySem.W.nsIn K mainGlobals "many" = some (some (.ref f_many))) (l_many : K.lookup f_many = some ⟨oc_many, od_many, .func (PySem.W.fnOf "many" "many" (defArgs s_many) (defBody s_many) (defScope s_many) .none kV_many dc_many pm_many an_many cd_many ct_many), sl_many⟩) (x_many : PySem.W.codeIn K cd_many "many" = true) (k_many : PySem.W.keepIn K (.ref f_many) = true)
    (a_arcs_at : PySem.W.nsIn K mainGlobals "arcs_at" = some (some (.ref f_arcs_at))) (l_arcs_at : K.lookup f_arcs_at = some ⟨oc_arcs_at, od_arcs_at, .func (PySem.W.fnOf "arcs_at" "arcs_at" (defArgs s_arcs_at) (defBody s_arcs_at) (defScope s_arcs_at) .none kV_arcs_at dc_arcs_at pm_arcs_at an_arcs_at cd_arcs_at ct_arcs_at), sl_arcs_at⟩) (x_arcs_at : PySem.W.codeIn K cd_arcs_at "arcs_at" = true) (k_arcs_at : PySem.W.keepIn K (.ref f_arcs_at) = true)
    (a_number_of : PySem.W.nsIn K mainGlobals "number_of" = some (some (.ref f_number_of))) (l_number_of : K.lookup f_number_of = some ⟨oc_number_of, od_number_of, .func (PySem.W.fnOf "number_of" "number_of" (defArgs s_number_of) (defBody s_number_of) (defScope s_number_of) .none kV_number_of dc_number_of pm_number_of an_number_of cd_number_of ct_number_of), sl_number_of⟩) (x_number_of : PySem.W.codeIn K cd_number_of "number_of" = true) (k_number_of : PySem.W.keepIn K (.ref f_number_of) = true)
    (a_law_cell_at : PySem.W.nsIn K mainGlobals "_law_cell_at" = some (some (.ref f_law_cell_at))) (l_law_cell_at : K.lookup f_law_cell_at = some ⟨oc_law_cell_at, od_law_cell_at, .func (PySem.W.fnOf "_law_cell_at" "_law_cell_at" (defArgs s_law_cell_at) (defBody s_law_cell_at) (defScope s_law_cell_at) .none kV_law_cell_at dc_law_cell_at pm_law_cell_at an_law_cell_at cd_law_cell_at ct_law_cell_at), sl_law_cell_at⟩) (x_law_cell_at : PySem.W.codeIn K cd_law_cell_at "_law_cell_at" = true) (k_law_cell_at : PySem.W.keepIn K (.ref f_law_cell_at) = true)
    (a_law_whole : PySem.W.nsIn K mainGlobals "_law_whole" = some (some (.ref f_law_whole))) (l_law_whole : K.lookup f_law_whole = some ⟨oc_law_whole, od_law_whole, .func (PySem.W.fnOf "_law_whole" "_law_whole" (defArgs s_law_whole) (defBody s_law_whole) (defScope s_law_whole) .none kV_law_whole dc_law_whole pm_law_whole an_law_whole cd_law_whole ct_law_whole), sl_law_whole⟩) (x_law_whole : PySem.W.codeIn K cd_law_whole "_law_whole" = true) (k_law_whole : PySem.W.keepIn K (.ref f_law_whole) = true)
    (a_law_numbers : PySem.W.nsIn K mainGlobals "_law_numbers" = some (some (.ref f_law_numbers))) (l_law_numbers : K.lookup f_law_numbers = some ⟨oc_law_numbers, od_law_numbers, .func (PySem.W.fnOf "_law_numbers" "_law_numbers" (defArgs s_law_numbers) (defBody s_law_numbers) (defScope s_law_numbers) .none kV_law_numbers dc_law_numbers pm_law_numbers an_law_numbers cd_law_numbers ct_law_numbers), sl_law_numbers⟩) (x_law_numbers : PySem.W.codeIn K cd_law_numbers "_law_numbers" = true) (k_law_numbers : PySem.W.keepIn K (.ref f_law_numbers) = true)
    (a_law_arcs : PySem.W.nsIn K mainGlobals "_law_arcs" = some (some (.ref f_law_arcs))) (l_law_arcs : K.lookup f_law_arcs = some ⟨oc_law_arcs, od_law_arcs, .func (PySem.W.fnOf "_law_arcs" "_law_arcs" (defArgs s_law_arcs) (defBody s_law_arcs) (defScope s_law_arcs) .none kV_law_arcs dc_law_arcs pm_law_arcs an_law_arcs cd_law_arcs ct_law_arcs), sl_law_arcs⟩) (x_law_arcs : PySem.W.codeIn K cd_law_arcs "_law_arcs" = true) (k_law_arcs : PySem.W.keepIn K (.ref f_law_arcs) = true)
    (a_law_good : PySem.W.nsIn K mainGlobals "_law_good" = some (some (.ref f_law_good))) (l_law_good : K.lookup f_law_good = some ⟨oc_law_good, od_law_good, .func (PySem.W.fnOf "_law_good" "_law_good" (defArgs s_law_good) (defBody s_law_good) (defScope s_law_good) .none kV_law_good dc_law_good pm_law_good an_law_good cd_law_good ct_law_good), sl_law_good⟩) (x_law_good : PySem.W.codeIn K cd_law_good "_law_good" = true) (k_law_good : PySem.W.keepIn K (.ref f_law_good) = true)
    (a_law_word : PySem.W.nsIn K mainGlobals "_law_word" = some (some (.ref f_law_word))) (l_law_word : K.lookup f_law_word = some ⟨oc_law_word, od_law_word, .func (PySem.W.fnOf "_law_word" "_law_word" (defArgs s_law_word) (defBody s_law_word) (defScope s_law_word) .none kV_law_word dc_law_word pm_law_word an_law_word cd_law_word ct_law_word), sl_law_word⟩) (x_law_word : PySem.W.codeIn K cd_law_word "_law_word" = true) (k_law_word : PySem.W.keepIn K (.ref f_law_word) = true)
    (a_law : PySem.W.nsIn K mainGlobals "law" = some (some (.ref f_law))) (l_law : K.lookup f_law = some ⟨oc_law, od_law, .func (PySem.W.fnOf "law" "law" (defArgs s_law) (defBody s_law) (defScope s_law) .none kV_law dc_law pm_law an_law cd_law ct_law), sl_law⟩) (x_law : PySem.W.codeIn K cd_law "law" = true) (k_law : PySem.W.keepIn K (.ref f_law) = true)
    {t_MOST : Tok} (m_MOST : PySem.W.nsIn K mainGlobals "MOST" = some (some (.int 20 t_MOST)))
    (z_len : PySem.W.nsIn K mainGlobals "len" = some none) (z_range : PySem.W.nsIn K mainGlobals "range" = some none) (z_isinstance : PySem.W.nsIn K mainGlobals "isinstance" = some none) (z_int : PySem.W.nsIn K mainGlobals "int" = some none) (z_bool : PySem.W.nsIn K mainGlobals "bool" = some none) (z_list : PySem.W.nsIn K mainGlobals "list" = some none) (z_str : PySem.W.nsIn K mainGlobals "str" = some none) (z_reversed : PySem.W.nsIn K mainGlobals "reversed" = some none) (z_min : PySem.W.nsIn K mainGlobals "min" = some none) (z_max : PySem.W.nsIn K mainGlobals "max" = some none) (z_abs : PySem.W.nsIn K mainGlobals "abs" = some none) (z_sum : PySem.W.nsIn K mainGlobals "sum" = some none) (z_set : PySem.W.nsIn K mainGlobals "set" = some none) (z_tuple : PySem.W.nsIn K mainGlobals "tuple" = some none)
    : ∃ fd : FuncData, (∀ (s : Shared) (v : Value), BindsTo s fd ⟨[v], []⟩ [("script", v)]) ∧ ∀ base : Heap, K.In base → base.Ns mainGlobals mg → FnOk l.prog w K mg base CX0 4 fa fd ["script"] (spLaw K) := by
  have e := hfa.symm.trans (PySem.W.mg_of X G a_law)
  cases e
  have B : Blt mg := ⟨PySem.W.mg_none_of X G z_len, PySem.W.mg_none_of X G z_range, PySem.W.mg_none_of X G z_isinstance, PySem.W.mg_none_of X G z_int, PySem.W.mg_none_of X G z_bool, PySem.W.mg_none_of X G z_list, PySem.W.mg_none_of X G z_str, PySem.W.mg_none_of X G z_reversed, PySem.W.mg_none_of X G z_min, PySem.W.mg_none_of X G z_max, PySem.W.mg_none_of X G z_abs, PySem.W.mg_none_of X G z_sum, PySem.W.mg_none_of X G z_set, PySem.W.mg_none_of X G z_tuple⟩
  have g_MOST := PySem.W.mg_of X G m_MOST
  have D_is_arcs : Dfn K mg "is_arcs" s_is_arcs ["some"] := ⟨f_is_arcs, _, fun_mk (st := s_is_arcs) l_is_arcs x_is_arcs k_is_arcs, PySem.W.mg_of X G a_is_arcs, (fun_mk (st := s_is_arcs) l_is_arcs x_is_arcs k_is_arcs).binds (ps := ["some"]) fun _ _ _ _ _ _ us hl => match us, hl with | [_], _ => rfl⟩
  have D_ask : Dfn K mg "ask" s_ask ["arcs"] := ⟨f_ask, _, fun_mk (st := s_ask) l_ask x_ask k_ask, PySem.W.mg_of X G a_ask, (fun_mk (st := s_ask) l_ask x_ask k_ask).binds (ps := ["arcs"]) fun _ _ _ _ _ _ us hl => match us, hl with | [_], _ => rfl⟩
  have D_arcs_of : Dfn K mg "arcs_of" s_arcs_of ["word"] := ⟨f_arcs_of, _, fun_mk (st := s_arcs_of) l_arcs_of x_arcs_of k_arcs_of, PySem.W.mg_of X G a_arcs_of, (fun_mk (st := s_arcs_of) l_arcs_of x_arcs_of k_arcs_of).binds (ps := ["word"]) fun _ _ _ _ _ _ us hl => match us, hl with | [_], _ => rfl⟩
  have D_ask_size : Dfn K mg "ask_size" s_ask_size ["size"] := ⟨f_ask_size, _, fun_mk (st := s_ask_size) l_ask_size x_ask_size k_ask_size, PySem.W.mg_of X G a_ask_size, (fun_mk (st := s_ask_size) l_ask_size x_ask_size k_ask_size).binds (ps := ["size"]) fun _ _ _ _ _ _ us hl => match us, hl with | [_], _ => rfl⟩
  have D_ways : Dfn K mg "ways" s_ways ["size"] := ⟨f_ways, _, fun_mk (st := s_ways) l_ways x_ways k_ways, PySem.W.mg_of X G a_ways, (fun_mk (st := s_ways) l_ways x_ways k_ways).binds (ps := ["size"]) fun _ _ _ _ _ _ us hl => match us, hl with | [_], _ => rfl⟩
  have D_many : Dfn K mg "many" s_many ["size"] := ⟨f_many, _, fun_mk (st := s_many) l_many x_many k_many, PySem.W.mg_of X G a_many, (fun_mk (st := s_many) l_many x_many k_many).binds (ps := ["size"]) fun _ _ _ _ _ _ us hl => match us, hl with | [_], _ => rfl⟩
  have D_arcs_at : Dfn K mg "arcs_at" s_arcs_at ["size", "number"] := ⟨f_arcs_at, _, fun_mk (st := s_arcs_at) l_arcs_at x_arcs_at k_arcs_at, PySem.W.mg_of X G a_arcs_at, (fun_mk (st := s_arcs_at) l_arcs_at x_arcs_at k_arcs_at).binds (ps := ["size", "number"]) fun _ _ _ _ _ _ us hl => match us, hl with | [_, _], _ => rfl⟩
  have D_number_of : Dfn K mg "number_of" s_number_of ["arcs"] := ⟨f_number_of, _, fun_mk (st := s_number_of) l_number_of x_number_of k_number_of, PySem.W.mg_of X G a_number_of, (fun_mk (st := s_number_of) l_number_of x_number_of k_number_of).binds (ps := ["arcs"]) fun _ _ _ _ _ _ us hl => match us, hl with | [_], _ => rfl⟩
  have D_law_cell_at : Dfn K mg "_law_cell_at" s_law_cell_at ["script", "k"] := ⟨f_law_cell_at, _, fun_mk (st := s_law_cell_at) l_law_cell_at x_law_cell_at k_law_cell_at, PySem.W.mg_of X G a_law_cell_at, (fun_mk (st := s_law_cell_at) l_law_cell_at x_law_cell_at k_law_cell_at).binds (ps := ["script", "k"]) fun _ _ _ _ _ _ us hl => match us, hl with | [_, _], _ => rfl⟩
  have D_law_whole : Dfn K mg "_law_whole" s_law_whole ["found"] := ⟨f_law_whole, _, fun_mk (st := s_law_whole) l_law_whole x_law_whole k_law_whole, PySem.W.mg_of X G a_law_whole, (fun_mk (st := s_law_whole) l_law_whole x_law_whole k_law_whole).binds (ps := ["found"]) fun _ _ _ _ _ _ us hl => match us, hl with | [_], _ => rfl⟩
  have D_law_numbers : Dfn K mg "_law_numbers" s_law_numbers ["found", "due"] := ⟨f_law_numbers, _, fun_mk (st := s_law_numbers) l_law_numbers x_law_numbers k_law_numbers, PySem.W.mg_of X G a_law_numbers, (fun_mk (st := s_law_numbers) l_law_numbers x_law_numbers k_law_numbers).binds (ps := ["found", "due"]) fun _ _ _ _ _ _ us hl => match us, hl with | [_, _], _ => rfl⟩
  have D_law_arcs : Dfn K mg "_law_arcs" s_law_arcs ["script", "at", "size"] := ⟨f_law_arcs, _, fun_mk (st := s_law_arcs) l_law_arcs x_law_arcs k_law_arcs, PySem.W.mg_of X G a_law_arcs, (fun_mk (st := s_law_arcs) l_law_arcs x_law_arcs k_law_arcs).binds (ps := ["script", "at", "size"]) fun _ _ _ _ _ _ us hl => match us, hl with | [_, _, _], _ => rfl⟩
  have D_law_good : Dfn K mg "_law_good" s_law_good ["some"] := ⟨f_law_good, _, fun_mk (st := s_law_good) l_law_good x_law_good k_law_good, PySem.W.mg_of X G a_law_good, (fun_mk (st := s_law_good) l_law_good x_law_good k_law_good).binds (ps := ["some"]) fun _ _ _ _ _ _ us hl => match us, hl with | [_], _ => rfl⟩
  have D_law_word : Dfn K mg "_law_word" s_law_word ["arcs"] := ⟨f_law_word, _, fun_mk (st := s_law_word) l_law_word x_law_word k_law_word, PySem.W.mg_of X G a_law_word, (fun_mk (st := s_law_word) l_law_word x_law_word k_law_word).binds (ps := ["arcs"]) fun _ _ _ _ _ _ us hl => match us, hl with | [_], _ => rfl⟩
  refine ⟨PySem.W.fnOf "law" "law" (defArgs s_law) (defBody s_law) (defScope s_law) .none kV_law dc_law pm_law an_law cd_law ct_law, fun s v => .of_eq rfl, fun base _ _ => ?_⟩
  have c_law_cell_at := ok_law_cell_at (P := l.prog) (w := w) (K := K) (mg := mg) (base := base) D_law_cell_at B
  have c_law_whole := ok_law_whole (P := l.prog) (w := w) (K := K) (mg := mg) (base := base) D_law_whole B
  have c_law_numbers := ok_law_numbers (P := l.prog) (w := w) (K := K) (mg := mg) (base := base) D_law_numbers B c_law_whole
  have c_law_arcs := ok_law_arcs (P := l.prog) (w := w) (K := K) (mg := mg) (base := base) D_law_arcs B c_law_cell_at
  have c_law_good := ok_law_good (P := l.prog) (w := w) (K := K) (mg := mg) (base := base) D_law_good B
  have c_law_word := ok_law_word (P := l.prog) (w := w) (K := K) (mg := mg) (base := base) D_law_word B
  have c_is_arcs := ok_is_arcs (P := l.prog) (w := w) (K := K) (mg := mg) (base := base) D_is_arcs B g_MOST
  have c_ask := ok_ask (P := l.prog) (w := w) (K := K) (mg := mg) (base := base) D_ask c_is_arcs
  have c_arcs_of := ok_arcs_of (P := l.prog) (w := w) (K := K) (mg := mg) (base := base) D_arcs_of B g_MOST
  have c_ask_size := ok_ask_size (P := l.prog) (w := w) (K := K) (mg := mg) (base := base) D_ask_size g_MOST
  have c_ways := ok_ways (P := l.prog) (w := w) (K := K) (mg := mg) (base := base) D_ways B
  have c_many := ok_many (P := l.prog) (w := w) (K := K) (mg := mg) (base := base) D_many B c_ask_size c_ways
  have c_arcs_at := ok_arcs_at (P := l.prog) (w := w) (K := K) (mg := mg) (base := base) D_arcs_at B c_ask_size c_ways c_arcs_of
  have c_number_of := ok_number_of (P := l.prog) (w := w) (K := K) (mg := mg) (base := base) D_number_of B c_ask c_ways
  exact ok_law (fun_mk (st := s_law) l_law x_law k_law) B c_law_cell_at c_many c_law_whole c_arcs_at c_law_numbers c_law_good c_number_of c_law_word c_law_arcs
end Rv
open PySem PySem.W PyProof.Rows
set_option maxHeartbeats 0 in
theorem PySem.Challenge.cw_riverloops_k05_whole_numbers_there_and_b_holds : PySem.Challenge.rw_riverloops_k05_whole_numbers_there_and_b.Holds := by
  w_on; o_law; k_head; (case hw => w_witness2)
  k_fill
  refine L2.walk_of (l := PySem.Challenge.rw_riverloops_k05_whole_numbers_there_and_b) (n := 63) (k := 4) (x := "script") (CX := fun _ => L2.CX0) (sp := fun w => Rv.spLaw _) rfl (by decide) rfl ⟨rfl, by decide, by decide⟩ (fun w h Y => PySem.W.kIn_of Y) ?F (fun _ _ a ns hl _ hS => ⟨a, ns, rfl, hS, hl, fun _ => rfl⟩) (fun _ _ _ _ _ h => h)
  case F =>
    intro w mg fa h KX G hmg
    refine' Rv.all_mk KX G hmg ?a_is_arcs ?l_is_arcs ?x_is_arcs ?k_is_arcs ?a_ask ?l_ask ?x_ask ?k_ask ?a_arcs_of ?l_arcs_of ?x_arcs_of ?k_arcs_of ?a_ask_size ?l_ask_size ?x_ask_size ?k_ask_size ?a_ways ?l_ways ?x_ways ?k_ways ?a_many ?l_many ?x_many ?k_many ?a_arcs_at ?l_arcs_at ?x_arcs_at ?k_arcs_at ?a_number_of ?l_number_of ?x_number_of ?k_number_of ?a_law_cell_at ?l_law_cell_at ?x_law_cell_at ?k_law_cell_at ?a_law_whole ?l_law_whole ?x_law_whole ?k_law_whole ?a_law_numbers ?l_law_numbers ?x_law_numbers ?k_law_numbers ?a_law_arcs ?l_law_arcs ?x_law_arcs ?k_law_arcs ?a_law_good ?l_law_good ?x_law_good ?k_law_good ?a_law_word ?l_law_word ?x_law_word ?k_law_word ?a_law ?l_law ?x_law ?k_law ?m_MOST ?z_len ?z_range ?z_isinstance ?z_int ?z_bool ?z_list ?z_str ?z_reversed ?z_min ?z_max ?z_abs ?z_sum ?z_set ?z_tuple
    (case a_is_arcs => k_is); (case l_is_arcs => k_is); (case x_is_arcs => k_is); (case k_is_arcs => k_is); (case a_ask => k_is); (case l_ask => k_is); (case x_ask => k_is); (case k_ask => k_is); (case a_arcs_of => k_is); (case l_arcs_of => k_is); (case x_arcs_of => k_is); (case k_arcs_of => k_is); (case a_ask_size => k_is); (case l_ask_size => k_is); (case x_ask_size => k_is); (case k_ask_size => k_is); (case a_ways => k_is); (case l_ways => k_is); (case x_ways => k_is); (case k_ways => k_is); (case a_many => k_is); (case l_many => k_is); (case x_many => k_is); (case k_many => k_is); (case a_arcs_at => k_is); (case l_arcs_at => k_is); (case x_arcs_at => k_is); (case k_arcs_at => k_is); (case a_number_of => k_is); (case l_number_of => k_is); (case x_number_of => k_is); (case k_number_of => k_is); (case a_law_cell_at => k_is); (case l_law_cell_at => k_is); (case x_law_cell_at => k_is); (case k_law_cell_at => k_is); (case a_law_whole => k_is); (case l_law_whole => k_is); (case x_law_whole => k_is); (case k_law_whole => k_is); (case a_law_numbers => k_is); (case l_law_numbers => k_is); (case x_law_numbers => k_is); (case k_law_numbers => k_is); (case a_law_arcs => k_is); (case l_law_arcs => k_is); (case x_law_arcs => k_is); (case k_law_arcs => k_is); (case a_law_good => k_is); (case l_law_good => k_is); (case x_law_good => k_is); (case k_law_good => k_is); (case a_law_word => k_is); (case l_law_word => k_is); (case x_law_word => k_is); (case k_law_word => k_is); (case a_law => k_is); (case l_law => k_is); (case x_law => k_is); (case k_law => k_is); (case m_MOST => k_is); (case z_len => k_is); (case z_range => k_is); (case z_isinstance => k_is); (case z_int => k_is); (case z_bool => k_is); (case z_list => k_is); (case z_str => k_is); (case z_reversed => k_is); (case z_min => k_is); (case z_max => k_is); (case z_abs => k_is); (case z_sum => k_is); (case z_set => k_is); (case z_tuple => k_is)
