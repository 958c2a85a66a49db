import PyProof.Rows.All
import Wide.All
import OpenK.AllK
import Wide.FinOn
import PySem.Challenge.RW_riverloops_k02_what_is_none
import HandS.ForMost
import HandS.IsInst
import HandS.RevRange
import HandS.Style
import HandS.Conv
import HandS.SetFor
import HandS.More
import HandS.Walk
import KE.Datum
import HandS.Codes
import HandS.ForExc
import HandS.ExcIs
set_option Elab.async false
set_option linter.all false
set_option maxRecDepth 100000
set_option maxHeartbeats 4000000

set_option linter.all false
namespace Rm

/-! ## lists of whole numbers that tell arcs -/
def g (s : List Int) (k : Nat) : Int := s.getD k 0
def OkAt (s : List Int) (k : Nat) : Prop := 0 ≤ g s k ∧ g s k < (s.length : Int) ∧ g s k ≠ (k : Int) ∧ g s (g s k).toNat = (k : Int)
def NcI (s : List Int) : Prop := ∀ j k : Nat, j < k → k < s.length → (k : Int) < g s j → g s j < g s k → False
def Good (s : List Int) : Prop := (2 ≤ s.length ∧ s.length ≤ 40) ∧ (∀ k : Nat, k < s.length → OkAt s k) ∧ NcI s
def opens (s : List Int) (k : Nat) : List Nat := (List.range k).filter (fun j => decide ((k : Int) ≤ g s j))
structure Stage (s : List Int) (k : Nat) : Prop where
  ok : ∀ j : Nat, j < k → OkAt s j
  top : ∀ j : Nat, j < k → g s j < (j : Int) → (opens s j).getLast? = some (g s j).toNat

theorem mem_opens {s : List Int} {k j : Nat} : j ∈ opens s k ↔ j < k ∧ (k : Int) ≤ g s j := by
  simp [opens, List.mem_filter, List.mem_range]
theorem opens_sorted (s : List Int) (k : Nat) : (opens s k).Pairwise (· < ·) := List.Pairwise.filter _ List.pairwise_lt_range
theorem opens_len (s : List Int) (k : Nat) : (opens s k).length ≤ k := by
  have h := List.length_filter_le (fun j : Nat => decide ((k : Int) ≤ g s j)) (List.range k)
  rw [List.length_range] at h
  exact h
theorem stage0 (s : List Int) : Stage s 0 := ⟨fun j h => absurd h (Nat.not_lt_zero j), fun j h => absurd h (Nat.not_lt_zero j)⟩
theorem opens0 (s : List Int) : opens s 0 = [] := rfl
/-- within the checked places, partners are one to one -/
theorem okAt_inj {s : List Int} {i j : Nat} (hi : OkAt s i) (e : g s i = (j : Int)) : g s j = (i : Int) := by
  have h := hi.2.2.2
  rw [e] at h
  simpa using h
theorem opens_succ (s : List Int) (k : Nat) : opens s (k + 1) = (List.range k).filter (fun j => decide (((k + 1 : Nat) : Int) ≤ g s j)) ++ (if ((k + 1 : Nat) : Int) ≤ g s k then [k] else []) := by
  unfold opens
  rw [List.range_succ, List.filter_append]
  congr 1
  by_cases h : ((k + 1 : Nat) : Int) ≤ g s k
  · rw [if_pos h]
    exact List.filter_cons_of_pos (p := fun j => decide (((k + 1 : Nat) : Int) ≤ g s j)) (decide_eq_true h)
  · rw [if_neg h]
    exact List.filter_cons_of_neg (p := fun j => decide (((k + 1 : Nat) : Int) ≤ g s j)) (fun z => h (of_decide_eq_true z))
theorem opens_push {s : List Int} {k : Nat} (st : Stage s k) (hk : (k : Int) < g s k) : opens s (k + 1) = opens s k ++ [k] := by
  rw [opens_succ, if_pos (by omega)]
  congr 1
  unfold opens
  apply List.filter_congr
  intro j hj
  rw [List.mem_range] at hj
  have hne : g s j ≠ (k : Int) := fun e => by
    have := okAt_inj (st.ok j hj) e
    omega
  exact decide_eq_decide.mpr (by omega)
theorem filter_ne_last : ∀ (l : List Nat) (t : Nat), (l ++ [t]).Nodup → (l ++ [t]).filter (fun j => decide (j ≠ t)) = l := by
  intro l t h
  rw [List.filter_append]
  have h1 : l.filter (fun j => decide (j ≠ t)) = l := by
    apply List.filter_eq_self.mpr
    intro a ha
    rw [List.nodup_append] at h
    exact decide_eq_true (h.2.2 a ha t (List.mem_singleton.mpr rfl))
  rw [h1]
  simp
theorem nodup_of_sorted {l : List Nat} (h : l.Pairwise (· < ·)) : l.Nodup := h.imp fun h => Nat.ne_of_lt h
theorem opens_pop {s : List Int} {k : Nat} {l : List Nat} {t : Nat} (st : Stage s k) (ok : OkAt s k) (hk : g s k < (k : Int)) (e : opens s k = l ++ [t]) (ht : (t : Int) = g s k) : opens s (k + 1) = l := by
  rw [opens_succ, if_neg (by omega), List.append_nil]
  have h1 : (List.range k).filter (fun j => decide (((k + 1 : Nat) : Int) ≤ g s j)) = (opens s k).filter (fun j => decide (j ≠ t)) := by
    unfold opens
    rw [List.filter_filter]
    apply List.filter_congr
    intro j hj
    rw [List.mem_range] at hj
    have hje : g s j = (k : Int) ↔ j = t := by
      constructor
      · intro q
        have := okAt_inj (st.ok j hj) q
        omega
      · intro q
        subst q
        have := okAt_inj (j := j) ok ht.symm
        exact this
    by_cases q : j = t
    · have := hje.mpr q
      simp [q]
      subst q
      omega
    · have : g s j ≠ (k : Int) := fun z => q (hje.mp z)
      simp [q]
      omega
  rw [h1, e]
  exact filter_ne_last l t (e ▸ nodup_of_sorted (opens_sorted s k))
/-- at a place that leads back something is open -/
theorem opens_ne {s : List Int} {k : Nat} (ok : OkAt s k) (hk : g s k < (k : Int)) : ∃ l t, opens s k = l ++ [t] := by
  have hm : (g s k).toNat ∈ opens s k := by
    rw [mem_opens]
    have h := ok.2.2.2
    have h0 := ok.1
    constructor
    · omega
    · omega
  rcases List.eq_nil_or_concat (opens s k) with e | ⟨l, t, e⟩
  · rw [e] at hm; cases hm
  · exact ⟨l, t, by rw [e]; exact List.concat_eq_append⟩
theorem stage_push {s : List Int} {k : Nat} (st : Stage s k) (ok : OkAt s k) (hk : (k : Int) < g s k) : Stage s (k + 1) := by
  refine ⟨fun j hj => ?_, fun j hj h => ?_⟩
  · by_cases e : j = k
    · subst e; exact ok
    · exact st.ok j (by omega)
  · by_cases e : j = k
    · subst e; omega
    · exact st.top j (by omega) h
theorem stage_pop {s : List Int} {k : Nat} {l : List Nat} {t : Nat} (st : Stage s k) (ok : OkAt s k) (e : opens s k = l ++ [t]) (ht : (t : Int) = g s k) : Stage s (k + 1) := by
  refine ⟨fun j hj => ?_, fun j hj h => ?_⟩
  · by_cases e : j = k
    · subst e; exact ok
    · exact st.ok j (by omega)
  · by_cases q : j = k
    · subst q
      rw [e, List.getLast?_append, ← ht]
      simp
    · exact st.top j (by omega) h
/-- the top is not the partner: two arcs cross -/
theorem stage_cross {s : List Int} {k : Nat} {l : List Nat} {t : Nat} (st : Stage s k) (ok : OkAt s k) (hk : g s k < (k : Int)) (hl : k < s.length) (e : opens s k = l ++ [t]) (ht : (t : Int) ≠ g s k) : ¬ NcI s := by
  intro nc
  have hm : (g s k).toNat ∈ opens s k := by
    rw [mem_opens]
    have h := ok.2.2.2
    have h0 := ok.1
    constructor
    · omega
    · omega
  have htm : t ∈ opens s k := by rw [e]; simp
  rw [mem_opens] at htm
  have hsrt := opens_sorted s k
  rw [e, List.pairwise_append] at hsrt
  rw [e, List.mem_append] at hm
  have h0 := ok.1
  have hlt : (g s k).toNat < t := by
    rcases hm with hm | hm
    · exact hsrt.2.2 _ hm t (by simp)
    · rw [List.mem_singleton] at hm
      omega
  have hne : g s t ≠ (k : Int) := fun q => by
    have := okAt_inj (st.ok t htm.1) q
    omega
  have hp := ok.2.2.2
  exact nc (g s k).toNat t hlt (by omega) (by omega) (by omega)
theorem stage_good {s : List Int} (h : 2 ≤ s.length ∧ s.length ≤ 40) (st : Stage s s.length) : Good s := by
  refine ⟨h, st.ok, fun j k hjk hk h1 h2 => ?_⟩
  have okj := st.ok j (by omega)
  have okk := st.ok k hk
  -- at the place where j's arc ends
  obtain ⟨e0, e1, e2, e3⟩ := okj
  have hm : g s (g s j).toNat < ((g s j).toNat : Int) := by omega
  have ht := st.top (g s j).toNat (by omega) hm
  rw [e3] at ht
  have hkm : k ∈ opens s (g s j).toNat := by
    rw [mem_opens]
    constructor <;> omega
  rcases List.eq_nil_or_concat (opens s (g s j).toNat) with q | ⟨l, t, q⟩
  · rw [q] at hkm; cases hkm
  · rw [List.concat_eq_append] at q
    rw [q, List.getLast?_append] at ht
    simp at ht
    have hsrt := opens_sorted s (g s j).toNat
    rw [q, List.pairwise_append] at hsrt
    rw [q, List.mem_append] at hkm
    rcases hkm with hkm | hkm
    · have := hsrt.2.2 _ hkm t (by simp)
      omega
    · rw [List.mem_singleton] at hkm
      omega
/-- of a good list the top at a place that leads back is its partner -/
theorem good_top {s : List Int} (G : Good s) {k : Nat} (hk : k < s.length) (hb : g s k < (k : Int)) : ∃ (l : List Nat) (t : Nat), opens s k = l ++ [t] ∧ (t : Int) = g s k := by
  obtain ⟨l, t, e⟩ := opens_ne (G.2.1 k hk) hb
  refine ⟨l, t, e, ?_⟩
  have okk := G.2.1 k hk
  have hm : (g s k).toNat ∈ opens s k := by
    rw [mem_opens]
    have h := okk.2.2.2
    have h0 := okk.1
    constructor <;> omega
  have htm : t ∈ opens s k := by rw [e]; simp
  rw [mem_opens] at htm
  have hsrt := opens_sorted s k
  rw [e, List.pairwise_append] at hsrt
  rw [e, List.mem_append] at hm
  have h0 := okk.1
  rcases hm with hm | hm
  · have hlt := hsrt.2.2 _ hm t (by simp)
    have hne : g s t ≠ (k : Int) := fun q => by
      have := okAt_inj (G.2.1 t (by omega)) q
      omega
    have hp := okk.2.2.2
    exact (G.2.2 (g s k).toNat t hlt (by omega) (by omega) (by omega)).elim
  · rw [List.mem_singleton] at hm
    omega
theorem good_stage {s : List Int} (G : Good s) : ∀ k : Nat, k ≤ s.length → Stage s k := fun k hk =>
  ⟨fun j hj => G.2.1 j (by omega), fun j hj h => by
    obtain ⟨l, t, e, ht⟩ := good_top G (show j < s.length by omega) h
    rw [e, List.getLast?_append, ← ht]
    simp⟩
end Rm

set_option linter.all false
namespace Rm
/-! ## arcs by lists of naturals -/
def at' (a : List Nat) (k : Nat) : Nat := a.getD k 0
structure Arcs (m : Nat) (f : Nat → Nat) : Prop where
  lt : ∀ k, k < m → f k < m
  ne : ∀ k, k < m → f k ≠ k
  inv : ∀ k, k < m → f (f k) = k
  nc : ∀ j k, j < k → k < m → k < f j → f j < f k → False
/-- a list of 2 n places that tells n arcs -/
structure ArcsL (n : Nat) (a : List Nat) : Prop where
  len : a.length = 2 * n
  arcs : Arcs (2 * n) (at' a)
abbrev zs (a : List Nat) : List Int := a.map (fun n : Nat => (n : Int))
theorem g_zs (a : List Nat) (k : Nat) : g (zs a) k = ((at' a k : Nat) : Int) := by
  simp only [g, at', zs, List.getD_eq_getElem?_getD, List.getElem?_map]
  cases a[k]? <;> simp
theorem len_zs (a : List Nat) : (zs a).length = a.length := by simp [zs]
theorem arcs_good {n : Nat} {a : List Nat} (h : ArcsL n a) (h1 : 1 ≤ n) (h2 : n ≤ 20) : Good (zs a) := by
  have hl := h.len
  refine ⟨by rw [len_zs]; omega, fun k hk => ?_, fun j k hjk hk h1 h2 => ?_⟩
  · rw [len_zs] at hk
    have a1 := h.arcs.lt k (by omega)
    have a2 := h.arcs.ne k (by omega)
    have a3 := h.arcs.inv k (by omega)
    refine ⟨?_, ?_, ?_, ?_⟩
    · rw [g_zs]; omega
    · rw [g_zs, len_zs]; omega
    · rw [g_zs]; omega
    · rw [g_zs, g_zs, Int.toNat_natCast, a3]
  · rw [len_zs] at hk
    rw [g_zs] at h1
    rw [g_zs, g_zs] at h2
    exact h.arcs.nc j k hjk (by omega) (by omega) (by omega)
/-! ## arcs built with a pile -/
structure Bld (m k : Nat) (fd st : List Nat) : Prop where
  len : fd.length = m
  km : k ≤ m
  srt : st.Pairwise (· < ·)
  slt : ∀ j, j ∈ st → j < k
  cl : ∀ j, j < k → j ∉ st → at' fd j < k ∧ at' fd j ∉ st ∧ at' fd j ≠ j ∧ at' fd (at' fd j) = j
  nc : ∀ i j, i < j → j < k → i ∉ st → j ∉ st → j < at' fd i → at' fd i < at' fd j → False
  cov : ∀ i j, i < k → i ∉ st → j ∈ st → i < j → j < at' fd i → False
theorem bld0 (m : Nat) (fd : List Nat) (h : fd.length = m) : Bld m 0 fd [] :=
  ⟨h, Nat.zero_le _, .nil, fun _ h => (nomatch h), fun _ h => absurd h (Nat.not_lt_zero _), fun _ _ _ h => absurd h (Nat.not_lt_zero _), fun _ _ h => absurd h (Nat.not_lt_zero _)⟩
theorem bld_push {m k : Nat} {fd st : List Nat} (B : Bld m k fd st) (hk : k < m) : Bld m (k + 1) fd (st ++ [k]) := by
  have hm : ∀ j, j ∈ st ++ [k] ↔ j ∈ st ∨ j = k := fun j => by simp
  refine ⟨B.len, hk, ?_, fun j h => ?_, fun j hj hn => ?_, fun i j hij hj hi hjn h1 h2 => ?_, fun i j hi hin hj h1 h2 => ?_⟩
  · rw [List.pairwise_append]
    exact ⟨B.srt, List.pairwise_singleton _ _, fun a ha b hb => by rw [List.mem_singleton] at hb; rw [hb]; exact B.slt a ha⟩
  · rcases (hm j).mp h with h | h
    · have := B.slt j h; omega
    · omega
  · rw [hm] at hn
    obtain ⟨c1, c2, c3, c4⟩ := B.cl j (by omega) (fun z => hn (.inl z))
    refine ⟨by omega, fun z => ?_, c3, c4⟩
    rcases (hm _).mp z with z | z
    · exact c2 z
    · omega
  · rw [hm] at hi hjn
    exact B.nc i j hij (by omega) (fun z => hi (.inl z)) (fun z => hjn (.inl z)) h1 h2
  · rw [hm] at hin
    rcases (hm j).mp hj with hj | hj
    · exact B.cov i j (by omega) (fun z => hin (.inl z)) hj h1 h2
    · have := (B.cl i (by omega) (fun z => hin (.inl z))).1
      omega
theorem at_set {a : List Nat} {k t j : Nat} (h : k < a.length) : at' (a.set k t) j = if j = k then t else at' a j := by
  unfold at'
  rw [List.getD_eq_getElem?_getD, List.getD_eq_getElem?_getD, List.getElem?_set]
  by_cases e : k = j
  · subst e
    simp [h]
  · rw [if_neg e, if_neg (fun z => e z.symm)]
theorem bld_pop {m k t : Nat} {fd l : List Nat} (B : Bld m k fd (l ++ [t])) (hk : k < m) : Bld m (k + 1) ((fd.set k t).set t k) l := by
  have hm : ∀ j, j ∈ l ++ [t] ↔ j ∈ l ∨ j = t := fun j => by simp
  have ht : t < k := B.slt t (by simp)
  have hsr := List.pairwise_append.mp B.srt
  have hlt : ∀ j, j ∈ l → j < t := fun j hj => hsr.2.2 j hj t (by simp)
  have hl := B.len
  have ha : ∀ j, at' ((fd.set k t).set t k) j = if j = t then k else if j = k then t else at' fd j := fun j => by
    rw [at_set (by rw [List.length_set]; omega), at_set (by omega)]
  have old : ∀ j, j < k + 1 → j ∉ l → j = t ∨ j = k ∨ (j < k ∧ j ∉ l ++ [t]) := fun j h1 h2 => by
    by_cases e : j = t
    · exact .inl e
    · by_cases e2 : j = k
      · exact .inr (.inl e2)
      · refine .inr (.inr ⟨by omega, fun z => ?_⟩)
        rcases (hm j).mp z with z | z
        · exact h2 z
        · exact e z
  have hao : ∀ j, j < k → j ∉ l ++ [t] → at' ((fd.set k t).set t k) j = at' fd j := fun j h1 h2 => by
    rw [ha, if_neg (fun z => h2 ((hm j).mpr (.inr z))), if_neg (by omega)]
  have hat : at' ((fd.set k t).set t k) t = k := by rw [ha, if_pos rfl]
  have hak : at' ((fd.set k t).set t k) k = t := by rw [ha, if_neg (by omega), if_pos rfl]
  refine ⟨by rw [List.length_set, List.length_set]; exact hl, hk, hsr.1, fun j h => ?_, fun j hj hn => ?_, fun i j hij hj hi hjn h1 h2 => ?_, fun i j hi hin hj h1 h2 => ?_⟩
  · have := hlt j h; omega
  · rcases old j hj hn with e | e | ⟨e1, e2⟩
    · subst e
      rw [hat]
      refine ⟨by omega, fun z => ?_, by omega, hak⟩
      have := hlt _ z; omega
    · subst e
      rw [hak]
      refine ⟨by omega, fun z => ?_, by omega, hat⟩
      have := hlt _ z; omega
    · obtain ⟨c1, c2, c3, c4⟩ := B.cl j e1 e2
      rw [hao j e1 e2, hao _ c1 c2]
      exact ⟨by omega, fun z => c2 ((hm _).mpr (.inl z)), c3, c4⟩
  · rcases old i (by omega) hi with e | e | ⟨e1, e2⟩
    · subst e
      rw [hat] at h1 h2
      rcases old j hj hjn with f | f | ⟨f1, f2⟩
      · omega
      · omega
      · rw [hao j f1 f2] at h2
        have := (B.cl j f1 f2).1
        omega
    · omega
    · rw [hao i e1 e2] at h1 h2
      have c1 := (B.cl i e1 e2).1
      rcases old j hj hjn with f | f | ⟨f1, f2⟩
      · subst f
        exact B.cov i j e1 e2 (by simp) hij h1
      · omega
      · rw [hao j f1 f2] at h2
        exact B.nc i j hij f1 e2 f2 h1 h2
  · have hjt := hlt j hj
    rcases old i hi hin with e | e | ⟨e1, e2⟩
    · omega
    · omega
    · rw [hao i e1 e2] at h2
      exact B.cov i j e1 e2 (by simp [hj]) h1 h2
theorem bld_arcs {n : Nat} {fd : List Nat} (B : Bld (2 * n) (2 * n) fd []) : ArcsL n fd :=
  ⟨B.len, fun k h => (B.cl k h (fun z => nomatch z)).1, fun k h => (B.cl k h (fun z => nomatch z)).2.2.1, fun k h => (B.cl k h (fun z => nomatch z)).2.2.2,
   fun j k a b c d => B.nc j k a b (fun z => nomatch z) (fun z => nomatch z) c d⟩
end Rm

set_option linter.all false
namespace Rm
/-! ## the word of arcs, by code points -/
def wcs (s : List Int) : List Nat := (List.range s.length).map fun k : Nat => if (k : Int) < g s k then 40 else 41
theorem wcs_len (s : List Int) : (wcs s).length = s.length := by simp [wcs]
theorem wcs_get {s : List Int} {k : Nat} (h : k < s.length) : (wcs s)[k]? = some (if (k : Int) < g s k then 40 else 41) := by
  unfold wcs
  rw [List.getElem?_map, List.getElem?_range h]
  rfl
theorem opens_end {s : List Int} (G : Good s) : opens s s.length = [] := by
  rw [List.eq_nil_iff_forall_not_mem]
  intro j hj
  rw [mem_opens] at hj
  have := (G.2.1 j hj.1).2.1
  omega
theorem g_set {s : List Int} {k j : Nat} {t : Int} (h : k < s.length) : g (s.set k t) j = if j = k then t else g s j := by
  unfold g
  rw [List.getD_eq_getElem?_getD, List.getD_eq_getElem?_getD, List.getElem?_set]
  by_cases e : k = j
  · subst e
    simp [h]
  · rw [if_neg e, if_neg (fun z => e z.symm)]
theorem ext_g {s t : List Int} (hl : s.length = t.length) (h : ∀ k : Nat, k < t.length → g s k = g t k) : s = t := by
  apply List.ext_getElem hl
  intro k h1 h2
  have := h k h2
  simpa [g, List.getD_eq_getElem?_getD, h1, h2] using this
/-- what has been read so far -/
def Rd (s : List Int) (i : Nat) (fd : List Int) : Prop := fd.length = s.length ∧ ∀ j : Nat, j < i → g s j < (i : Int) → g fd j = g s j
theorem rd0 (s : List Int) (fd : List Int) (h : fd.length = s.length) : Rd s 0 fd := ⟨h, fun j hj => absurd hj (Nat.not_lt_zero _)⟩
theorem rd_push {s : List Int} {i : Nat} {fd : List Int} (G : Good s) (hi : i < s.length) (h : (i : Int) < g s i) (R : Rd s i fd) : Rd s (i + 1) fd := by
  refine ⟨R.1, fun j hj hg => ?_⟩
  by_cases e : j = i
  · subst e; omega
  · refine R.2 j (by omega) ?_
    have hne : g s j ≠ (i : Int) := fun z => by
      have := okAt_inj (G.2.1 j (by omega)) z
      omega
    omega
theorem rd_pop {s : List Int} {i t : Nat} {fd : List Int} (G : Good s) (hi : i < s.length) (ht : (t : Int) = g s i) (hlt : g s i < (i : Int)) (R : Rd s i fd) : Rd s (i + 1) ((fd.set i (t : Int)).set t (i : Int)) := by
  have hl := R.1
  have hti : t < i := by omega
  refine ⟨by rw [List.length_set, List.length_set]; exact hl, fun j hj hg => ?_⟩
  rw [g_set (by rw [List.length_set]; omega), g_set (by omega)]
  by_cases e : j = t
  · subst e
    rw [if_pos rfl]
    exact (okAt_inj (G.2.1 i hi) ht.symm).symm
  · rw [if_neg e]
    by_cases e2 : j = i
    · subst e2
      rw [if_pos rfl, ht]
    · rw [if_neg e2]
      refine R.2 j (by omega) ?_
      have hne : g s j ≠ (i : Int) := fun z => by
        have := okAt_inj (G.2.1 j (by omega)) z
        omega
      omega
theorem rd_end {s fd : List Int} (G : Good s) (R : Rd s s.length fd) : fd = s := ext_g R.1 fun k hk => R.2 k hk (G.2.1 k hk).2.1
/-- a good list has an even number of places -/
theorem opens_par {s : List Int} (G : Good s) : ∀ k : Nat, k ≤ s.length → (opens s k).length % 2 = k % 2
  | 0, _ => rfl
  | k + 1, h => by
    have ih := opens_par G k (by omega)
    have st := good_stage G k (by omega)
    have ok := G.2.1 k (by omega)
    by_cases e : (k : Int) < g s k
    · rw [opens_push st e, List.length_append, List.length_singleton]
      omega
    · have e5 : g s k < (k : Int) := by have := ok.2.2.1; omega
      obtain ⟨l, t, eo, ht⟩ := good_top G (show k < s.length by omega) e5
      rw [opens_pop st ok e5 eo ht]
      rw [eo, List.length_append, List.length_singleton] at ih
      omega
theorem good_even {s : List Int} (G : Good s) : s.length % 2 = 0 := by
  have h := opens_par G s.length (Nat.le_refl _)
  rw [opens_end G] at h
  simp at h
  omega
end Rm

set_option linter.all false
namespace Rm
/-! ## lists by functions -/
def mkL (m : Nat) (f : Nat → Nat) : List Nat := (List.range m).map f
theorem mkL_len (m : Nat) (f : Nat → Nat) : (mkL m f).length = m := by simp [mkL]
theorem mkL_at {m : Nat} {f : Nat → Nat} {k : Nat} (h : k < m) : at' (mkL m f) k = f k := by
  simp [at', mkL, List.getD_eq_getElem?_getD, h]
theorem mkL_get {m : Nat} {f : Nat → Nat} {k : Nat} (h : k < m) : (mkL m f)[k]? = some (f k) := by simp [mkL, h]
theorem ext_at {a b : List Nat} (hl : a.length = b.length) (h : ∀ k, k < b.length → at' a k = at' b k) : a = b := by
  apply List.ext_getElem hl
  intro k h1 h2
  have := h k h2
  simpa [at', List.getD_eq_getElem?_getD, h1, h2] using this
theorem Arcs.congr {m : Nat} {f f' : Nat → Nat} (A : Arcs m f) (h : ∀ k, k < m → f' k = f k) : Arcs m f' where
  lt := fun k hk => by rw [h k hk]; exact A.lt k hk
  ne := fun k hk => by rw [h k hk]; exact A.ne k hk
  inv := fun k hk => by rw [h k hk, h _ (A.lt k hk)]; exact A.inv k hk
  nc := fun j k h1 h2 h3 h4 => by
    rw [h j (by omega)] at h3 h4
    rw [h k h2] at h4
    exact A.nc j k h1 h2 h3 h4
theorem mkL_arcs {n : Nat} {f : Nat → Nat} (A : Arcs (2 * n) f) : ArcsL n (mkL (2 * n) f) :=
  ⟨mkL_len _ _, A.congr fun k hk => mkL_at hk⟩
/-! ## turned -/
def phi (m b x : Nat) : Nat := if x < b then x + m - b else x - b
def psi (m b y : Nat) : Nat := if y + b < m then y + b else y + b - m
def rotF (m b : Nat) (f : Nat → Nat) (k : Nat) : Nat := psi m b (f (phi m b k))
theorem phi_lt {m b x : Nat} (hb : b < m) (h : x < m) : phi m b x < m := by unfold phi; split <;> omega
theorem psi_lt {m b x : Nat} (hb : b < m) (h : x < m) : psi m b x < m := by unfold psi; split <;> omega
theorem phi_psi {m b x : Nat} (hb : b < m) (h : x < m) : phi m b (psi m b x) = x := by unfold psi phi; split <;> split <;> omega
theorem psi_phi {m b x : Nat} (hb : b < m) (h : x < m) : psi m b (phi m b x) = x := by unfold phi psi; split <;> split <;> omega
theorem rot_arcs {m b : Nat} {f : Nat → Nat} (A : Arcs m f) (hb : b < m) : Arcs m (rotF m b f) := by
  have hp : ∀ k, k < m → phi m b (rotF m b f k) = f (phi m b k) := fun k hk => phi_psi hb (A.lt _ (phi_lt hb hk))
  refine ⟨fun k hk => psi_lt hb (A.lt _ (phi_lt hb hk)), fun k hk e => ?_, fun k hk => ?_, fun j k hjk hk h1 h2 => ?_⟩
  · have := hp k hk
    rw [e] at this
    exact A.ne _ (phi_lt hb hk) this.symm
  · show psi m b (f (phi m b (rotF m b f k))) = k
    rw [hp k hk, A.inv _ (phi_lt hb hk), psi_phi hb hk]
  · have hj : j < m := by omega
    have pj := hp j hj
    have pk := hp k hk
    have lj := phi_lt hb hj
    have lk := phi_lt hb hk
    have fj := A.lt _ lj
    have fk := A.lt _ lk
    have ij := A.inv _ lj
    have ik := A.inv _ lk
    have lfj : rotF m b f j < m := psi_lt hb (A.lt _ lj)
    have lfk : rotF m b f k < m := psi_lt hb (A.lt _ lk)
    have n1 := A.nc (phi m b j) (phi m b k)
    have n2 := A.nc (phi m b k) (f (phi m b j))
    have n3 := A.nc (f (phi m b j)) (f (phi m b k))
    have n4 := A.nc (f (phi m b k)) (phi m b j)
    rw [ij] at n2 n3
    rw [ik] at n3 n4
    rw [← pj, ← pk] at n1 n2 n3 n4
    rw [← pj] at fj
    rw [← pk] at fk
    generalize rotF m b f j = x at *
    generalize rotF m b f k = y at *
    unfold phi at *
    have : (x < b ∨ b ≤ x) ∧ (y < b ∨ b ≤ y) ∧ (j < b ∨ b ≤ j) ∧ (k < b ∨ b ≤ k) := by omega
    obtain ⟨c1, c2, c3, c4⟩ := this
    rcases c1 with c1 | c1 <;> rcases c2 with c2 | c2 <;> rcases c3 with c3 | c3 <;> rcases c4 with c4 | c4 <;>
      first
        | omega
        | (simp only [c1, c2, c3, c4, if_true, if_false, Nat.not_lt.mpr c1, Nat.not_lt.mpr c2, Nat.not_lt.mpr c3, Nat.not_lt.mpr c4] at n1 n2 n3 n4; first | exact n1 (by omega) (by omega) (by omega) (by omega) | exact n2 (by omega) (by omega) (by omega) (by omega) | exact n3 (by omega) (by omega) (by omega) (by omega) | exact n4 (by omega) (by omega) (by omega) (by omega))
/-! ## mirrored -/
def mirF (m : Nat) (f : Nat → Nat) (k : Nat) : Nat := m - 1 - f (m - 1 - k)
theorem mir_arcs {m : Nat} {f : Nat → Nat} (A : Arcs m f) : Arcs m (mirF m f) := by
  refine ⟨fun k hk => by unfold mirF; omega, fun k hk e => ?_, fun k hk => ?_, fun j k hjk hk h1 h2 => ?_⟩
  · have h1 := A.lt (m - 1 - k) (by omega)
    have h2 := A.ne (m - 1 - k) (by omega)
    unfold mirF at e
    omega
  · have h1 := A.lt (m - 1 - k) (by omega)
    have h3 := A.inv (m - 1 - k) (by omega)
    unfold mirF
    rw [show m - 1 - (m - 1 - f (m - 1 - k)) = f (m - 1 - k) by omega, h3]
    omega
  · have a1 := A.lt (m - 1 - j) (by omega)
    have a2 := A.lt (m - 1 - k) (by omega)
    have a3 := A.inv (m - 1 - j) (by omega)
    have a4 := A.inv (m - 1 - k) (by omega)
    unfold mirF at h1 h2
    refine A.nc (f (m - 1 - k)) (f (m - 1 - j)) (by omega) (by omega) (by omega) (by omega)
/-! ## side by side, covered -/
def sideF (m : Nat) (f f2 : Nat → Nat) (k : Nat) : Nat := if k < m then f k else m + f2 (k - m)
theorem side_arcs {m m2 : Nat} {f f2 : Nat → Nat} (A : Arcs m f) (B : Arcs m2 f2) : Arcs (m + m2) (sideF m f f2) := by
  refine ⟨fun k hk => ?_, fun k hk => ?_, fun k hk => ?_, fun j k hjk hk h1 h2 => ?_⟩
  · unfold sideF
    split
    · have := A.lt k (by omega); omega
    · have := B.lt (k - m) (by omega); omega
  · unfold sideF
    split
    · exact A.ne k (by omega)
    · have := B.ne (k - m) (by omega); omega
  · unfold sideF
    by_cases h : k < m
    · rw [if_pos h, if_pos (A.lt k h), A.inv k h]
    · rw [if_neg h, if_neg (by omega), show m + f2 (k - m) - m = f2 (k - m) by omega, B.inv (k - m) (by omega)]
      omega
  · unfold sideF at h1 h2
    by_cases hj : j < m
    · have a := A.lt j hj
      rw [if_pos hj] at h1 h2
      by_cases hk2 : k < m
      · rw [if_pos hk2] at h2
        exact A.nc j k hjk hk2 h1 h2
      · omega
    · rw [if_neg hj] at h1 h2
      rw [if_neg (by omega)] at h2
      exact B.nc (j - m) (k - m) (by omega) (by omega) (by omega) (by omega)
def overF (m : Nat) (f : Nat → Nat) (k : Nat) : Nat := if k = 0 then m + 1 else if k = m + 1 then 0 else f (k - 1) + 1
theorem over_arcs {m : Nat} {f : Nat → Nat} (A : Arcs m f) : Arcs (m + 2) (overF m f) := by
  have mid : ∀ k, k ≠ 0 → k < m + 1 → overF m f k = f (k - 1) + 1 := fun k h1 h2 => by
    unfold overF
    rw [if_neg h1, if_neg (by omega)]
  have z0 : overF m f 0 = m + 1 := rfl
  have z1 : overF m f (m + 1) = 0 := by unfold overF; rw [if_neg (by omega), if_pos rfl]
  have cs : ∀ k, k < m + 2 → k = 0 ∨ k = m + 1 ∨ (k ≠ 0 ∧ k < m + 1) := fun k h => by omega
  refine ⟨fun k hk => ?_, fun k hk => ?_, fun k hk => ?_, fun j k hjk hk h1 h2 => ?_⟩
  · rcases cs k hk with e | e | ⟨e1, e2⟩
    · subst e; rw [z0]; omega
    · subst e; rw [z1]; omega
    · rw [mid k e1 e2]; have := A.lt (k - 1) (by omega); omega
  · rcases cs k hk with e | e | ⟨e1, e2⟩
    · subst e; rw [z0]; omega
    · subst e; rw [z1]; omega
    · rw [mid k e1 e2]; have := A.ne (k - 1) (by omega); omega
  · rcases cs k hk with e | e | ⟨e1, e2⟩
    · subst e; rw [z0, z1]
    · subst e; rw [z1, z0]
    · have := A.lt (k - 1) (by omega)
      rw [mid k e1 e2, mid _ (by omega) (by omega), show f (k - 1) + 1 - 1 = f (k - 1) by omega, A.inv (k - 1) (by omega)]
      omega
  · have hk0 : k ≠ 0 := by omega
    by_cases hk1 : k = m + 1
    · subst hk1; rw [z1] at h2; omega
    · rw [mid k hk0 (by omega)] at h2
      by_cases hj : j = 0
      · subst hj; rw [z0] at h2; have := A.lt (k - 1) (by omega); omega
      · rw [mid j hj (by omega)] at h1 h2
        exact A.nc (j - 1) (k - 1) (by omega) (by omega) (by omega) (by omega)
/-! ## sums by the remainder -/
theorem mod_add {m : Nat} {by' : Int} {k : Nat} (hk : k < m) : ((k : Int) + by').fmod (m : Int) = ((psi m (by' % (m : Int)).toNat k : Nat) : Int) := by
  have hm : (0 : Int) < m := by omega
  rw [Int.fmod_eq_emod_of_nonneg _ (by omega)]
  have h0 := Int.emod_nonneg by' (show (m : Int) ≠ 0 by omega)
  have h1 := Int.emod_lt_of_pos by' hm
  have e : ((k : Int) + by') % (m : Int) = ((k : Int) + by' % (m : Int)) % (m : Int) := by rw [Int.add_emod, Int.add_emod (k : Int) (by' % (m : Int)), Int.emod_emod]
  rw [e]
  generalize hr : by' % (m : Int) = r at *
  unfold psi
  by_cases c : (k : Int) + r < m
  · rw [Int.emod_eq_of_lt (by omega) c, if_pos (by omega)]
    omega
  · rw [if_neg (by omega)]
    have : ((k : Int) + r) % (m : Int) = ((k : Int) + r - m) % (m : Int) := by
      rw [Int.sub_emod_right]
    rw [this, Int.emod_eq_of_lt (by omega) (by omega)]
    omega
theorem mod_sub {m : Nat} {by' : Int} {k : Nat} (hk : k < m) : ((k : Int) - by').fmod (m : Int) = ((phi m (by' % (m : Int)).toNat k : Nat) : Int) := by
  have hm : (0 : Int) < m := by omega
  rw [Int.fmod_eq_emod_of_nonneg _ (by omega)]
  have h0 := Int.emod_nonneg by' (show (m : Int) ≠ 0 by omega)
  have h1 := Int.emod_lt_of_pos by' hm
  have e : ((k : Int) - by') % (m : Int) = ((k : Int) - by' % (m : Int)) % (m : Int) := by rw [Int.sub_emod, Int.sub_emod (k : Int) (by' % (m : Int)), Int.emod_emod]
  rw [e]
  generalize hr : by' % (m : Int) = r at *
  unfold phi
  by_cases c : r ≤ (k : Int)
  · rw [Int.emod_eq_of_lt (by omega) (by omega), if_neg (by omega)]
    omega
  · rw [if_pos (by omega)]
    have : ((k : Int) - r) % (m : Int) = ((k : Int) - r + m) % (m : Int) := by
      rw [Int.add_emod_right]
    rw [this, Int.emod_eq_of_lt (by omega) (by omega)]
    omega
def rotB (m : Nat) (by' : Int) : Nat := (by' % (m : Int)).toNat
theorem rotB_lt {m : Nat} (by' : Int) (h : 0 < m) : rotB m by' < m := by
  have h0 := Int.emod_nonneg by' (show (m : Int) ≠ 0 by omega)
  have h1 := Int.emod_lt_of_pos by' (show (0 : Int) < m by omega)
  unfold rotB; omega
end Rm

set_option linter.all false
namespace Rm
/-! ## lists without a number twice -/
theorem nodup_len : ∀ (M : Nat) (l : List Nat), l.Nodup → (∀ x, x ∈ l → x < M) → l.length ≤ M
  | 0, l, _, h => by
    cases l with
    | nil => exact Nat.le_refl _
    | cons x r => exact absurd (h x (by simp)) (Nat.not_lt_zero _)
  | M + 1, l, hn, h => by
    by_cases c : M ∈ l
    · have h1 := nodup_len M (l.erase M) (hn.erase M) (fun x hx => by
        have h2 := (List.Nodup.mem_erase_iff hn).mp hx
        have h3 := h x h2.2
        have h4 := h2.1
        omega)
      rw [List.length_erase_of_mem c] at h1
      omega
    · have h1 := nodup_len M l hn (fun x hx => by
        have h3 := h x hx
        have : x ≠ M := fun e => c (e ▸ hx)
        omega)
      omega
theorem nodup_sub_len : ∀ {l k : List Nat}, l.Nodup → (∀ x, x ∈ l → x ∈ k) → l.length ≤ k.length
  | [], _, _, _ => Nat.zero_le _
  | x :: r, k, hn, h => by
    have h2 := List.nodup_cons.mp hn
    have hx := h x (by simp)
    have ih := nodup_sub_len (l := r) (k := k.erase x) h2.2 (fun y hy => (List.mem_erase_of_ne (show y ≠ x from fun e => h2.1 (by rw [← e]; exact hy))).mpr (h y (by simp [hy])))
    rw [List.length_erase_of_mem hx] at ih
    have : 0 < k.length := List.length_pos_of_mem hx
    rw [List.length_cons]
    omega
theorem nodup_full {M : Nat} {l : List Nat} (hn : l.Nodup) (h : ∀ x, x ∈ l → x < M) (hl : M ≤ l.length) {y : Nat} (hy : y < M) : y ∈ l := by
  by_cases c : y ∈ l
  · exact c
  · have h1 := nodup_len M (y :: l) (List.nodup_cons.mpr ⟨c, hn⟩) (fun x hx => by
      rcases List.mem_cons.mp hx with e | e
      · omega
      · exact h x e)
    rw [List.length_cons] at h1
    omega
theorem nodup_snoc2 {l : List Nat} {x y : Nat} (hn : l.Nodup) (hx : x ∉ l) (hy : y ∉ l) (hne : x ≠ y) : (l ++ [x, y]).Nodup := by
  rw [List.nodup_append]
  refine ⟨hn, by simp [hne], fun a ha b hb => ?_⟩
  simp at hb
  rcases hb with rfl | rfl
  · exact fun e => hx (e ▸ ha)
  · exact fun e => hy (e ▸ ha)
theorem eraseIdx_filter : ∀ (l : List Nat) (j k : Nat), l.Nodup → l[j]? = some k → l.eraseIdx j = l.filter (fun x => decide (x ≠ k))
  | [], j, k, _, h => by simp at h
  | x :: r, 0, k, hn, h => by
    have e : x = k := Option.some.inj h
    subst e
    have hx := (List.nodup_cons.mp hn).1
    rw [List.eraseIdx_cons_zero, List.filter_cons_of_neg (by simp)]
    exact (List.filter_eq_self.mpr fun a ha => decide_eq_true (show a ≠ x from fun e => hx (e ▸ ha))).symm
  | x :: r, j + 1, k, hn, h => by
    have h2 := List.nodup_cons.mp hn
    have ih := eraseIdx_filter r j k h2.2 h
    have hk : k ∈ r := List.mem_of_getElem? h
    have hne : x ≠ k := fun e => h2.1 (e ▸ hk)
    rw [List.eraseIdx_cons_succ, List.filter_cons_of_pos (by simp [hne]), ih]
/-! ## roads -/
/-- fixed-point-free turn on the places below M that leaves them below M -/
structure Inv2 (M : Nat) (a : Nat → Nat) : Prop where
  lt : ∀ k, k < M → a k < M
  ne : ∀ k, k < M → a k ≠ k
  inv : ∀ k, k < M → a (a k) = k
theorem Arcs.inv2 {M : Nat} {a : Nat → Nat} (A : Arcs M a) : Inv2 M a := ⟨A.lt, A.ne, A.inv⟩
def walk (a b : Nat → Nat) : Nat → List Nat → Nat → List Nat → List Nat
  | 0, _, _, road => road
  | f + 1, s, x, road => if x ∈ s ++ road then road else walk a b f s (b (a x)) (road ++ [x, a x])
def stepR (a b : Nat → Nat) (M : Nat) (s0 : List Nat) (F : List (List Nat)) (x : Nat) : List (List Nat) :=
  if x ∈ s0 ++ F.flatten then F else F ++ [walk a b M (s0 ++ F.flatten) x []]
def goR (a b : Nat → Nat) (M : Nat) (s0 : List Nat) (i : Nat) : List (List Nat) := (List.range i).foldl (stepR a b M s0) []
def roadsM (a b : Nat → Nat) (M : Nat) : List (List Nat) := goR a b M [] M
theorem goR_zero (a b : Nat → Nat) (M : Nat) (s0 : List Nat) : goR a b M s0 0 = [] := rfl
theorem goR_succ (a b : Nat → Nat) (M : Nat) (s0 : List Nat) (i : Nat) : goR a b M s0 (i + 1) = stepR a b M s0 (goR a b M s0 i) i := by
  unfold goR
  rw [List.range_succ, List.foldl_append]
  rfl
/-- what is seen: no place twice, all below M, with a place its arc's other end -/
structure Seen (a : Nat → Nat) (M : Nat) (l : List Nat) : Prop where
  nd : l.Nodup
  lt : ∀ x, x ∈ l → x < M
  cl : ∀ x, x ∈ l → a x ∈ l
theorem Seen.push {a : Nat → Nat} {M : Nat} {l : List Nat} (S : Seen a M l) (A : Inv2 M a) {x : Nat} (hx : x < M) (hn : x ∉ l) : a x ∉ l ∧ Seen a M (l ++ [x, a x]) := by
  have h2 : a x ∉ l := fun h => hn (by
    have := S.cl _ h
    rw [A.inv x hx] at this
    exact this)
  refine ⟨h2, nodup_snoc2 S.nd hn h2 (fun e => A.ne x hx e.symm), fun y hy => ?_, fun y hy => ?_⟩
  · rcases List.mem_append.mp hy with h | h
    · exact S.lt y h
    · simp at h
      rcases h with rfl | rfl
      · exact hx
      · exact A.lt x hx
  · rcases List.mem_append.mp hy with h | h
    · exact List.mem_append.mpr (.inl (S.cl y h))
    · simp at h
      rcases h with rfl | rfl
      · simp
      · rw [A.inv x hx]; simp
theorem walk_stop {a b : Nat → Nat} {f : Nat} {s road : List Nat} {x : Nat} (h : x ∈ s ++ road) : walk a b f s x road = road := by
  cases f with
  | zero => rfl
  | succ f => exact if_pos h
theorem walk_go {a b : Nat → Nat} {f : Nat} {s road : List Nat} {x : Nat} (h : x ∉ s ++ road) : walk a b (f + 1) s x road = walk a b f s (b (a x)) (road ++ [x, a x]) := if_neg h
/-- the fuel does not run out -/
theorem fuel_pos {a : Nat → Nat} {M f : Nat} {s road : List Nat} {x : Nat} (S : Seen a M (s ++ road)) (hx : x < M) (hn : x ∉ s ++ road) (hf : M ≤ f + (s ++ road).length) : ∃ f', f = f' + 1 := by
  cases f with
  | zero => exact absurd (nodup_full S.nd S.lt (by omega) hx) hn
  | succ f => exact ⟨f, rfl⟩
theorem walk_seen {a b : Nat → Nat} {M : Nat} (A : Inv2 M a) (hb : ∀ k, k < M → b k < M) : ∀ (f : Nat) (s road : List Nat) (x : Nat), Seen a M (s ++ road) → x < M → Seen a M (s ++ walk a b f s x road)
  | 0, _, _, _, S, _ => S
  | f + 1, s, road, x, S, hx => by
    by_cases h : x ∈ s ++ road
    · rw [walk_stop h]; exact S
    · rw [walk_go h]
      refine walk_seen A hb f s (road ++ [x, a x]) (b (a x)) ?_ (hb _ (A.lt x hx))
      rw [← List.append_assoc]
      exact (S.push A hx h).2
theorem walk_pre {a b : Nat → Nat} : ∀ (f : Nat) (s road : List Nat) (x : Nat), ∃ r, walk a b f s x road = road ++ r
  | 0, _, road, _ => ⟨[], (List.append_nil road).symm⟩
  | f + 1, s, road, x => by
    by_cases h : x ∈ s ++ road
    · rw [walk_stop h]; exact ⟨[], (List.append_nil road).symm⟩
    · rw [walk_go h]
      obtain ⟨r, e⟩ := walk_pre f s (road ++ [x, a x]) (b (a x))
      exact ⟨[x, a x] ++ r, by rw [e, List.append_assoc]⟩
theorem walk_first {a b : Nat → Nat} {M : Nat} {s : List Nat} {x : Nat} (hM : 0 < M) (h : x ∉ s) : ∃ r, walk a b M s x [] = x :: a x :: r := by
  obtain ⟨f, rfl⟩ : ∃ f, M = f + 1 := ⟨M - 1, by omega⟩
  rw [walk_go (by simpa using h)]
  obtain ⟨r, e⟩ := walk_pre f s ([] ++ [x, a x]) (b (a x))
  exact ⟨r, by rw [e]; rfl⟩
theorem flatten_snoc (F : List (List Nat)) (r : List Nat) : (F ++ [r]).flatten = F.flatten ++ r := by simp
theorem goR_seen {a b : Nat → Nat} {M : Nat} {s0 : List Nat} (A : Inv2 M a) (hb : ∀ k, k < M → b k < M) (S0 : Seen a M s0) : ∀ i, i ≤ M → Seen a M (s0 ++ (goR a b M s0 i).flatten)
  | 0, _ => by rw [goR_zero]; simpa using S0
  | i + 1, h => by
    have ih := goR_seen A hb S0 i (by omega)
    rw [goR_succ]
    unfold stepR
    split
    · exact ih
    · rw [flatten_snoc, ← List.append_assoc]
      exact walk_seen A hb M _ [] i (by rw [List.append_nil]; exact ih) (by omega)
theorem goR_mem {a b : Nat → Nat} {M : Nat} {s0 : List Nat} : ∀ i, i ≤ M → ∀ x, x < i → x ∈ s0 ++ (goR a b M s0 i).flatten
  | 0, _, x, hx => absurd hx (Nat.not_lt_zero _)
  | i + 1, h, x, hx => by
    have ih := goR_mem (a := a) (b := b) (M := M) (s0 := s0) i (by omega) x
    rw [goR_succ]
    unfold stepR
    split
    · rename_i hm
      by_cases e : x = i
      · rw [e]; exact hm
      · exact ih (by omega)
    · rename_i hm
      rw [flatten_snoc, ← List.append_assoc]
      by_cases e : x = i
      · subst e
        obtain ⟨r, er⟩ := walk_first (a := a) (b := b) (M := M) (show 0 < M by omega) hm
        rw [er]
        simp
      · exact List.mem_append.mpr (.inl (ih (by omega)))
/-- places that are seen are passed over -/
theorem goR_skip {a b : Nat → Nat} {M : Nat} {s0 : List Nat} {i : Nat} : ∀ j, i ≤ j → (∀ x, i ≤ x → x < j → x ∈ s0 ++ (goR a b M s0 i).flatten) → goR a b M s0 j = goR a b M s0 i
  | 0, h, _ => by
    have : i = 0 := by omega
    rw [this]
  | j + 1, h, hx => by
    by_cases e : i = j + 1
    · rw [e]
    · have ih := goR_skip (a := a) (b := b) (M := M) (s0 := s0) (i := i) j (by omega) (fun x h1 h2 => hx x h1 (by omega))
      rw [goR_succ, ih]
      unfold stepR
      rw [if_pos (hx j (by omega) (by omega))]
/-- what is left, in its order -/
def leftL (M : Nat) (s : List Nat) : List Nat := (List.range M).filter (fun x => decide (x ∉ s))
theorem mem_left {M : Nat} {s : List Nat} {x : Nat} : x ∈ leftL M s ↔ x < M ∧ x ∉ s := by simp [leftL]
theorem left_nodup (M : Nat) (s : List Nat) : (leftL M s).Nodup := List.Pairwise.filter _ List.nodup_range
theorem left_len (M : Nat) (s : List Nat) : (leftL M s).length ≤ M := by
  have h := List.length_filter_le (fun x : Nat => decide (x ∉ s)) (List.range M)
  rw [List.length_range] at h
  exact h
theorem left_drop {M : Nat} {s : List Nat} {x : Nat} : (leftL M s).filter (fun y => decide (y ≠ x)) = leftL M (s ++ [x]) := by
  unfold leftL
  rw [List.filter_filter]
  apply List.filter_congr
  intro y _
  simp [and_comm]
theorem left_head {M : Nat} {s : List Nat} {x : Nat} {r : List Nat} (h : leftL M s = x :: r) : x < M ∧ x ∉ s ∧ ∀ y, y < x → y ∈ s := by
  have h1 : x ∈ leftL M s := by rw [h]; simp
  rw [mem_left] at h1
  refine ⟨h1.1, h1.2, fun y hy => ?_⟩
  by_cases c : y ∈ s
  · exact c
  · have h2 : y ∈ leftL M s := mem_left.mpr ⟨by omega, c⟩
    have hs : (leftL M s).Pairwise (· < ·) := List.Pairwise.filter _ List.pairwise_lt_range
    rw [h] at h2 hs
    rcases List.mem_cons.mp h2 with e | e
    · omega
    · have := (List.pairwise_cons.mp hs).1 y e
      omega
theorem left_nil {M : Nat} {s : List Nat} (h : leftL M s = []) : ∀ y, y < M → y ∈ s := fun y hy => by
  by_cases c : y ∈ s
  · exact c
  · have h2 : y ∈ leftL M s := mem_left.mpr ⟨hy, c⟩
    rw [h] at h2
    cases h2
end Rm
namespace Rm
theorem goR_len {a b : Nat → Nat} {M : Nat} {s0 : List Nat} : ∀ i, i ≤ M → (goR a b M s0 i).length ≤ i
  | 0, _ => Nat.le_refl _
  | i + 1, h => by
    have ih := goR_len (a := a) (b := b) (M := M) (s0 := s0) i (by omega)
    rw [goR_succ]
    unfold stepR
    split
    · omega
    · rw [List.length_append, List.length_singleton]; omega
end Rm
namespace Rm
theorem left_lt {M : Nat} {s r : List Nat} {x : Nat} (hx : x < M) (hn : x ∉ s) (hr : x ∈ r) : (leftL M (s ++ r)).length < (leftL M s).length := by
  have hsub : ∀ y, y ∈ x :: leftL M (s ++ r) → y ∈ leftL M s := fun y hy => by
    rcases List.mem_cons.mp hy with e | e
    · rw [e]; exact mem_left.mpr ⟨hx, hn⟩
    · have h2 := mem_left.mp e
      exact mem_left.mpr ⟨h2.1, fun z => h2.2 (List.mem_append.mpr (.inl z))⟩
  have hnd : (x :: leftL M (s ++ r)).Nodup := List.nodup_cons.mpr ⟨fun h => (mem_left.mp h).2 (List.mem_append.mpr (.inr hr)), left_nodup _ _⟩
  have := nodup_sub_len hnd hsub
  rw [List.length_cons] at this
  omega
end Rm
namespace Rm
theorem roads_ne {a b : Nat → Nat} {M : Nat} (h : 0 < M) : roadsM a b M ≠ [] := fun e => by
  have := goR_mem (a := a) (b := b) (M := M) (s0 := []) M (Nat.le_refl _) 0 h
  unfold roadsM at e
  rw [e] at this
  simp at this
theorem road_len {a b : Nat → Nat} {M : Nat} (A : Inv2 M a) (hb : ∀ k, k < M → b k < M) {r : List Nat} (hr : r ∈ roadsM a b M) : r.length ≤ M := by
  have S := goR_seen (s0 := []) A hb ⟨.nil, by simp, by simp⟩ M (Nat.le_refl _)
  rw [List.nil_append] at S
  have h1 : ∀ x, x ∈ r → x < M := fun x hx => S.lt x (List.mem_flatten.mpr ⟨r, hr, hx⟩)
  have h2 : r.Nodup := (List.sublist_flatten_of_mem hr).nodup S.nd
  exact nodup_len M r h2 h1
end Rm

set_option linter.all false
namespace Rm
/-! ## a text gone through, whatever it is -/
def rst (cs : List Nat) (m : Nat) : Nat → Option (List Nat × List Nat)
  | 0 => some (List.replicate m 0, [])
  | i + 1 => match rst cs m i with
    | none => none
    | some (f, p) => if cs.getD i 0 = 40 then some (f, p ++ [i]) else if cs.getD i 0 = 41 ∧ p ≠ [] then some ((f.set i (p.getLastD 0)).set (p.getLastD 0) i, p.dropLast) else none
theorem rst_none {cs : List Nat} {m i : Nat} (h : rst cs m i = none) : ∀ j, rst cs m (i + j) = none
  | 0 => h
  | j + 1 => by
    show rst cs m (i + j + 1) = none
    unfold rst
    rw [rst_none h j]
theorem rst_ok {cs : List Nat} {m : Nat} : ∀ {i : Nat} {f p : List Nat}, rst cs m i = some (f, p) → f.length = m ∧ ∀ x, x ∈ p → x < i
  | 0, f, p, h => by
    cases h
    exact ⟨List.length_replicate, fun x hx => absurd hx List.not_mem_nil⟩
  | i + 1, f, p, h => by
    unfold rst at h
    cases e : rst cs m i with
    | none => rw [e] at h; cases h
    | some fp =>
      obtain ⟨f0, p0⟩ := fp
      rw [e] at h
      dsimp only at h
      obtain ⟨h1, h2⟩ := rst_ok e
      by_cases c1 : cs.getD i 0 = 40
      · rw [if_pos c1] at h
        cases h
        refine ⟨h1, fun x hx => ?_⟩
        rcases List.mem_append.mp hx with q | q
        · have := h2 x q; omega
        · rw [List.mem_singleton] at q; omega
      · rw [if_neg c1] at h
        by_cases c2 : cs.getD i 0 = 41 ∧ p0 ≠ []
        · rw [if_pos c2] at h
          cases h
          refine ⟨by rw [List.length_set, List.length_set, h1], fun x hx => ?_⟩
          have := h2 x ((List.dropLast_sublist p0).subset hx)
          omega
        · rw [if_neg c2] at h
          cases h
theorem rst_len {cs : List Nat} {m : Nat} : ∀ {i : Nat} {f p : List Nat}, rst cs m i = some (f, p) → p.length ≤ i
  | 0, f, p, h => by cases h; exact Nat.le_refl _
  | i + 1, f, p, h => by
    unfold rst at h
    cases e : rst cs m i with
    | none => rw [e] at h; cases h
    | some fp =>
      obtain ⟨f0, p0⟩ := fp
      rw [e] at h
      dsimp only at h
      have h2 := rst_len e
      by_cases c1 : cs.getD i 0 = 40
      · rw [if_pos c1] at h
        cases h
        rw [List.length_append, List.length_singleton]
        omega
      · rw [if_neg c1] at h
        by_cases c2 : cs.getD i 0 = 41 ∧ p0 ≠ []
        · rw [if_pos c2] at h
          cases h
          rw [List.length_dropLast]
          omega
        · rw [if_neg c2] at h
          cases h
/-- what is read of a text -/
def rdt (cs : List Nat) : Option (List Nat) := match rst cs cs.length cs.length with
  | none => none
  | some (f, p) => if p = [] ∧ 2 ≤ cs.length ∧ cs.length ≤ 40 then some f else none
theorem rdt_none {cs : List Nat} {i : Nat} (hi : i ≤ cs.length) (h : rst cs cs.length i = none) : rdt cs = none := by
  have := rst_none h (cs.length - i)
  rw [show i + (cs.length - i) = cs.length by omega] at this
  unfold rdt
  rw [this]
theorem rdt_len {cs f : List Nat} (h : rdt cs = some f) : f.length = cs.length ∧ cs.length ≤ 40 := by
  unfold rdt at h
  cases e : rst cs cs.length cs.length with
  | none => rw [e] at h; cases h
  | some fp =>
    obtain ⟨f0, p0⟩ := fp
    rw [e] at h
    dsimp only at h
    by_cases c : p0 = [] ∧ 2 ≤ cs.length ∧ cs.length ≤ 40
    · rw [if_pos c] at h
      cases h
      exact ⟨(rst_ok e).1, c.2.2⟩
    · rw [if_neg c] at h; cases h
end Rm

namespace Rv
open PySem PySem.Spec PyProof.Rows L2
open Rm (zs at')
def topS (i : Nat) : Stmt := PySem.Challenge.pw_riverloops_k02_what_is_none.main.body.getD i (.Pass ⟨0, 0, 0, 0⟩)
structure Blt (mg : Str → Option Value) : Prop where
  len_ : mg "len" = none
  range_ : mg "range" = none
  isinstance_ : mg "isinstance" = none
  int_ : mg "int" = none
  bool_ : mg "bool" = none
  list_ : mg "list" = none
  str_ : mg "str" = none
  reversed_ : mg "reversed" = none
  min_ : mg "min" = none
  max_ : mg "max" = none
  abs_ : mg "abs" = none
  sum_ : mg "sum" = none
  set_ : mg "set" = none
  tuple_ : mg "tuple" = none
  ValueError_ : mg "ValueError" = none
/-! ### common words of the walks -/
theorem hu64 {A : Around} {k : Nat} (hr : Room k A) : A.units + 64 < cLine := hr.units
/-- a def of the text: where it stands, what name it has -/
structure Dfn (K : PySem.W.Frag) (mg : Str → Option Value) (x : Str) (st : Stmt) (ps : List Str) : Prop where
  ex : ∃ (f : Addr) (fd : FuncData), Fun K x x st f fd ∧ mg x = some (.ref f) ∧ Binds K fd ps []
/-- a def that may be called by its name, and what it is worth; nothing leaves it -/
structure Cal (P : Program) (w : World) (K : PySem.W.Frag) (mg : Str → Option Value) (base : Heap) (k : Nat) (x : Str) (sp : Sp) : Prop where
  ex : ∃ (f : Addr) (fd : FuncData) (ps : List Str), FnOk P w K mg base CX0 k f fd ps sp ∧ mg x = some (.ref f) ∧ PySem.W.keepIn K (.ref f) = true ∧ Binds K fd ps []
theorem pe_c {X : Cx} {x : Str} {p pos : Pos} {e : Expr} {es : List Expr} {t : TA} {sp : Sp} {j k : Nat} (c : Cal X.prog X.w X.K X.mg X.base k x sp) (hr : Room j X.A) (hk : k ≤ j) (hg : Gl X x) (ha : PA X (e :: es) t)
    (hdb : (x == ("__debug__" : Str)) = false := by decide) (he : starEach (e :: es) X.env = (false, eval e X.env) :: starEach es X.env := by rfl) (hpl : (backTo pos (starEach es X.env)).any (·.1) = false := by rfl) :
    PE X (.Call (.Name x p) (e :: es) [] pos) (tCall sp [] E0 t) := by
  obtain ⟨f, fd, ps, F, hm, kp, b⟩ := c.ex
  exact pe_call F (hr.mono hk) hg hm kp b .nil pass0 ha hdb he hpl
section
variable {P : Program} {w : World} {K : PySem.W.Frag} {mg : Str → Option Value} {base : Heap}
theorem Dfn.cal {x : Str} {st : Stmt} {N ps : List Str} {k : Nat} {sp : Sp} (D : Dfn K mg x st ps) (S : FnScope N ps (defScope st)) (len : ∀ vs H Q E, sp vs H Q E → vs.length = ps.length)
    (hbody : ∀ (f : Addr) (cdv : Value) (A : Around) (outer : List Env) (s : Shared) (H : Hp) (vs : List V) (Q : VK) (E : XK), Room k (A.deeper (envOfC x (defScope st) s.heap.objs.size f cdv)) → sp vs H Q E →
      ∃ t, PSs (cxOf CX0 P w K mg base N x (defScope st) f cdv A outer s H E).nox (defBody st) t ∧ t { nx := fun _ H' => Q .non H', rt := Q } (start N vs) H) : Cal P w K mg base (k + 1) x sp := by
  obtain ⟨f, fd, F, hm, b⟩ := D.ex
  exact ⟨f, fd, ps, F.ok S len (fun cdv A outer s H vs Q E hr h => hbody f cdv A outer s H vs Q E hr h), hm, F.kp, b⟩
theorem cal_imp {x : Str} {k : Nat} {sp sp' : Sp} (c : Cal P w K mg base k x sp) (h : ∀ vs H Q E, sp' vs H Q E → sp vs H Q E) : Cal P w K mg base k x sp' := by
  obtain ⟨f, fd, ps, F, a, b, d⟩ := c.ex
  exact ⟨f, fd, ps, F.imp h, a, b, d⟩
theorem cal_mono {x : Str} {j k : Nat} {sp : Sp} (c : Cal P w K mg base j x sp) (h : j ≤ k) : Cal P w K mg base k x sp := by
  obtain ⟨f, fd, ps, F, a, b, d⟩ := c.ex
  exact ⟨f, fd, ps, F.mono h, a, b, d⟩
end
/-! heaps -/
theorem same_new {H : Hp} {p : Addr} {o : HO} (h : H p = none) : Same H (upd H p o) := fun b x e => by
  rw [upd_ne (ne_of_none e h)]
  exact e
/-- a store to an object that H did not hold -/
theorem same_upd {H H' : Hp} {p : Addr} {o : HO} (sm : Same H H') (h : H p = none) : Same H (upd H' p o) := fun b x e => by
  rw [upd_ne (ne_of_none e h)]
  exact sm b x e
theorem sqL {K : PySem.W.Frag} {H : Hp} {p : Addr} {xs : List V} (h : H p = some (.lst xs)) : SqL K H p xs := .inl (.inl h)
theorem sqT {K : PySem.W.Frag} {H : Hp} {p : Addr} {xs : List V} (h : H p = some (.tup xs)) : SqT K H p xs := .inl (.inl h)
theorem small63 {n : Nat} (h : n ≤ 100000) : n < sizeLine := Nat.lt_of_le_of_lt h (by decide)
theorem small63' {n : Nat} (h : n ≤ 100000) : n ≤ sizeLine := Nat.le_of_lt (small63 h)
/-! lists -/
abbrev vi (s : List Int) : List V := s.map V.int
abbrev vn (a : List Nat) : List V := vi (zs a)
theorem vi_get {s : List Int} {k : Nat} (h : k < s.length) : (vi s)[k]? = some (.int (Rm.g s k)) := by
  rw [List.getElem?_map, List.getElem?_eq_getElem h]
  simp [Rm.g, List.getD_eq_getElem?_getD, h]
theorem vi_at {s : List Int} {k : Nat} {z : Int} (h : k < s.length) (e : z = (k : Int)) : atI (vi s) z = some (.int (Rm.g s k)) := at_of e (vi_get h)
theorem vi_append (s t : List Int) : vi s ++ vi t = vi (s ++ t) := (List.map_append).symm
theorem zs_append (s t : List Nat) : zs s ++ zs t = zs (s ++ t) := (List.map_append).symm
theorem vn_push (s : List Nat) (k : Nat) : vn s ++ [V.int (k : Int)] = vn (s ++ [k]) := by simp [vn, vi, zs]
theorem vn_last (s : List Nat) (k : Nat) : (vn (s ++ [k]))[(vn (s ++ [k])).length - 1]? = some (.int (k : Int)) := by simp [vn, vi, zs]
theorem vn_drop (s : List Nat) (k : Nat) : (vn (s ++ [k])).dropLast = vn s := by simp [vn, vi, zs]
theorem vn_len (s : List Nat) : (vn s).length = s.length := by simp [vn, vi, zs]
/-! tests that are decided -/
theorem dn {p : Prop} [Decidable p] (h : ¬ decide p = true) : ¬ p := fun z => h (decide_eq_true z)
theorem nd {p : Prop} [Decidable p] (h : ¬ (!decide p) = true) : p := by
  by_cases q : p
  · exact q
  · rw [decide_eq_false q] at h; exact absurd rfl h
theorem nt {p : Prop} [Decidable p] (h : (!decide p) = true) : ¬ p := fun z => by
  rw [decide_eq_true z] at h; exact nomatch h
theorem ixN_nat {n k : Nat} (h : k < n) : ixN n (k : Int) = some k := by
  unfold ixN
  rw [if_pos (by omega), if_pos (by omega), Int.toNat_natCast]
theorem ixN_of {n k : Nat} {z : Int} (e : z = (k : Int)) (h : k < n) : ixN n z = some k := by rw [e]; exact ixN_nat h
theorem vn_set (s : List Nat) (k t : Nat) : (vn s).set k (V.int (t : Int)) = vn (s.set k t) := by simp [vn, vi, zs, List.map_set]
theorem vi_set (s : List Int) (k : Nat) (t : Int) : (vi s).set k (V.int t) = vi (s.set k t) := by simp [vi, List.map_set]
theorem rep1 {α : Type} (x : α) : ∀ n : Nat, (List.replicate n [x]).flatten = List.replicate n x
  | 0 => rfl
  | n + 1 => by rw [List.replicate_succ, List.flatten_cons, rep1 x n, List.replicate_succ]; rfl
theorem vn_rep (n : Nat) : List.replicate n (V.int 0) = vn (List.replicate n 0) := by simp [vn, vi, zs]
theorem zs_g (a : List Nat) (k : Nat) : Rm.g (zs a) k = ((at' a k : Nat) : Int) := by
  simp only [Rm.g, at', zs, List.getD_eq_getElem?_getD, List.getElem?_map]
  cases a[k]? <;> simp
theorem vn_at {a : List Nat} {k : Nat} {z : Int} (h : k < a.length) (e : z = (k : Int)) : atI (vn a) z = some (.int ((at' a k : Nat) : Int)) := by
  have := vi_at (s := zs a) (by simpa using h) e
  rw [zs_g] at this
  exact this
theorem vn_get {a : List Nat} {k : Nat} (h : k < a.length) : (vn a)[k]? = some (.int ((at' a k : Nat) : Int)) := by
  have := vi_get (s := zs a) (k := k) (by simpa using h)
  rw [zs_g] at this
  exact this
/-! texts by their signs -/
def tx (cs : List Nat) : Str := ⟨cs.toArray⟩
theorem tx_len (cs : List Nat) : (tx cs).length = cs.length := by simp [tx, Str.length]
theorem tx_lp : (("(" : String) : Str) = tx [40] := by decide +kernel
theorem tx_rp : ((")" : String) : Str) = tx [41] := by decide +kernel
theorem tx_nil : (("" : String) : Str) = tx [] := by decide +kernel
theorem tx_app (a b : List Nat) : tx a ++ tx b = tx (a ++ b) := by
  show Str.append (tx a) (tx b) = _
  simp [tx, Str.append]
theorem tx_inj {a b : List Nat} (h : tx a = tx b) : a = b := by
  have := congrArg (fun s : Str => s.cps.toList) h
  simpa [tx] using this
theorem tx_join : ∀ l : List Nat, Str.join (tx []) (l.map fun c => tx [c]) = tx l
  | [] => rfl
  | [c] => rfl
  | c :: d :: r => by
    have h := tx_join (d :: r)
    show tx [c] ++ tx [] ++ Str.join (tx []) ((d :: r).map fun c => tx [c]) = _
    rw [h, tx_app, tx_app]
    rfl
theorem tx_get {cs : List Nat} {k c : Nat} (h : cs[k]? = some c) : (tx cs).cps[k]? = some c := by simpa [tx] using h
/-! lists of ints as data -/
theorem dp_vi {K : PySem.W.Frag} {H : Hp} : ∀ s : List Int, DpAll K H (vi s) (s.map PyData.int)
  | [] => .nil
  | x :: r => .cons (.int x) (dp_vi r)
theorem rEq_ints {K : PySem.W.Frag} {H : Hp} {a b : Addr} {s t : List Int} {Q : VK} (ha : SqL K H a (vi s)) (hb : SqL K H b (vi t)) (q : Q (.bl (decide (s = t))) H) : rEqD K (.ref a) (.ref b) H Q := by
  refine ⟨_, _, .lst ha (dp_vi s), .lst hb (dp_vi t), PySem.W.ke_shaped_ints s, PySem.W.ke_shaped_ints t, ?_⟩
  rw [PyData.eqv, PySem.W.ked_eqvAll]
  exact q
theorem rNe_ints {K : PySem.W.Frag} {H : Hp} {a b : Addr} {s t : List Int} {Q : VK} (ha : SqL K H a (vi s)) (hb : SqL K H b (vi t)) (q : Q (.bl (!decide (s = t))) H) : rNeD K (.ref a) (.ref b) H Q := by
  refine ⟨_, _, .lst ha (dp_vi s), .lst hb (dp_vi t), PySem.W.ke_shaped_ints s, PySem.W.ke_shaped_ints t, ?_⟩
  rw [PyData.eqv, PySem.W.ked_eqvAll]
  exact q
/-! ways that meet: G is found at the first use -/
theorem joinC {α : Type} {C G : α → Prop} {goal : Prop} (h : (∀ x, C x → G x) → goal) (hG : ∀ x, C x → G x) : goal := h hG
def rLenK (K : PySem.W.Frag) : List V → Hp → VK → Prop := fun xs H Q => ∃ p ys, xs = [.ref p] ∧ (SqL K H p ys ∨ SqT K H p ys) ∧ Q (.int ((ys.length : Nat) : Int)) H
/-! a chain of three comparisons as a test -/
def tChain3 (r r' r'' : R2) (ta tb tc td : TE) : TE := fun σ H Q => ta σ H fun x H1 => tb σ H1 fun y H2 => r x y H2 fun z H3 => ∃ k, z = .bl k ∧ (if k = true then tc σ H3 fun u H4 => r' y u H4 fun z' H5 => ∃ k', z' = .bl k' ∧ (if k' = true then td σ H5 fun v H6 => r'' u v H6 Q else Q (.bl false) H5) else Q (.bl false) H3)
theorem pt_chain3 {X : Cx} {a b c d : Expr} {pos : Pos} {ta tb tc td : TE} {op op' op'' : CmpOp} {r r' r'' : R2} (ho : OpR X (compareOp op) r) (ho' : OpR X (compareOp op') r') (ho'' : OpR X (compareOp op'') r'') (ha : PE X a ta) (hb : PE X b tb) (hc : PE X c tc) (hd : PE X d td)
    (hm : lastMarks [op, op', op''] [b, c, d] = false := by with_unfolding_all rfl) : PT X (.Compare a [op, op', op''] [b, c, d] pos) (tTest (tChain3 r r' r'' ta tb tc td)) := by
  refine ⟨fun pins s σ H Q I h => ?_⟩
  refine isTrue_chain (thn (ha.run pins s σ H _ I h) fun v s1 ⟨x, H1, I1, r1, q1⟩ => test_link (thn (hb.run pins s1 σ H1 _ I1 q1) fun u s2 ⟨y, H2, I2, r2, q2⟩ =>
    thn (ho pins s2 σ H2 x y v u _ I2 r1 r2 q2) fun d1 s3 ⟨z, H3, I3, r3, k, e, q3⟩ => ?_)) hm
  subst e
  cases r3
  refine wpAny_truthy_bool ?_
  cases k with
  | false =>
    obtain ⟨k', e', q'⟩ := q3
    cases e'
    exact ite_ff ⟨H3, I3, q'⟩
  | true =>
    refine ite_tt (test_link (thn (hc.run pins s3 σ H3 _ I3 q3) fun w' s4 ⟨z', H4, I4, r4, q4⟩ =>
      thn (ho' pins s4 σ H4 y z' u w' _ I4 r2 r4 q4) fun d2 s5 ⟨z5, H5, I5, r5, k5, e5, q5⟩ => ?_))
    subst e5
    cases r5
    refine wpAny_truthy_bool ?_
    cases k5 with
    | false =>
      obtain ⟨k', e', q'⟩ := q5
      cases e'
      exact ite_ff ⟨H5, I5, q'⟩
    | true =>
      refine ite_tt (test_last (thn (hd.run pins s5 σ H5 _ I5 q5) fun w6 s6 ⟨z6, H6, I6, r6, q6⟩ => thn (ho'' pins s6 σ H6 z' z6 w' w6 _ I6 r4 r6 q6) fun d3 s7 ⟨z7, H7, I7, r7, k7, e7, q7⟩ => ?_))
      subst e7
      cases r7
      exact wpAny_truthy_bool ⟨H7, I7, q7⟩
/-! a new list is handed back, all else stays -/
def NewL (H : Hp) (Q : VK) (l : List Nat) : Prop := ∀ H' p, Same H H' → H p = none → H' p = some (.lst (vn l)) → Q (.ref p) H'
theorem vn_take (l : List Nat) (i : Nat) (c : Nat) (h : l[i]? = some c) : vn (l.take i) ++ [V.int (c : Int)] = vn (l.take (i + 1)) := by
  rw [vn_push, List.take_add_one, h]
  rfl
theorem vn_full {l : List Nat} {m : Nat} (h : l.length = m) : l.take m = l := List.take_of_length_le (by omega)
theorem size_of {z : Int} (m : Int) (h : 0 < m) (h20 : m ≤ 20) : ∃ n : Nat, 1 + z.fmod m = (n : Int) ∧ 1 ≤ n ∧ (n : Int) ≤ m := by
  have h0 := Int.fmod_nonneg_of_pos z h
  have h1 := Int.fmod_lt_of_pos z h
  exact ⟨(1 + z.fmod m).toNat, by omega, by omega, by omega⟩
/-! nested data -/
theorem dEq {K : PySem.W.Frag} {H : Hp} {α : Type} [DecidableEq α] [PySem.W.Datum α] {x y : V} {c d : α} {Q : VK} (hx : Dp K H x (PySem.W.Datum.toD c)) (hy : Dp K H y (PySem.W.Datum.toD d))
    (sx : SeqAt.shaped (PySem.W.Datum.toD c) = true) (sy : SeqAt.shaped (PySem.W.Datum.toD d) = true) (q : Q (.bl (decide (c = d))) H) : rEqD K x y H Q := ⟨_, _, hx, hy, sx, sy, by rw [PySem.W.Datum.eqv]; exact q⟩
theorem dNe {K : PySem.W.Frag} {H : Hp} {α : Type} [DecidableEq α] [PySem.W.Datum α] {x y : V} {c d : α} {Q : VK} (hx : Dp K H x (PySem.W.Datum.toD c)) (hy : Dp K H y (PySem.W.Datum.toD d))
    (sx : SeqAt.shaped (PySem.W.Datum.toD c) = true) (sy : SeqAt.shaped (PySem.W.Datum.toD d) = true) (q : Q (.bl (!decide (c = d))) H) : rNeD K x y H Q := ⟨_, _, hx, hy, sx, sy, by rw [PySem.W.Datum.eqv]; exact q⟩
/-- a list of lists of ints: the addresses and what they hold -/
def AllL (K : PySem.W.Frag) (H : Hp) : List V → List (List Int) → Prop
  | [], [] => True
  | .ref p :: r, s :: t => SqL K H p (vi s) ∧ AllL K H r t
  | _, _ => False
theorem AllL.dp {K : PySem.W.Frag} {H : Hp} : ∀ {xs : List V} {ss : List (List Int)}, AllL K H xs ss → DpAll K H xs (ss.map PySem.W.Datum.toD)
  | [], [], _ => .nil
  | [], _ :: _, h => h.elim
  | .ref p :: r, s :: t, h => .cons (.lst h.1 (dp_vi s)) (AllL.dp h.2)
  | .ref _ :: _, [], h => by cases h
  | .non :: _, _, h => by cases h
  | .bl _ :: _, _, h => by cases h
  | .int _ :: _, _, h => by cases h
  | .str _ :: _, _, h => by cases h
  | .byt _ :: _, _, h => by cases h
  | .flt _ :: _, _, h => by cases h
  | .ty _ :: _, _, h => by cases h
theorem AllL.same {K : PySem.W.Frag} {H H' : Hp} (sm : Same H H') : ∀ {xs : List V} {ss : List (List Int)}, AllL K H xs ss → AllL K H' xs ss
  | [], [], _ => True.intro
  | [], _ :: _, h => h.elim
  | .ref p :: r, s :: t, h => ⟨sm.seq h.1, AllL.same sm h.2⟩
  | .ref _ :: _, [], h => by cases h
  | .non :: _, _, h => by cases h
  | .bl _ :: _, _, h => by cases h
  | .int _ :: _, _, h => by cases h
  | .str _ :: _, _, h => by cases h
  | .byt _ :: _, _, h => by cases h
  | .flt _ :: _, _, h => by cases h
  | .ty _ :: _, _, h => by cases h
theorem canLayAll_ll : ∀ ss : List (List Int), PyData.canLayAll0 (ss.map PySem.W.Datum.toD) = true
  | [] => rfl
  | s :: r => by
    rw [List.map_cons, PyData.canLayAll0, canLayAll_ll r, Bool.and_true]
    show PyData.canLay0 (.list (s.map PyData.int)) = true
    rw [PyData.canLay0]
    exact PySem.W.ke_canLayAll0 s
theorem depthAll_ll : ∀ ss : List (List Int), PyData.depthAll (ss.map PySem.W.Datum.toD) ≤ 1
  | [] => Nat.zero_le _
  | s :: r => by
    rw [List.map_cons, PyData.depthAll]
    refine Nat.max_le.mpr ⟨?_, depthAll_ll r⟩
    show PyData.depth (.list (s.map PyData.int)) ≤ 1
    rw [PyData.depth, PySem.W.ke_depthAll]
    exact Nat.le_refl _
theorem shaped_ll (ss : List (List Int)) : SeqAt.shaped (PySem.W.Datum.toD ss) = true := by
  show (PyData.canLay0 (.list (ss.map PySem.W.Datum.toD)) && decide (PyData.depth (.list (ss.map PySem.W.Datum.toD)) ≤ 64)) = true
  rw [PyData.canLay0, canLayAll_ll, Bool.true_and, decide_eq_true_eq, PyData.depth]
  have := depthAll_ll ss
  omega
theorem rEq_ll {K : PySem.W.Frag} {H : Hp} {a b : Addr} {xs ys : List V} {s t : List (List Int)} {Q : VK} (ha : SqL K H a xs) (hb : SqL K H b ys) (hs : AllL K H xs s) (ht : AllL K H ys t) (q : Q (.bl (decide (s = t))) H) : rEqD K (.ref a) (.ref b) H Q :=
  dEq (.lst ha hs.dp) (.lst hb ht.dp) (shaped_ll s) (shaped_ll t) q
theorem rNe_ll {K : PySem.W.Frag} {H : Hp} {a b : Addr} {xs ys : List V} {s t : List (List Int)} {Q : VK} (ha : SqL K H a xs) (hb : SqL K H b ys) (hs : AllL K H xs s) (ht : AllL K H ys t) (q : Q (.bl (!decide (s = t))) H) : rNeD K (.ref a) (.ref b) H Q :=
  dNe (.lst ha hs.dp) (.lst hb ht.dp) (shaped_ll s) (shaped_ll t) q
def spLaw (K : PySem.W.Frag) : Sp := fun vs H Q _ => ∃ (a : Addr) (ns : List Int), vs = [.ref a] ∧ SqL K H a (vi ns) ∧ ns.length ≤ 63 ∧ ∀ H', Q (.bl true) H'
/-! all but some stay -/
def Sx (X : List Addr) (H H' : Hp) : Prop := ∀ b o, b ∉ X → H b = some o → H' b = some o
theorem Sx.refl (X : List Addr) (H : Hp) : Sx X H H := fun _ _ _ h => h
theorem Sx.trans {X : List Addr} {H H1 H2 : Hp} (s : Sx X H H1) (t : Sx X H1 H2) : Sx X H H2 := fun b o hb h => t b o hb (s b o hb h)
theorem Sx.of {X : List Addr} {H H' : Hp} (s : Same H H') : Sx X H H' := fun b o _ h => s b o h
theorem Sx.upd {X : List Addr} {H H' : Hp} {p : Addr} {o : HO} (s : Sx X H H') (hp : p ∈ X) : Sx X H (upd H' p o) := fun b u hb h => by
  rw [upd_ne (fun e => hb (by rw [e]; exact hp))]
  exact s b u hb h
theorem Sx.same {X : List Addr} {H0 H H' : Hp} (s : Sx X H H') (h0 : Same H0 H) (hX : ∀ x, x ∈ X → H0 x = none) : Same H0 H' := fun b o h => s b o (fun hb => by rw [hX b hb] at h; cases h) (h0 b o h)
/-! lists of lists -/
abbrev vr (rs : List Addr) : List V := rs.map V.ref
def HL (H : Hp) (rs : List Addr) (F : List (List Nat)) : Prop := rs.length = F.length ∧ ∀ (i : Nat) (r : Addr) (l : List Nat), rs[i]? = some r → F[i]? = some l → H r = some (.lst (vn l))
theorem HL.nil (H : Hp) : HL H [] [] := ⟨rfl, fun i r l h => by simp at h⟩
theorem HL.same {H H' : Hp} {rs : List Addr} {F : List (List Nat)} (h : HL H rs F) (s : Same H H') : HL H' rs F := ⟨h.1, fun i r l h1 h2 => s _ _ (h.2 i r l h1 h2)⟩
theorem HL.sx {X : List Addr} {H H' : Hp} {rs : List Addr} {F : List (List Nat)} (h : HL H rs F) (s : Sx X H H') (hX : ∀ x, x ∈ X → x ∉ rs) : HL H' rs F :=
  ⟨h.1, fun i r l h1 h2 => s _ _ (fun hm => hX r hm (List.mem_of_getElem? h1)) (h.2 i r l h1 h2)⟩
theorem HL.snoc {H : Hp} {rs : List Addr} {F : List (List Nat)} {r : Addr} {l : List Nat} (h : HL H rs F) (hr : H r = some (.lst (vn l))) : HL H (rs ++ [r]) (F ++ [l]) := by
  refine ⟨by simp [h.1], fun i r' l' h1 h2 => ?_⟩
  by_cases c : i < rs.length
  · rw [List.getElem?_append_left c] at h1
    rw [List.getElem?_append_left (by rw [← h.1]; exact c)] at h2
    exact h.2 i r' l' h1 h2
  · by_cases e : i = rs.length
    · subst e
      rw [List.getElem?_append_right (Nat.le_refl _)] at h1
      rw [List.getElem?_append_right (by rw [h.1]; exact Nat.le_refl _), h.1] at h2
      simp at h1 h2
      rw [← h1, ← h2]
      exact hr
    · rw [List.getElem?_eq_none (by simp; omega)] at h1
      cases h1
theorem HL.allL {K : PySem.W.Frag} {H : Hp} : ∀ {rs : List Addr} {F : List (List Nat)}, HL H rs F → AllL K H (vr rs) (F.map zs)
  | [], [], _ => True.intro
  | [], _ :: _, h => by cases h.1
  | _ :: _, [], h => by cases h.1
  | r :: rs, l :: F, h => ⟨sqL (h.2 0 r l rfl rfl), HL.allL ⟨by have := h.1; simp at this; exact this, fun i r' l' h1 h2 => h.2 (i + 1) r' l' h1 h2⟩⟩
def NewLL (H : Hp) (Q : VK) (F : List (List Nat)) : Prop := ∀ H' p rs, Same H H' → H p = none → H' p = some (.lst (vr rs)) → HL H' rs F → rs.Nodup → p ∉ rs → (∀ r, r ∈ rs → H r = none) → Q (.ref p) H'
/-! a dict as a set of places -/
def kvsOf (l : List Nat) : List (Key × V) := l.map fun k : Nat => (Sum.inl (k : Int), V.bl true)
theorem kvs_len (l : List Nat) : (kvsOf l).length = l.length := List.length_map _
theorem kvs_get : ∀ (l : List Nat) (k : Nat), (valV (kvsOf l) (Sum.inl (k : Int) : Key)).isSome = decide (k ∈ l)
  | [], k => by simp [kvsOf, valV]
  | x :: r, k => by
    show (valV (((Sum.inl (x : Int) : Key), V.bl true) :: kvsOf r) (Sum.inl (k : Int) : Key)).isSome = _
    by_cases e : x = k
    · subst e
      rw [valV_pos rfl]
      simp
    · rw [valV_neg (fun z => e (by have := Sum.inl.inj z; omega)), kvs_get r k]
      simp [show ¬ k = x from fun z => e z.symm]
theorem kvs_put {l : List Nat} {k : Nat} (h : k ∉ l) : putK (kvsOf l) (Sum.inl (k : Int) : Key) (V.bl true) = kvsOf (l ++ [k]) := by
  rw [putK_new]
  · simp [kvsOf]
  · have h2 := kvs_get l k
    rw [decide_eq_false h] at h2
    cases e : valV (kvsOf l) (Sum.inl (k : Int) : Key) with
    | none => rfl
    | some v => rw [e] at h2; cases h2
theorem in_vn (l : List Nat) (k : Nat) : inV (.int (k : Int)) (vn l) = decide (k ∈ l) := by
  unfold inV
  induction l with
  | nil => rfl
  | cons x r ih =>
    show (eqV (.int (x : Int)) (.int (k : Int)) || (vn r).any fun y => eqV y (.int (k : Int))) = _
    rw [ih]
    have e : eqV (.int (x : Int)) (.int (k : Int)) = decide (k = x) := by
      show ((x : Int) == (k : Int)) = _
      by_cases c : k = x
      · subst c; simp
      · rw [decide_eq_false c, beq_eq_false_iff_ne.mpr (fun z => c (by omega))]
    rw [e]
    simp
theorem flat_vn (l : List Nat) : (vn l).all flatV = true := by
  rw [List.all_eq_true]
  intro v hv
  simp [vn, vi, zs] at hv
  obtain ⟨x, _, rfl⟩ := hv
  rfl
theorem rgV_vn (M : Nat) : rgV 0 (M : Int) = vn (List.range M) := by
  unfold rgV
  rw [show ((M : Int) - 0).toNat = M by omega]
  simp [vn, vi, zs]
theorem zs_erase : ∀ (L : List Nat) (j : Nat), (zs L).eraseIdx j = zs (L.eraseIdx j)
  | [], _ => rfl
  | _ :: _, 0 => rfl
  | x :: r, j + 1 => by
    show (x : Int) :: (zs r).eraseIdx j = (x : Int) :: zs (r.eraseIdx j)
    rw [zs_erase r j]
/-- the place of a number in a list without repeats, and the list without it -/
theorem rem_ok {L : List Nat} {x : Nat} (hn : L.Nodup) (hx : x ∈ L) : ∃ j : Nat, (zs L)[j]? = some (x : Int) ∧ (∀ m : Nat, m < j → (zs L)[m]? ≠ some (x : Int)) ∧ (zs L).eraseIdx j = zs (L.filter fun y => decide (y ≠ x)) := by
  obtain ⟨j, hj⟩ := List.mem_iff_getElem?.mp hx
  have hjl := (List.getElem?_eq_some_iff.mp hj).1
  refine ⟨j, by simp [zs, hj], fun m hm h => ?_, ?_⟩
  · have hml : m < L.length := by omega
    have h2 : L[m]? = some x := by
      simp [zs] at h
      obtain ⟨y, h3, h4⟩ := h
      rw [h3]
      congr 1
      omega
    have := nd_ix hn h2 hj
    omega
  · rw [← Rm.eraseIdx_filter L j x hn hj]
    exact zs_erase L j
theorem cut1 (xs : List V) : cutV xs (some 1) none = xs.drop 1 := by
  unfold cutV
  rw [show HT.sIx xs.length 0 (some 1) = min 1 xs.length from HT.sIx_nat xs.length 0 1, HT.sIx_none]
  cases xs with
  | nil => rfl
  | cons x r =>
    rw [show min 1 (x :: r).length = 1 by
      rw [List.length_cons]
      omega]
    show (List.take ((x :: r).length - 1) r) = r
    rw [List.length_cons, Nat.add_sub_cancel]
    exact List.take_length
theorem fdiv2 (n : Nat) : ((2 * n : Nat) : Int).fdiv 2 = (n : Int) := by
  rw [Int.fdiv_eq_ediv_of_nonneg _ (by decide)]
  omega
/-! objects of one make at some addresses -/
def HG {α : Type} (c : α → HO) (H : Hp) (rs : List Addr) (F : List α) : Prop := rs.length = F.length ∧ ∀ (i : Nat) (r : Addr) (l : α), rs[i]? = some r → F[i]? = some l → H r = some (c l)
section
variable {α : Type} {c : α → HO} {H H' : Hp} {rs : List Addr} {F : List α}
theorem HG.nil (c : α → HO) (H : Hp) : HG c H [] [] := ⟨rfl, fun i r l h => by simp at h⟩
theorem HG.same (h : HG c H rs F) (s : Same H H') : HG c H' rs F := ⟨h.1, fun i r l h1 h2 => s _ _ (h.2 i r l h1 h2)⟩
theorem HG.sx {X : List Addr} (h : HG c H rs F) (s : Sx X H H') (hX : ∀ x, x ∈ X → x ∉ rs) : HG c H' rs F :=
  ⟨h.1, fun i r l h1 h2 => s _ _ (fun hm => hX r hm (List.mem_of_getElem? h1)) (h.2 i r l h1 h2)⟩
theorem HG.snoc {r : Addr} {l : α} (h : HG c H rs F) (hr : H r = some (c l)) : HG c H (rs ++ [r]) (F ++ [l]) := by
  refine ⟨by simp [h.1], fun i r' l' h1 h2 => ?_⟩
  by_cases q : i < rs.length
  · rw [List.getElem?_append_left q] at h1
    rw [List.getElem?_append_left (by rw [← h.1]; exact q)] at h2
    exact h.2 i r' l' h1 h2
  · by_cases e : i = rs.length
    · subst e
      rw [List.getElem?_append_right (Nat.le_refl _)] at h1
      rw [List.getElem?_append_right (by rw [h.1]; exact Nat.le_refl _), h.1] at h2
      simp at h1 h2
      rw [← h1, ← h2]
      exact hr
    · rw [List.getElem?_eq_none (by simp; omega)] at h1
      cases h1
theorem HG.at (h : HG c H rs F) {i : Nat} (hi : i < F.length) : ∃ r, rs[i]? = some r ∧ H r = some (c F[i]) := by
  have : i < rs.length := by rw [h.1]; exact hi
  exact ⟨rs[i], List.getElem?_eq_getElem this, h.2 i _ _ (List.getElem?_eq_getElem this) (List.getElem?_eq_getElem hi)⟩
theorem HG.mem (h : HG c H rs F) {r : Addr} (hr : r ∈ rs) : ∃ l, H r = some (c l) := by
  obtain ⟨i, hi⟩ := List.mem_iff_getElem?.mp hr
  have h1 := (List.getElem?_eq_some_iff.mp hi).1
  have h2 : i < F.length := by rw [← h.1]; exact h1
  exact ⟨_, h.2 i r _ hi (List.getElem?_eq_getElem h2)⟩
end
theorem HL.hg {H : Hp} {rs : List Addr} {F : List (List Nat)} (h : HL H rs F) : HG (fun l => .lst (vn l)) H rs F := h

end Rv

namespace Rv
open PySem PySem.Spec PyProof.Rows L2
open Rm (zs at')
/-! ### what raises -/
structure CalX (P : Program) (w : World) (K : PySem.W.Frag) (mg : Str → Option Value) (base : Heap) (k : Nat) (x : Str) (sp : Sp) : Prop where
  ex : ∃ (f : Addr) (fd : FuncData) (ps : List Str), FnOk P w K mg base (L2.CX P w) k f fd ps sp ∧ mg x = some (.ref f) ∧ PySem.W.keepIn K (.ref f) = true ∧ Binds K fd ps []
theorem pe_cX {X : Cx} {x : Str} {p pos : Pos} {e : Expr} {es : List Expr} {t : TA} {sp : Sp} {j k : Nat} {W : WX} (c : CalX X.prog X.w X.K X.mg X.base k x sp) (tk : Takes X W) (hr : Room j X.A) (hk : k ≤ j) (hg : Gl X x) (ha : PA X (e :: es) t)
    (hdb : (x == ("__debug__" : Str)) = false := by decide) (he : starEach (e :: es) X.env = (false, eval e X.env) :: starEach es X.env := by rfl) (hpl : (backTo pos (starEach es X.env)).any (·.1) = false := by rfl) :
    PE X (.Call (.Name x p) (e :: es) [] pos) (tCallS sp (WE W) t) := by
  obtain ⟨f, fd, ps, F, hm, kp, b⟩ := c.ex
  exact pe_callS F (hr.mono hk) hg hm kp b (fun σ => passAt tk σ) ha hdb he hpl
section
variable {P : Program} {w : World} {K : PySem.W.Frag} {mg : Str → Option Value} {base : Heap}
theorem Dfn.calX {x : Str} {st : Stmt} {N ps : List Str} {k : Nat} {sp : Sp} (D : Dfn K mg x st ps) (S : FnScope N ps (defScope st)) (len : ∀ vs H Q E, sp vs H Q E → vs.length = ps.length)
    (hbody : ∀ (f : Addr) (cdv : Value) (A : Around) (outer : List Env) (s : Shared) (H : Hp) (vs : List V) (Q : VK) (E : XK), Room k (A.deeper (envOfC x (defScope st) s.heap.objs.size f cdv)) → sp vs H Q E →
      ∃ t, PSs (cxOf (L2.CX P w) P w K mg base N x (defScope st) f cdv A outer s H E) (defBody st) t ∧ t { nx := fun _ H' => Q .non H', rt := Q } (start N vs) H) : CalX P w K mg base (k + 1) x sp := by
  obtain ⟨f, fd, F, hm, b⟩ := D.ex
  exact ⟨f, fd, ps, F.okX S len (fun cdv A outer s H vs Q E hr h => hbody f cdv A outer s H vs Q E hr h), hm, F.kp, b⟩
/-- a class of errors that the top has written -/
structure ExcF (K : PySem.W.Frag) (mg : Str → Option Value) (x : Str) (C : Addr) : Prop where
  g : mg x = some (.ref C)
  x : PySem.W.excIn K C [.type "ValueError", .type "Exception", .type "BaseException", .type "object"] "ValueError.__new__" = true
  k : PySem.W.keepIn K (.ref C) = true
  b : PySem.W.subIn K (.ref C) (.type "BaseException") = some true
  t : PySem.W.typeIn K (.ref C) = some (.type "type")
  c : ExcC K C
/-- a block that is shown under a condition -/
theorem pss_if {X : Cx} {ss : List Stmt} {t : TS} {c : Prop} (h : c → PSs X ss t) : PSs X ss (fun D σ H => c ∧ t D σ H) :=
  ⟨fun pins s σ H D I q => (h q.1).run pins s σ H D I q.2⟩
theorem zc_of {cls : Value} {d : Option Addr} {oe : Obj} {C : Addr} (hc : cls = .ref C ∧ d = none) (hz : Zc cls d oe) : Zc (.ref C) none oe := by
  rw [hc.1, hc.2] at hz
  exact hz
theorem kit_same {K : PySem.W.Frag} (C : Addr) : PySem.W.kitOne K (.ref C) (.ref C) = some true := if_pos (beq_self_eq_true (Value.ref C))
theorem kit_r {K : PySem.W.Frag} {t C : Addr} {b : Bool} (ne : (Value.ref t == Value.ref C) = false) (hc : PySem.W.isClsIn K C = true) (ht : PySem.W.typeIn K (.ref C) = some (.type "type")) (h : PySem.W.subIn K (.ref t) (.ref C) = some b) : PySem.W.kitOne K (.ref t) (.ref C) = some b := by
  have e2 : ((PySem.W.clsIn K C).isSome && PySem.W.typeIn K (.ref C) == some (.type "type")) = true := by
    have hc' : (PySem.W.clsIn K C).isSome = true := hc
    rw [hc', ht] <;> rfl
  unfold PySem.W.kitOne
  rw [ne]
  show (if ((PySem.W.clsIn K C).isSome && PySem.W.typeIn K (.ref C) == some (.type "type")) = true then PySem.W.subIn K (.ref t) (.ref C) else none) = some b
  rw [if_pos e2]
  exact h
theorem kit_t {K : PySem.W.Frag} {t : Addr} {T : String} {b : Bool} (hm : PySem.W.kitMeta T = true) (h : PySem.W.subIn K (.ref t) (.type T) = some b) : PySem.W.kitOne K (.ref t) (.type T) = some b := by
  have e : (Value.ref t == Value.type T) = false := rfl
  unfold PySem.W.kitOne
  rw [e]
  show (if PySem.W.kitMeta T = true then PySem.W.subIn K (.ref t) (.type T) else none) = some b
  rw [if_pos hm]
  exact h
theorem small' {n : Nat} (h : n ≤ 1000000) : n ≤ sizeLine := Nat.le_trans h (by decide)
/-- a text times a number -/
def rRepS : R2 := fun x y H Q => ∃ (z : Str) (k : Int), x = .str z ∧ y = .int k ∧ 0 ≤ k ∧ k ≤ 1000 ∧ z.length ≤ 1000 ∧ Q (.str (Txt.mul z k)) H
theorem op_repS {X : Cx} : OpR X (binaryOp .Mult) rRepS := by
  intro pins s σ H x y v u Q I rx ry h
  obtain ⟨z, k, rfl, rfl, h0, h1, hz, q⟩ := h
  obtain ⟨t, rfl⟩ := rx
  obtain ⟨t', rfl⟩ := ry
  refine SB.mul ⟨?_, fun hk _ => ?_, fun hk _ => ?_⟩ fun t' tk => ⟨.str (Txt.mul z k), H, I.tok _, ⟨_, rfl⟩, q⟩
  · rw [decide_eq_false (by omega), decide_eq_false (by omega)]
    rfl
  · have hkp : 0 < k := by omega
    have : (1000 : Int) ≤ (2 ^ 63 - 1) / k := by
      rw [Int.le_ediv_iff_mul_le hkp]
      omega
    omega
  · have hn : k.toNat ≤ 1000 := by omega
    have := Nat.mul_le_mul hz hn
    exact decide_eq_false (by
      have h2 : (1000 * 1000 : Nat) ≤ sizeLine := small' (by decide)
      omega)
end

end Rv

namespace Rv
open PySem PySem.Spec PyProof.Rows L2
open Rm (zs at')
/-! ### is_arcs -/
abbrev s_is_arcs : Stmt := topS 6
theorem sc_is_arcs : FnScope ["some", "open_ones", "k"] ["some"] (defScope s_is_arcs) := ⟨rfl, rfl, rfl, by decide +kernel, rfl, by decide +kernel, by decide +kernel⟩
def spIsArcs (K : PySem.W.Frag) : Sp := fun vs H Q _ => ∃ (a : Addr) (s : List Int), vs = [.ref a] ∧ SqL K H a (vi s) ∧ s.length ≤ 1000 ∧ ∀ b H', Same H H' → (b = true ↔ Rm.Good s) → Q (.bl b) H'
section
variable {P : Program} {w : World} {K : PySem.W.Frag} {mg : Str → Option Value} {base : Heap}
theorem ok_is_arcs {tM : Tok} (D : Dfn K mg "is_arcs" s_is_arcs ["some"]) (B : Blt mg) (g_MOST : mg "MOST" = some (.int 20 tM)) : Cal P w K mg base 1 "is_arcs" (spIsArcs K) := by
  refine D.cal sc_is_arcs (fun vs H Q E h => ?_) (fun f cdv A outer s0 H vs Q E hr h => ?_)
  · obtain ⟨a, s, rfl, _⟩ := h
    rfl
  · obtain ⟨a, s, rfl, hS, hlen, q⟩ := h
    refine ⟨_, (pss_cons (ps_if (PW.pt (pw_or (pt_cmpR op_lt (pe_callB call_len_seq (by rfl) B.len_ PySem.boot_len (pa_cons (pv 0) pa_nil)) pe_int (nomark _)) (pw_or1 (pt_cmpR op_gt (pe_callB call_len_seq (by rfl) B.len_ PySem.boot_len (pa_cons (pv 0) pa_nil)) (pe_op op_mul pe_int (pe_glob (v := .int 20) (by rfl) g_MOST ⟨_, rfl⟩)) (nomark _)))))
        (pss_one (ps_ret pe_bl))
        pss_nil)
      (pss_cons (ps_set (i := 1) sc_is_arcs.nd rfl (.inl rfl) (pe_lst pa_nil))
      (pss_cons (ps_for PassesOwn.never rfl (pi_range1 (by rfl) B.range_ (pa_cons (pe_callB call_len_seq (by rfl) B.len_ PySem.boot_len (pa_cons (pv 0) pa_nil)) pa_nil)) (pg_name (i := 2) sc_is_arcs.nd rfl (.inl rfl))
        (pss_cons (ps_if (PW.pt (pw_or (pt_not (pt_chain op_le op_lt pe_int (pe_ix ix_list (pv 0) (pv 2) (fun _ _ => rfl)) (pe_callB call_len_seq (by rfl) B.len_ PySem.boot_len (pa_cons (pv 0) pa_nil)))) (pw_or (pt_cmpR op_eq (pe_ix ix_list (pv 0) (pv 2) (fun _ _ => rfl)) (pv 2) (nomark _)) (pw_or1 (pt_cmpR op_ne (pe_ix ix_list (pv 0) (pe_ix ix_list (pv 0) (pv 2) (fun _ _ => rfl)) (fun _ _ => rfl)) (pv 2) (nomark _))))))
          (pss_one (ps_ret pe_bl))
          pss_nil)
        (pss_one (ps_if (pt_cmpR op_gt (pe_ix ix_list (pv 0) (pv 2) (fun _ _ => rfl)) (pv 2) (nomark _))
          (pss_one (ps_expr (pe_bm PySem.F.plainAttrs_list PySem.F.slot_list_append PySem.F.type_list_append mt_append (pv 1) (pa_cons (pv 2) pa_nil))))
          (pss_one (ps_if (pt_cmpR op_ne (pe_bm0 PySem.F.plainAttrs_list PySem.F.slot_list_pop PySem.F.type_list_pop mt_pop (pv 1)) (pe_ix ix_list (pv 0) (pv 2) (fun _ _ => rfl)) (nomark _))
            (pss_one (ps_ret pe_bl))
            pss_nil))))))
      (pss_one (ps_ret pe_bl))))), ?_⟩
    refine ⟨.ref a, rfl, a, _, rfl, .inl hS, _, _, rfl, rfl, _, rfl, ite2 (fun e => ?_) (fun e => ?_)⟩
    · have e := of_decide_eq_true e
      rw [List.length_map] at e
      refine iteT (q false H (Same.refl H) ⟨fun z => (nomatch z), fun G => ?_⟩)
      have := G.1.1
      omega
    have e1 := of_decide_eq_false (Bool.eq_false_iff.mpr e)
    rw [List.length_map] at e1
    refine ⟨.ref a, rfl, a, _, rfl, .inl hS, _, _, rfl, rfl, .inl ⟨by decide, by decide⟩, _, _, rfl, rfl, _, rfl, ite2 (fun e => ?_) (fun e => ?_)⟩
    · have e := of_decide_eq_true e
      rw [List.length_map] at e
      refine q false H (Same.refl H) ⟨fun z => (nomatch z), fun G => ?_⟩
      have := G.1.2
      omega
    have e2 := of_decide_eq_false (Bool.eq_false_iff.mpr e)
    rw [List.length_map] at e2
    have hL : 2 ≤ s.length ∧ s.length ≤ 40 := by omega
    refine ⟨Nat.zero_le _, fun p np => ?_⟩
    refine ⟨.ref a, rfl, a, _, rfl, .inl ((same_new np).seq hS), _, rfl, by rw [List.length_map]; omega, by rw [List.length_map]; omega, ?_⟩
    rw [show ((vi s).length : Int).toNat = s.length by rw [List.length_map]; omega]
    refine for_range (lo := 0) (n := s.length) (fun i σ H' => ∃ y2, σ = [some (.ref a), some (.ref p), y2] ∧ Same H H' ∧ H' p = some (.lst (vn (Rm.opens s i))) ∧ Rm.Stage s i) ⟨none, rfl, same_new np, upd_same, Rm.stage0 s⟩ (fun i σ H' hi hP => ?_) (fun σ H' hP => ?_)
    · obtain ⟨y2, rfl, sm, hp, st⟩ := hP
      have hS' := sm.seq hS
      rw [Int.zero_add]
      have iv : atI (vi s) (i : Int) = some (.int (Rm.g s i)) := vi_at hi rfl
      have bad : ¬ Rm.OkAt s i → Q (.bl false) H' := fun h => q false H' sm ⟨fun z => (nomatch z), fun G => absurd (G.2.1 i hi) h⟩
      -- 0 <= some[k] < len(some)
      refine ⟨.ref a, rfl, .int i, rfl, a, _, _, _, rfl, rfl, hS', iv, _, _, rfl, rfl, _, rfl, ite2 (fun e1 => ?_) (fun e1 => ?_)⟩
      case refine_2 =>
        exact ⟨_, rfl, iteT (bad fun ok => e1 (decide_eq_true ok.1))⟩
      have e1 := of_decide_eq_true e1
      refine ⟨.ref a, rfl, a, _, rfl, .inl hS', _, _, rfl, rfl, _, rfl, ?_⟩
      show if (!decide (Rm.g s i < ((vi s).length : Int))) = true then _ else _
      rw [List.length_map]
      refine ite2 (fun e2 => ?_) (fun e2 => ?_)
      · refine iteT (bad fun ok => ?_)
        have := ok.2.1
        rw [decide_eq_true this] at e2
        exact nomatch e2
      have e2 : Rm.g s i < (s.length : Int) := by
        rcases Bool.eq_false_or_eq_true (decide (Rm.g s i < (s.length : Int))) with z | z
        · exact of_decide_eq_true z
        · rw [z] at e2; exact absurd rfl e2
      -- some[k] == k
      refine ⟨.ref a, rfl, .int i, rfl, a, _, _, _, rfl, rfl, hS', iv, .int i, rfl, rfl, _, rfl, ite2 (fun e3 => ?_) (fun e3 => ?_)⟩
      · exact iteT (bad fun ok => ok.2.2.1 (V.int.inj (of_decide_eq_true e3)))
      have e3 : Rm.g s i ≠ (i : Int) := fun z => e3 (decide_eq_true (congrArg V.int z))
      -- some[some[k]] != k
      have iv2 : atI (vi s) (Rm.g s i) = some (.int (Rm.g s (Rm.g s i).toNat)) := vi_at (by omega) (by omega)
      refine ⟨.ref a, rfl, .ref a, rfl, .int i, rfl, a, _, _, _, rfl, rfl, hS', iv, a, _, _, _, rfl, rfl, hS', iv2, .int i, rfl, rfl, _, rfl, ite2 (fun e4 => ?_) (fun e4 => ?_)⟩
      · refine bad fun ok => ?_
        rw [ok.2.2.2, decide_eq_true rfl] at e4
        exact nomatch e4
      have e4 : Rm.g s (Rm.g s i).toNat = (i : Int) := by
        rcases Bool.eq_false_or_eq_true (decide (V.int (Rm.g s (Rm.g s i).toNat) = V.int (i : Int))) with z | z
        · exact V.int.inj (of_decide_eq_true z)
        · rw [z] at e4; exact absurd rfl e4
      have ok : Rm.OkAt s i := ⟨e1, e2, e3, e4⟩
      -- some[k] > k
      refine ⟨.ref a, rfl, .int i, rfl, a, _, _, _, rfl, rfl, hS', iv, .int i, rfl, _, _, rfl, rfl, _, rfl, ite2 (fun e5 => ?_) (fun e5 => ?_)⟩
      · have e5 := of_decide_eq_true e5
        refine ⟨.ref p, rfl, .inl ⟨rfl, _, sqL hp⟩, .int i, rfl, p, _, _, rfl, rfl, hp, ?_, ?_⟩
        · rw [vn_len]
          exact small63 (by have := Rm.opens_len s i; omega)
        · refine ⟨_, rfl, same_upd sm np, ?_, Rm.stage_push st ok e5⟩
          rw [upd_same, vn_push, Rm.opens_push st e5]
      · have e5 : Rm.g s i < (i : Int) := by
          have : ¬ (i : Int) < Rm.g s i := fun z => e5 (decide_eq_true z)
          omega
        obtain ⟨l, t, eo⟩ := Rm.opens_ne ok e5
        rw [eo] at hp
        refine ⟨.ref p, rfl, .inl ⟨rfl, _, sqL hp⟩, p, _, _, rfl, rfl, hp, vn_last l t, ?_⟩
        have sm2 := same_upd (o := .lst (vn l)) sm np
        rw [vn_drop]
        refine ⟨.ref a, rfl, .int i, rfl, a, _, _, _, rfl, rfl, sm2.seq hS, iv, rfl, _, rfl, ite2 (fun e6 => ?_) (fun e6 => ?_)⟩
        · have e6 : (t : Int) ≠ Rm.g s i := fun z => by
            rw [z, decide_eq_true rfl] at e6
            exact nomatch e6
          exact q false _ sm2 ⟨fun z => (nomatch z), fun G => absurd G.2.2 (Rm.stage_cross st ok e5 hi eo e6)⟩
        · have e6 : (t : Int) = Rm.g s i := by
            rcases Bool.eq_false_or_eq_true (decide (V.int (t : Int) = V.int (Rm.g s i))) with z | z
            · exact V.int.inj (of_decide_eq_true z)
            · rw [z] at e6; exact absurd rfl e6
          refine ⟨_, rfl, sm2, ?_, Rm.stage_pop st ok eo e6⟩
          rw [upd_same, Rm.opens_pop st ok e5 eo e6]
    · obtain ⟨y2, rfl, sm, hp, st⟩ := hP
      exact q true H' sm ⟨fun _ => Rm.stage_good hL st, fun _ => rfl⟩
end

end Rv

namespace Rv
open PySem PySem.Spec PyProof.Rows L2
open Rm (zs at')
/-! ### _law_cell_at -/
abbrev s_law_cell_at : Stmt := topS 9
theorem sc_law_cell_at : FnScope ["script", "k"] ["script", "k"] (defScope s_law_cell_at) := ⟨rfl, rfl, rfl, by decide +kernel, rfl, by decide +kernel, by decide +kernel⟩
def spCell (K : PySem.W.Frag) : Sp := fun vs H Q _ => ∃ (a : Addr) (ns : List Int) (k : Int), vs = [.ref a, .int k] ∧ SqL K H a (vi ns) ∧ 0 ≤ k ∧ ∀ c : Int, Q (.int c) H
section
variable {P : Program} {w : World} {K : PySem.W.Frag} {mg : Str → Option Value} {base : Heap}
theorem ok_law_cell_at (D : Dfn K mg "_law_cell_at" s_law_cell_at ["script", "k"]) (B : Blt mg) : Cal P w K mg base 1 "_law_cell_at" (spCell K) := by
  refine D.cal sc_law_cell_at (fun vs H Q E h => ?_) (fun f cdv A outer s0 H vs Q E hr h => ?_)
  · obtain ⟨a, ns, k, rfl, _⟩ := h
    rfl
  · obtain ⟨a, ns, k, rfl, hS, h0, q⟩ := h
    refine ⟨_, (pss_cons (ps_if (pt_cmpR op_lt (pv 1) (pe_callB call_len_seq (by rfl) B.len_ PySem.boot_len (pa_cons (pv 0) pa_nil)) (nomark _))
        (pss_one (ps_ret (pe_ix ix_list (pv 0) (pv 1) (fun _ _ => rfl))))
        pss_nil)
      (pss_one (ps_ret pe_int))), ?_⟩
    refine ⟨.int k, rfl, .ref a, rfl, a, _, rfl, .inl hS, _, _, rfl, rfl, _, rfl, ite2 (fun e => ?_) (fun e => ?_)⟩
    · have e := of_decide_eq_true e
      rw [List.length_map] at e
      exact ⟨.ref a, rfl, .int k, rfl, a, _, _, _, rfl, rfl, hS, vi_at (k := k.toNat) (by omega) (by omega), q _⟩
    · exact q 0
end

end Rv

namespace Rv
open PySem PySem.Spec PyProof.Rows L2
open Rm (zs at')
/-! ### _law_whole -/
abbrev s_law_whole : Stmt := topS 10
theorem sc_law_whole : FnScope ["found"] ["found"] (defScope s_law_whole) := ⟨rfl, rfl, rfl, by decide +kernel, rfl, by decide +kernel, by decide +kernel⟩
theorem tyInt {K : PySem.W.Frag} {H : Hp} (i : Int) : TyX K H (.int i) (.type "int") := .base (.int i)
def spWhole : Sp := fun vs H Q _ => ∃ i : Int, vs = [.int i] ∧ Q (.bl true) H
section
variable {P : Program} {w : World} {K : PySem.W.Frag} {mg : Str → Option Value} {base : Heap}
theorem ok_law_whole (D : Dfn K mg "_law_whole" s_law_whole ["found"]) (B : Blt mg) : Cal P w K mg base 1 "_law_whole" spWhole := by
  refine D.cal sc_law_whole (fun vs H Q E h => ?_) (fun f cdv A outer s0 H vs Q E hr h => ?_)
  · obtain ⟨i, rfl, _⟩ := h
    rfl
  · obtain ⟨i, rfl, q⟩ := h
    refine ⟨_, (pss_one (ps_ret (pe_and (pe_callB call_isi (by rfl) B.isinstance_ (by decide +kernel) (pa_cons (pv 0) (pa_cons (pe_bltn (v := .ty "int") (by rfl) B.int_ (by decide +kernel) rfl) pa_nil))) (pe_one (pe_not (pe_callB call_isi (by rfl) B.isinstance_ (by decide +kernel) (pa_cons (pv 0) (pa_cons (pe_bltn (v := .ty "bool") (by rfl) B.bool_ (by decide +kernel) rfl) pa_nil)))))))), ?_⟩
    refine ⟨.int i, rfl, _, _, _, _, true, rfl, .ty "int", tyInt i, kit_ty (by decide +kernel), true, rfl, iteT ?_⟩
    exact ⟨.int i, rfl, _, _, _, _, false, rfl, .ty "bool", tyInt i, kit_ty (by decide +kernel), false, rfl, q⟩
end

end Rv

namespace Rv
open PySem PySem.Spec PyProof.Rows L2
open Rm (zs at')
/-! ### _law_numbers -/
abbrev s_law_numbers : Stmt := topS 11
theorem sc_law_numbers : FnScope ["found", "due", "x"] ["found", "due"] (defScope s_law_numbers) := ⟨rfl, rfl, rfl, by decide +kernel, rfl, by decide +kernel, by decide +kernel⟩
theorem tyLst {K : PySem.W.Frag} {H : Hp} {p : Addr} {xs : List V} (h : H p = some (.lst xs)) : TyX K H (.ref p) (.type "list") := .base (.lst h)
def spNumbers (K : PySem.W.Frag) : Sp := fun vs H Q _ => ∃ (p b : Addr) (s t : List Int), vs = [.ref p, .ref b] ∧ H p = some (.lst (vi s)) ∧ SqL K H b (vi t) ∧ (s = t → Q (.bl true) H) ∧ (s ≠ t → Q (.bl false) H)
section
variable {P : Program} {w : World} {K : PySem.W.Frag} {mg : Str → Option Value} {base : Heap}
theorem ok_law_numbers (D : Dfn K mg "_law_numbers" s_law_numbers ["found", "due"]) (B : Blt mg) (c_law_whole : Cal P w K mg base 1 "_law_whole" spWhole) : Cal P w K mg base 2 "_law_numbers" (spNumbers K) := by
  refine D.cal sc_law_numbers (fun vs H Q E h => ?_) (fun f cdv A outer s0 H vs Q E hr h => ?_)
  · obtain ⟨p, b, s, t, rfl, _⟩ := h
    rfl
  · obtain ⟨p, b, s, t, rfl, hP, hT, q1, q2⟩ := h
    refine ⟨_, (pss_cons (ps_if (PW.pt (pw_or (pt_not (pt_val (pe_callB call_isi (by rfl) B.isinstance_ (by decide +kernel) (pa_cons (pv 0) (pa_cons (pe_bltn (v := .ty "list") (by rfl) B.list_ (by decide +kernel) rfl) pa_nil))))) (pw_or1 (pt_cmpR op_ne (pe_callB call_len_seq (by rfl) B.len_ PySem.boot_len (pa_cons (pv 0) pa_nil)) (pe_callB call_len_seq (by rfl) B.len_ PySem.boot_len (pa_cons (pv 1) pa_nil)) (nomark _)))))
        (pss_one (ps_ret pe_bl))
        pss_nil)
      (pss_cons (ps_for PassesOwn.never rfl (pi_list (pv 0)) (pg_name (i := 2) sc_law_numbers.nd rfl (.inl rfl))
        (pss_one (ps_if (pt_not (pt_val (pe_c c_law_whole hr (by omega) (by rfl) (pa_cons (pv 2) pa_nil))))
          (pss_one (ps_ret pe_bl))
          pss_nil)))
      (pss_one (ps_ret (pe_cmpR (op_eqD (hu64 hr)) (pv 0) (pv 1) (nomark _)))))), ?_⟩
    refine ⟨.ref p, rfl, _, _, _, _, true, rfl, .ty "list", tyLst hP, kit_ty (by decide +kernel), true, rfl, iteF ?_⟩
    refine ⟨.ref p, rfl, p, _, rfl, .inl (sqL hP), .ref b, rfl, b, _, rfl, .inl hT, rfl, _, rfl, ite2 (fun e => ?_) (fun e => ?_)⟩
    · refine q2 fun z => ?_
      rw [z, decide_eq_true rfl] at e
      exact nomatch e
    refine ⟨.ref p, rfl, p, rfl, ⟨_, sqL hP⟩, for_list (xs := vi s) (fun i σ H' => H' = H ∧ ∃ y2, σ = [some (.ref p), some (.ref b), y2]) ⟨rfl, none, rfl⟩ (fun i σ H' _ h => ?_) (fun i v σ H' hi h => ?_) (fun σ H' h => ?_)⟩
    · rw [h.1]
      exact sqL hP
    · obtain ⟨rfl, y2, rfl⟩ := h
      have hi' : i < s.length := by
        have := (List.getElem?_eq_some_iff.mp hi).1
        simpa using this
      rw [vi_get hi'] at hi
      cases hi
      exact ⟨_, rfl, _, rfl, true, rfl, iteF ⟨rfl, _, rfl⟩⟩
    · obtain ⟨rfl, y2, rfl⟩ := h
      refine ⟨.ref p, rfl, .ref b, rfl, rEq_ints (sqL hP) hT ?_⟩
      by_cases z : s = t
      · rw [decide_eq_true z]; exact q1 z
      · rw [decide_eq_false z]; exact q2 z
end

end Rv

namespace Rv
open PySem PySem.Spec PyProof.Rows L2
open Rm (zs at')
/-! ### _law_arcs -/
abbrev s_law_arcs : Stmt := topS 12
theorem sc_law_arcs : FnScope ["script", "at", "size", "found", "ahead", "k", "cell", "other"] ["script", "at", "size"] (defScope s_law_arcs) := ⟨rfl, rfl, rfl, by decide +kernel, rfl, by decide +kernel, by decide +kernel⟩
def spLawArcs (K : PySem.W.Frag) : Sp := fun vs H Q _ => ∃ (a : Addr) (ns : List Int) (at0 : Int) (n : Nat), vs = [.ref a, .int at0, .int (n : Int)] ∧ SqL K H a (vi ns) ∧ 0 ≤ at0 ∧ 1 ≤ n ∧ n ≤ 20 ∧
  ∀ H' p fd, Rm.ArcsL n fd → Same H H' → H p = none → H' p = some (.lst (vn fd)) → Q (.ref p) H'
theorem pick4 (c : Int) (x y : Int) : ∃ z : Int, atI [V.int x, V.int y, V.int 0, V.int 1] ((c.fdiv 4).fmod 4) = some (.int z) := by
  have h0 := Int.fmod_nonneg_of_pos (c.fdiv 4) (show (0 : Int) < 4 by decide)
  have h1 := Int.fmod_lt_of_pos (c.fdiv 4) (show (0 : Int) < 4 by decide)
  generalize (c.fdiv 4).fmod 4 = r at h0 h1
  have : r = 0 ∨ r = 1 ∨ r = 2 ∨ r = 3 := by omega
  rcases this with rfl | rfl | rfl | rfl
  · exact ⟨x, rfl⟩
  · exact ⟨y, rfl⟩
  · exact ⟨0, rfl⟩
  · exact ⟨1, rfl⟩
section
variable {P : Program} {w : World} {K : PySem.W.Frag} {mg : Str → Option Value} {base : Heap}
theorem ok_law_arcs (D : Dfn K mg "_law_arcs" s_law_arcs ["script", "at", "size"]) (B : Blt mg) (c_law_cell_at : Cal P w K mg base 1 "_law_cell_at" (spCell K)) : Cal P w K mg base 2 "_law_arcs" (spLawArcs K) := by
  refine D.cal sc_law_arcs (fun vs H Q E h => ?_) (fun f cdv A outer s0 H vs Q E hr h => ?_)
  · obtain ⟨a, ns, at0, n, rfl, _⟩ := h
    rfl
  · obtain ⟨a, ns, at0, n, rfl, hS, h0, h1, h20, q⟩ := h
    refine ⟨_, (pss_cons (ps_set (i := 3) sc_law_arcs.nd rfl (.inl rfl) (pe_op op_rep (pe_lst (pa_cons pe_int pa_nil)) (pe_op op_mul pe_int (pv 2))))
      (pss_cons (ps_set (i := 4) sc_law_arcs.nd rfl (.inl rfl) (pe_lst pa_nil))
      (pss_cons (ps_for PassesOwn.never rfl (pi_range1 (by rfl) B.range_ (pa_cons (pe_op op_mul pe_int (pv 2)) pa_nil)) (pg_name (i := 5) sc_law_arcs.nd rfl (.inl rfl))
        (pss_cons (ps_set (i := 6) sc_law_arcs.nd rfl (.inl rfl) (pe_c c_law_cell_at hr (by omega) (by rfl) (pa_cons (pv 0) (pa_cons (pe_op op_add (pv 1) (pv 5)) pa_nil))))
        (C8.pss_cut (ps_if (pt_cmpR op_gt (pe_op op_add (pv 1) (pv 5)) pe_int (nomark _))
          (pss_one (ps_set (i := 6) sc_law_arcs.nd rfl (.inl rfl) (pe_op op_fdivN (pe_c c_law_cell_at hr (by omega) (by rfl) (pa_cons (pv 0) (pa_cons (pe_op op_sub (pe_op op_add (pv 1) (pv 5)) pe_int) pa_nil))) pe_int)))
          pss_nil)
        (pss_one (ps_if (PW.pt (pw_and (pt_cmpR op_lt (pe_callB call_len_seq (by rfl) B.len_ PySem.boot_len (pa_cons (pv 4) pa_nil)) (pe_op op_sub (pe_op op_mul pe_int (pv 2)) (pv 5)) (nomark _)) (pw_and1 (PW.pt (pw_or (pt_cmpR op_eq (pe_callB call_len_seq (by rfl) B.len_ PySem.boot_len (pa_cons (pv 4) pa_nil)) pe_int (nomark _)) (pw_or1 (pt_cmpR op_eq (pe_op op_modN (pe_ix ix_list (pe_lst (pa_cons (pv 6) (pa_cons (pe_op op_fdivN (pv 6) pe_int) (pa_cons pe_int (pa_cons pe_int pa_nil))))) (pe_op op_modN (pe_op op_fdivN (pv 6) pe_int) pe_int) (fun _ _ => rfl)) pe_int) pe_int (nomark _))))))))
          (pss_one (ps_expr (pe_bm PySem.F.plainAttrs_list PySem.F.slot_list_append PySem.F.type_list_append mt_append (pv 4) (pa_cons (pv 5) pa_nil))))
          (pss_cons (ps_set (i := 7) sc_law_arcs.nd rfl (.inl rfl) (pe_bm0 PySem.F.plainAttrs_list PySem.F.slot_list_pop PySem.F.type_list_pop mt_pop (pv 4)))
          (pss_cons (ps_asg (pv 7) (pg_sub (pv 3) (pv 5) set_list))
          (pss_one (ps_asg (pv 5) (pg_sub (pv 3) (pv 7) set_list))))))))))
      (pss_one (ps_ret (pv 3)))))), ?_⟩
    refine ⟨by show 1 ≤ sizeLine; decide, fun x nx => ?_⟩
    have m2 : (2 * (n : Int)).toNat = 2 * n := by omega
    refine ⟨.int n, rfl, 2, n, rfl, rfl, .inl ⟨by decide, by decide⟩, x, _, _, rfl, rfl, upd_same, by omega, by omega, ?_, fun p np => ?_⟩
    · rw [m2]
      exact small63' (by show 1 * (2 * n) ≤ _; omega)
    rw [m2, rep1, vn_rep]
    have sx : Same H (upd H x (.lst [V.int 0])) := same_new nx
    have np0 : H p = none := sx.free np
    refine ⟨Nat.zero_le _, fun o no => ?_⟩
    have sp' := same_new (o := .lst (vn (List.replicate (2 * n) 0))) np
    have no1 := sp'.free no
    have no0 : H o = none := sx.free no1
    have hpo : p ≠ o := ne_of_none upd_same no
    refine ⟨.int n, rfl, 2, n, rfl, rfl, .inl ⟨by decide, by decide⟩, _, rfl, by omega, by omega, ?_⟩
    rw [m2]
    refine for_range (lo := 0) (n := 2 * n) (fun i σ H' => ∃ y5 y6 y7 fd st, σ = [some (.ref a), some (.int at0), some (.int n), some (.ref p), some (.ref o), y5, y6, y7] ∧ Same H H' ∧ H' p = some (.lst (vn fd)) ∧ H' o = some (.lst (vn st)) ∧ Rm.Bld (2 * n) i fd st ∧ st.length ≤ 2 * n - i ∧ (st.length + i) % 2 = 0)
      ⟨none, none, none, List.replicate (2 * n) 0, [], rfl, (sx.trans sp').trans (same_new no), by rw [upd_ne hpo, upd_same], upd_same, Rm.bld0 _ _ (List.length_replicate), Nat.zero_le _, rfl⟩ (fun i σ H' hi hP => ?_) (fun σ H' hP => ?_)
    · obtain ⟨y5, y6, y7, fd, st, rfl, sm, hp, ho, bl, hsl, hpar⟩ := hP
      rw [Int.zero_add]
      have hS' := sm.seq hS
      -- cell = _law_cell_at(script, at + k)
      refine ⟨.ref a, rfl, .int at0, rfl, .int i, rfl, _, _, rfl, rfl, a, ns, _, rfl, hS', by omega, ?_⟩
      intro c0
      -- what stands in the cell's slot is a number
      refine ⟨fun σ2 H2 => ∃ c : Int, σ2 = [some (.ref a), some (.int at0), some (.int n), some (.ref p), some (.ref o), some (.int i), some (.int c), y7] ∧ H' = H2, ?_, ?_⟩
      · refine ⟨.int at0, rfl, .int i, rfl, _, _, rfl, rfl, _, _, rfl, rfl, _, rfl, ite2 (fun e => ?_) (fun e => ⟨c0, rfl, rfl⟩)⟩
        have e := of_decide_eq_true e
        refine ⟨.ref a, rfl, .int at0, rfl, .int i, rfl, _, _, rfl, rfl, _, _, rfl, rfl, a, ns, _, rfl, hS', by omega, fun c2 => ?_⟩
        exact ⟨_, _, rfl, rfl, ⟨by decide, by decide⟩, _, rfl, rfl⟩
      rintro σ2 H2 ⟨c, rfl, rfl⟩
      refine ⟨.ref o, rfl, o, _, rfl, .inl (sqL ho), .int n, rfl, 2, n, rfl, rfl, .inl ⟨by decide, by decide⟩, .int i, rfl, _, _, rfl, rfl, _, _, rfl, rfl, _, rfl, ?_⟩
      rw [vn_len]
      apply joinC (α := Hp) (C := fun H2 => Same H' H2 ∧ st.length < 2 * n - i)
      · intro hpush
        apply joinC (α := Hp) (C := fun H2 => Same H' H2 ∧ st ≠ [])
        · intro hpop
          refine ite2 (fun e1 => ?_) (fun e1 => ?_)
          · have e1 := of_decide_eq_true e1
            refine ⟨.ref o, rfl, o, _, rfl, .inl (sqL ho), rfl, _, rfl, ?_⟩
            rw [vn_len]
            refine ite2 (fun e2 => ?_) (fun e2 => ?_)
            · exact iteT (hpush H' ⟨Same.refl _, by omega⟩)
            · refine ⟨.int c, rfl, .int c, rfl, c, 2, rfl, rfl, ⟨by decide, by decide⟩, by show 4 ≤ sizeLine; decide, fun x2 nx2 => ?_⟩
              obtain ⟨z, hz⟩ := pick4 c c (c.fdiv 2)
              refine ⟨.int c, rfl, _, _, rfl, rfl, ⟨by decide, by decide⟩, _, _, rfl, rfl, (show (4 : Int) ≠ 0 by decide), x2, _, _, _, rfl, rfl, sqL upd_same, hz, _, _, rfl, rfl, (show (2 : Int) ≠ 0 by decide), rfl, _, rfl, ite2 (fun e3 => ?_) (fun e3 => ?_)⟩
              · exact hpush _ ⟨same_new nx2, by omega⟩
              · refine hpop _ ⟨same_new nx2, fun z => e2 ?_⟩
                rw [z]
                rfl
          · exact iteF (hpop H' ⟨Same.refl _, fun z => by
              subst z
              exact dn e1 (by simp; omega)⟩)
        · intro H2 hC
          obtain ⟨s2, hne⟩ := hC
          obtain ⟨l, t, rfl⟩ : ∃ l t, st = l ++ [t] := by
            rcases List.eq_nil_or_concat st with e | ⟨l, t, e⟩
            · exact absurd e hne
            · exact ⟨l, t, by rw [e, List.concat_eq_append]⟩
          have htk : t < i := bl.slt t (by simp)
          refine ⟨.ref o, rfl, .inl ⟨rfl, _, sqL (s2 _ _ ho)⟩, o, _, _, rfl, rfl, s2 _ _ ho, vn_last l t, ?_⟩
          rw [vn_drop]
          have hl2 := bl.len
          refine ⟨.int t, rfl, .ref p, rfl, .int i, rfl, p, _, _, i, rfl, rfl, by rw [upd_ne hpo]; exact s2 _ _ hp, ixN_nat (by rw [vn_len]; omega), ?_⟩
          rw [vn_set]
          refine ⟨.int i, rfl, .ref p, rfl, .int t, rfl, p, _, _, t, rfl, rfl, upd_same, ixN_nat (by rw [vn_len, List.length_set]; omega), ?_⟩
          rw [vn_set]
          have hlen : (l ++ [t]).length = l.length + 1 := by simp
          refine ⟨_, _, _, _, l, rfl, same_upd (same_upd (same_upd (sm.trans s2) no0) np0) np0, upd_same, ?_, Rm.bld_pop bl hi, by omega, by omega⟩
          rw [upd_ne (Ne.symm hpo), upd_ne (Ne.symm hpo), upd_same]
      · intro H2 hC
        obtain ⟨s2, hlt⟩ := hC
        refine ⟨.ref o, rfl, .inl ⟨rfl, _, sqL (s2 _ _ ho)⟩, .int i, rfl, o, _, _, rfl, rfl, s2 _ _ ho, ?_, ?_⟩
        · rw [vn_len]
          exact small63 (by omega)
        · refine ⟨_, _, _, fd, st ++ [i], rfl, same_upd (sm.trans s2) no0, ?_, by rw [upd_same, vn_push], Rm.bld_push bl hi, ?_, ?_⟩
          · rw [upd_ne hpo]; exact s2 _ _ hp
          · rw [List.length_append, List.length_singleton]; omega
          · rw [List.length_append, List.length_singleton]; omega
    · obtain ⟨y5, y6, y7, fd, st, rfl, sm, hp, ho, bl, hsl, hpar⟩ := hP
      have e0 : st = [] := List.length_eq_zero_iff.mp (by omega)
      subst e0
      exact ⟨.ref p, rfl, q H' p fd (Rm.bld_arcs bl) sm np0 hp⟩
end

end Rv

namespace Rv
open PySem PySem.Spec PyProof.Rows L2
open Rm (zs at')
/-! ### _law_good -/
abbrev s_law_good : Stmt := topS 13
theorem sc_law_good : FnScope ["some", "k", "j"] ["some"] (defScope s_law_good) := ⟨rfl, rfl, rfl, by decide +kernel, rfl, by decide +kernel, by decide +kernel⟩
def spGood (K : PySem.W.Frag) : Sp := fun vs H Q _ => ∃ (a : Addr) (s : List Int), vs = [.ref a] ∧ SqL K H a (vi s) ∧ s.length ≤ 1000 ∧ ∀ b, (b = true ↔ Rm.Good s) → Q (.bl b) H
section
variable {P : Program} {w : World} {K : PySem.W.Frag} {mg : Str → Option Value} {base : Heap}
theorem ok_law_good (D : Dfn K mg "_law_good" s_law_good ["some"]) (B : Blt mg) : Cal P w K mg base 1 "_law_good" (spGood K) := by
  refine D.cal sc_law_good (fun vs H Q E h => ?_) (fun f cdv A outer s0 H vs Q E hr h => ?_)
  · obtain ⟨a, s, rfl, _⟩ := h
    rfl
  · obtain ⟨a, s, rfl, hS, hlen, q⟩ := h
    refine ⟨_, (pss_cons (ps_if (PW.pt (pw_or (pt_cmpR op_lt (pe_callB call_len_seq (by rfl) B.len_ PySem.boot_len (pa_cons (pv 0) pa_nil)) pe_int (nomark _)) (pw_or (pt_cmpR op_gt (pe_callB call_len_seq (by rfl) B.len_ PySem.boot_len (pa_cons (pv 0) pa_nil)) pe_int (nomark _)) (pw_or1 (pt_cmpR op_eq (pe_op op_modN (pe_callB call_len_seq (by rfl) B.len_ PySem.boot_len (pa_cons (pv 0) pa_nil)) pe_int) pe_int (nomark _))))))
        (pss_one (ps_ret pe_bl))
        pss_nil)
      (pss_cons (ps_for PassesOwn.never rfl (pi_range1 (by rfl) B.range_ (pa_cons (pe_callB call_len_seq (by rfl) B.len_ PySem.boot_len (pa_cons (pv 0) pa_nil)) pa_nil)) (pg_name (i := 1) sc_law_good.nd rfl (.inl rfl))
        (pss_cons (ps_if (PW.pt (pw_or (pt_not (pt_chain op_le op_lt pe_int (pe_ix ix_list (pv 0) (pv 1) (fun _ _ => rfl)) (pe_callB call_len_seq (by rfl) B.len_ PySem.boot_len (pa_cons (pv 0) pa_nil)))) (pw_or (pt_cmpR op_eq (pe_ix ix_list (pv 0) (pv 1) (fun _ _ => rfl)) (pv 1) (nomark _)) (pw_or1 (pt_cmpR op_ne (pe_ix ix_list (pv 0) (pe_ix ix_list (pv 0) (pv 1) (fun _ _ => rfl)) (fun _ _ => rfl)) (pv 1) (nomark _))))))
          (pss_one (ps_ret pe_bl))
          pss_nil)
        (pss_one (ps_for PassesOwn.never rfl (pi_range1 (by rfl) B.range_ (pa_cons (pv 1) pa_nil)) (pg_name (i := 2) sc_law_good.nd rfl (.inl rfl))
          (pss_one (ps_if (PW.pt (pw_and (pt_cmpR op_gt (pe_ix ix_list (pv 0) (pv 1) (fun _ _ => rfl)) (pv 1) (nomark _)) (pw_and1 (pt_chain3 op_lt op_lt op_lt (pv 2) (pv 1) (pe_ix ix_list (pv 0) (pv 2) (fun _ _ => rfl)) (pe_ix ix_list (pv 0) (pv 1) (fun _ _ => rfl))))))
            (pss_one (ps_ret pe_bl))
            pss_nil))))))
      (pss_one (ps_ret pe_bl)))), ?_⟩
    have bad : ¬ Rm.Good s → Q (.bl false) H := fun h => q false ⟨fun z => (nomatch z), fun G => absurd G h⟩
    have vl : (vi s).length = s.length := List.length_map _
    refine ⟨.ref a, rfl, a, _, rfl, .inl hS, _, _, rfl, rfl, _, rfl, ?_⟩
    rw [vl]
    refine ite2 (fun e => iteT (bad fun G => ?_)) (fun e => ?_)
    · have := G.1.1; have := of_decide_eq_true e; omega
    have e1 := dn e
    refine ⟨.ref a, rfl, a, _, rfl, .inl hS, _, _, rfl, rfl, _, rfl, ?_⟩
    rw [vl]
    refine ite2 (fun e => iteT (bad fun G => ?_)) (fun e => ?_)
    · have := G.1.2; have := of_decide_eq_true e; omega
    have e2 := dn e
    refine ⟨.ref a, rfl, a, _, rfl, .inl hS, _, _, rfl, rfl, (show (2 : Int) ≠ 0 by decide), rfl, _, rfl, ?_⟩
    rw [vl]
    refine ite2 (fun e => bad fun G => ?_) (fun e => ?_)
    · have h1 := V.int.inj (of_decide_eq_true e)
      have h2 := Rm.good_even G
      rw [Int.fmod_eq_emod_of_nonneg _ (by decide)] at h1
      omega
    have hL : 2 ≤ s.length ∧ s.length ≤ 40 := by omega
    refine ⟨.ref a, rfl, a, _, rfl, .inl hS, _, rfl, by omega, by omega, ?_⟩
    rw [vl, show ((s.length : Int)).toNat = s.length by omega]
    refine for_range (lo := 0) (n := s.length) (fun i σ H' => ∃ y1 y2, σ = [some (.ref a), y1, y2] ∧ H' = H ∧ (∀ k : Nat, k < i → Rm.OkAt s k) ∧ (∀ j k : Nat, j < k → k < i → (k : Int) < Rm.g s j → Rm.g s j < Rm.g s k → False))
      ⟨none, none, rfl, rfl, fun _ h => absurd h (Nat.not_lt_zero _), fun _ _ _ h => absurd h (Nat.not_lt_zero _)⟩ (fun i σ H' hi hP => ?_) (fun σ H' hP => ?_)
    · obtain ⟨y1, y2, rfl, rfl, hok, hnc⟩ := hP
      rw [Int.zero_add]
      have iv : atI (vi s) (i : Int) = some (.int (Rm.g s i)) := vi_at hi rfl
      have badi : ¬ Rm.OkAt s i → Q (.bl false) H' := fun h => bad fun G => absurd (G.2.1 i hi) h
      refine ⟨.ref a, rfl, .int i, rfl, a, _, _, _, rfl, rfl, hS, iv, _, _, rfl, rfl, _, rfl, ite2 (fun e1 => ?_) (fun e1 => ⟨_, rfl, iteT (badi fun ok => dn e1 ok.1)⟩)⟩
      have e1 := of_decide_eq_true e1
      refine ⟨.ref a, rfl, a, _, rfl, .inl hS, _, _, rfl, rfl, _, rfl, ?_⟩
      rw [vl]
      refine ite2 (fun e2 => iteT (badi fun ok => nt e2 ok.2.1)) (fun e2 => ?_)
      have e2 := nd e2
      refine ⟨.ref a, rfl, .int i, rfl, a, _, _, _, rfl, rfl, hS, iv, .int i, rfl, rfl, _, rfl, ite2 (fun e3 => iteT (badi fun ok => ok.2.2.1 (V.int.inj (of_decide_eq_true e3)))) (fun e3 => ?_)⟩
      have e3 : Rm.g s i ≠ (i : Int) := fun z => dn e3 (congrArg V.int z)
      have iv2 : atI (vi s) (Rm.g s i) = some (.int (Rm.g s (Rm.g s i).toNat)) := vi_at (by omega) (by omega)
      refine ⟨.ref a, rfl, .ref a, rfl, .int i, rfl, a, _, _, _, rfl, rfl, hS, iv, a, _, _, _, rfl, rfl, hS, iv2, .int i, rfl, rfl, _, rfl, ite2 (fun e4 => badi fun ok => nt e4 (congrArg V.int ok.2.2.2)) (fun e4 => ?_)⟩
      have e4 : Rm.g s (Rm.g s i).toNat = (i : Int) := V.int.inj (nd e4)
      have ok : Rm.OkAt s i := ⟨e1, e2, e3, e4⟩
      -- for j in range(k)
      refine ⟨.int i, rfl, _, rfl, by omega, by omega, ?_⟩
      rw [Int.toNat_natCast]
      refine for_range (lo := 0) (n := i) (fun j σ H'' => ∃ y2, σ = [some (.ref a), some (.int i), y2] ∧ H'' = H' ∧ ∀ j' : Nat, j' < j → (i : Int) < Rm.g s j' → Rm.g s j' < Rm.g s i → False)
        ⟨_, rfl, rfl, fun _ h => absurd h (Nat.not_lt_zero _)⟩ (fun j σ H'' hj hP => ?_) (fun σ H'' hP => ?_)
      · obtain ⟨y2, rfl, rfl, hc⟩ := hP
        rw [Int.zero_add]
        have jv : atI (vi s) (j : Int) = some (.int (Rm.g s j)) := vi_at (by omega) rfl
        have keep : ¬ ((i : Int) < Rm.g s j ∧ Rm.g s j < Rm.g s i) → ∃ y2, [some (V.ref a), some (V.int i), some (V.int j)] = [some (V.ref a), some (V.int i), y2] ∧ H'' = H'' ∧ ∀ j' : Nat, j' < j + 1 → (i : Int) < Rm.g s j' → Rm.g s j' < Rm.g s i → False := fun hn => by
          refine ⟨_, rfl, rfl, fun j' h1 h2 h3 => ?_⟩
          by_cases e : j' = j
          · subst e; exact hn ⟨h2, h3⟩
          · exact hc j' (by omega) h2 h3
        refine ⟨.ref a, rfl, .int i, rfl, a, _, _, _, rfl, rfl, hS, iv, .int i, rfl, _, _, rfl, rfl, _, rfl, ite2 (fun e5 => ?_) (fun e5 => iteF (keep fun z => dn e5 (by omega)))⟩
        refine ⟨.int j, rfl, .int i, rfl, _, _, rfl, rfl, _, rfl, ite2 (fun e6 => ?_) (fun e6 => absurd (show (j : Int) < (i : Int) by omega) (dn e6))⟩
        refine ⟨.ref a, rfl, .int j, rfl, a, _, _, _, rfl, rfl, hS, jv, _, _, rfl, rfl, _, rfl, ite2 (fun e7 => ?_) (fun e7 => ⟨_, rfl, iteF (keep fun z => dn e7 z.1)⟩)⟩
        refine ⟨.ref a, rfl, .int i, rfl, a, _, _, _, rfl, rfl, hS, iv, _, _, rfl, rfl, _, rfl, ite2 (fun e8 => ?_) (fun e8 => keep fun z => dn e8 z.2)⟩
        exact bad fun G => G.2.2 j i hj hi (of_decide_eq_true e7) (of_decide_eq_true e8)
      · obtain ⟨y2, rfl, rfl, hc⟩ := hP
        refine ⟨_, _, rfl, rfl, fun k hk => ?_, fun j k h1 h2 h3 h4 => ?_⟩
        · by_cases e : k = i
          · subst e; exact ok
          · exact hok k (by omega)
        · by_cases e : k = i
          · subst e; exact hc j h1 h3 h4
          · exact hnc j k h1 (by omega) h3 h4
    · obtain ⟨y1, y2, rfl, rfl, hok, hnc⟩ := hP
      exact q true ⟨fun _ => ⟨hL, hok, hnc⟩, fun _ => rfl⟩
end

end Rv

namespace Rv
open PySem PySem.Spec PyProof.Rows L2
open Rm (zs at')
/-! ### _law_some: a list of ints, whichever -/
abbrev s_law_some : Stmt := topS 14
theorem sc_law_some : FnScope ["script", "way", "some", "at", "to", "ends", "k"] ["script"] (defScope s_law_some) := ⟨rfl, rfl, rfl, by decide +kernel, rfl, by decide +kernel, by decide +kernel⟩
theorem pick5 (x0 x1 x2 x3 x4 c : Int) : ∃ z : Int, atI [V.int x0, V.int x1, V.int x2, V.int x3, V.int x4] (c.fmod 5) = some (.int z) := by
  have h0 := Int.fmod_nonneg_of_pos c (show (0 : Int) < 5 by decide)
  have h1 := Int.fmod_lt_of_pos c (show (0 : Int) < 5 by decide)
  generalize c.fmod 5 = r at h0 h1
  have : r = 0 ∨ r = 1 ∨ r = 2 ∨ r = 3 ∨ r = 4 := by omega
  rcases this with rfl | rfl | rfl | rfl | rfl
  · exact ⟨x0, rfl⟩
  · exact ⟨x1, rfl⟩
  · exact ⟨x2, rfl⟩
  · exact ⟨x3, rfl⟩
  · exact ⟨x4, rfl⟩
theorem mod_nat {m : Nat} (c : Int) (h : 0 < m) : ∃ k : Nat, c.fmod (m : Int) = (k : Int) ∧ k < m := by
  have h0 := Int.fmod_nonneg_of_pos c (show (0 : Int) < m by omega)
  have h1 := Int.fmod_lt_of_pos c (show (0 : Int) < m by omega)
  exact ⟨(c.fmod m).toNat, by omega, by omega⟩
theorem er_map {α β : Type} (f : α → β) : ∀ (l : List α) (k : Nat), (l.map f).eraseIdx k = (l.eraseIdx k).map f
  | [], _ => rfl
  | x :: r, 0 => rfl
  | x :: r, k + 1 => by
    show f x :: (r.map f).eraseIdx k = f x :: (r.eraseIdx k).map f
    rw [er_map f r k]
theorem vi_len (s : List Int) : (vi s).length = s.length := List.length_map _
theorem vi_snoc (s : List Int) (z : Int) : vi s ++ [V.int z] = vi (s ++ [z]) := by simp [vi]
def spSome (K : PySem.W.Frag) : Sp := fun vs H Q _ => ∃ (a : Addr) (ns : List Int), vs = [.ref a] ∧ SqL K H a (vi ns) ∧ ∀ H' p s, Same H H' → H p = none → H' p = some (.lst (vi s)) → s.length ≤ 100 → Q (.ref p) H'
section
variable {P : Program} {w : World} {K : PySem.W.Frag} {mg : Str → Option Value} {base : Heap}
theorem ok_law_some (D : Dfn K mg "_law_some" s_law_some ["script"]) (B : Blt mg) (c_law_cell_at : Cal P w K mg base 1 "_law_cell_at" (spCell K)) (c_law_arcs : Cal P w K mg base 2 "_law_arcs" (spLawArcs K)) : Cal P w K mg base 3 "_law_some" (spSome K) := by
  refine D.cal sc_law_some (fun vs H Q E h => ?_) (fun f cdv A outer s0 H vs Q E hr h => ?_)
  · obtain ⟨a, ns, rfl, _⟩ := h
    rfl
  · obtain ⟨a, ns, rfl, hS, q⟩ := h
    refine ⟨_, (pss_cons (ps_set (i := 1) sc_law_some.nd rfl (.inl rfl) (pe_op op_modN (pe_c c_law_cell_at hr (by omega) (by rfl) (pa_cons (pv 0) (pa_cons pe_int pa_nil))) pe_int))
      (pss_cons (ps_if (pt_cmpR op_eq (pv 1) pe_int (nomark _))
        (pss_one (ps_ret (pe_lc (own := [("k", 6)]) (g := gName 6) (tt := tYes) rfl sc_law_some.nd (pi_range1 (by rfl) B.range_ (pa_cons (pe_op op_modN (pe_c c_law_cell_at hr (by omega) (by rfl) (pa_cons (pv 0) (pa_cons pe_int pa_nil))) pe_int) pa_nil)) (blkOk_by (N := ["script", "way", "some", "at", "to", "ends", "k"]) (sc := defScope s_law_some) (by decide +kernel)) (fun _ _ _ _ _ => pg_name (i := 6) sc_law_some.nd rfl (Or.inl rfl)) (fun _ _ _ _ _ => pts_nil) (fun _ _ _ _ _ => (pe_op op_sub (pe_op op_modN (pe_c c_law_cell_at hr (by omega) (by rfl) (pa_cons (pv 0) (pa_cons (pe_op op_add pe_int (pv 6)) pa_nil))) pe_int) pe_int)))))
        pss_nil)
      (C8.pss_cut (ps_set (i := 2) sc_law_some.nd rfl (.inl rfl) (pe_c c_law_arcs hr (by omega) (by rfl) (pa_cons (pv 0) (pa_cons pe_int (pa_cons (pe_op op_add pe_int (pe_op op_modN (pe_c c_law_cell_at hr (by omega) (by rfl) (pa_cons (pv 0) (pa_cons pe_int pa_nil))) pe_int)) pa_nil)))))
      (pss_cons (ps_set (i := 3) sc_law_some.nd rfl (.inl rfl) (pe_op op_modN (pe_c c_law_cell_at hr (by omega) (by rfl) (pa_cons (pv 0) (pa_cons pe_int pa_nil))) (pe_callB call_len_seq (by rfl) B.len_ PySem.boot_len (pa_cons (pv 2) pa_nil))))
      (pss_cons (ps_set (i := 4) sc_law_some.nd rfl (.inl rfl) (pe_op op_modN (pe_c c_law_cell_at hr (by omega) (by rfl) (pa_cons (pv 0) (pa_cons pe_int pa_nil))) (pe_callB call_len_seq (by rfl) B.len_ PySem.boot_len (pa_cons (pv 2) pa_nil))))
      (C8.pss_cut (ps_if (pt_cmpR op_eq (pv 1) pe_int (nomark _))
        (pss_cons (ps_set (i := 5) sc_law_some.nd rfl (.inl rfl) (pe_lst (pa_cons (pe_ix ix_list (pv 2) (pv 3) (fun _ _ => rfl)) (pa_cons (pe_ix ix_list (pv 2) (pv 4) (fun _ _ => rfl)) pa_nil))))
        (pss_cons (ps_asg (pe_ix ix_list (pv 5) pe_int (fun _ _ => rfl)) (pg_sub (pv 2) (pv 3) set_list))
        (pss_one (ps_asg (pe_ix ix_list (pv 5) pe_int (fun _ _ => rfl)) (pg_sub (pv 2) (pv 4) set_list)))))
        pss_nil)
      (C8.pss_cut (ps_if (pt_cmpR op_eq (pv 1) pe_int (nomark _))
        (pss_one (ps_asg (pe_ix ix_list (pe_lst (pa_cons (pv 4) (pa_cons (pe_un un_neg pe_int) (pa_cons (pe_callB call_len_seq (by rfl) B.len_ PySem.boot_len (pa_cons (pv 2) pa_nil)) (pa_cons (pv 3) (pa_cons (pe_op op_modN (pe_c c_law_cell_at hr (by omega) (by rfl) (pa_cons (pv 0) (pa_cons pe_int pa_nil))) (pe_op op_pow pe_int pe_int)) pa_nil)))))) (pe_op op_modN (pe_c c_law_cell_at hr (by omega) (by rfl) (pa_cons (pv 0) (pa_cons pe_int pa_nil))) pe_int) (fun _ _ => rfl)) (pg_sub (pv 2) (pv 3) set_list)))
        pss_nil)
      (C8.pss_cut (ps_if (pt_cmpR op_eq (pv 1) pe_int (nomark _))
        (pss_one (ps_expr (pe_bm PySem.F.plainAttrs_list PySem.F.slot_list_insert PySem.F.type_list_insert mt_insert (pv 2) (pa_cons (pv 3) (pa_cons (pv 4) pa_nil)))))
        pss_nil)
      (C8.pss_cut (ps_if (pt_cmpR op_eq (pv 1) pe_int (nomark _))
        (pss_one (ps_expr (pe_bm PySem.F.plainAttrs_list PySem.F.slot_list_pop PySem.F.type_list_pop mt_popAt (pv 2) (pa_cons (pv 3) pa_nil))))
        pss_nil)
      (C8.pss_cut (ps_if (PW.pt (pw_and (pt_cmpR op_eq (pv 1) pe_int (nomark _)) (pw_and1 (pt_cmpR op_eq (pe_op op_modN (pe_c c_law_cell_at hr (by omega) (by rfl) (pa_cons (pv 0) (pa_cons pe_int pa_nil))) pe_int) pe_int (nomark _)))))
        (pss_one (ps_setLc (i := 2) (own := [("k", 6)]) (g := gName 6) (tt := tYes) rfl sc_law_some.nd rfl rfl (sw_true rfl rfl rfl (by decide +kernel)) (pi_range1 (by rfl) B.range_ (pa_cons pe_int pa_nil)) (blkOk_by (N := ["script", "way", "some", "at", "to", "ends", "k"]) (sc := defScope s_law_some) (by decide +kernel)) (fun _ _ _ _ _ => pg_name (i := 6) sc_law_some.nd rfl (Or.inl rfl)) (fun _ _ _ _ _ => pts_nil) (fun _ _ _ _ _ => (pe_op op_sub pe_int (pv 6)))))
        pss_nil)
      (pss_one (ps_ret (pv 2))))))))))))), ?_⟩
    refine ⟨.ref a, rfl, a, ns, 0, rfl, hS, by decide, fun c0 => ⟨_, _, rfl, rfl, (show (6 : Int) ≠ 0 by decide), ?_⟩⟩
    dsimp only
    generalize c0.fmod 6 = way
    refine ⟨_, rfl, rfl, _, rfl, ite2 (fun e => ?_) (fun e => ?_)⟩
    · -- some numbers near nought
      refine ⟨.ref a, rfl, a, ns, 1, rfl, hS, by decide, fun c1 => ⟨_, _, rfl, rfl, (show (10 : Int) ≠ 0 by decide), ?_⟩⟩
      obtain ⟨m, em, hm⟩ := mod_nat (m := 10) c1 (by decide)
      refine ⟨(m : Int), by dsimp only; rw [show (10 : Int) = ((10 : Nat) : Int) from rfl, em], by omega, by omega, fun D nD => ?_⟩
      rw [Int.toNat_natCast]
      refine lc_range (lo := 0) (n := m) (fun i H' => Same H H' ∧ ∃ s, H' D = some (.lst (vi s)) ∧ s.length = i) ⟨same_new nD, [], upd_same, rfl⟩ (fun i H' hi hP => ?_) (fun H' hP => ?_)
      · obtain ⟨sm, s, hD, hl⟩ := hP
        rw [Int.zero_add]
        refine ⟨rfl, ?_⟩
        unfold tYes
        refine iteT ⟨.ref a, rfl, .int i, rfl, _, _, rfl, rfl, a, ns, _, rfl, sm.seq hS, by omega, fun c => ⟨_, _, rfl, rfl, (show (8 : Int) ≠ 0 by decide), _, _, rfl, rfl, _, hD, ?_, same_upd sm nD, ?_⟩⟩
        · rw [vi_len, hl]
          exact small63 (by omega)
        · exact ⟨_, by rw [upd_same, vi_snoc], by rw [List.length_append, hl]; rfl⟩
      · obtain ⟨sm, s, hD, hl⟩ := hP
        exact q H' D s sm nD hD (by omega)
    -- arcs
    refine ⟨fun σ H' => ∃ (n : Nat) (p : Addr) (fd : List Nat), σ = [some (.ref a), some (.int way), some (.ref p), none, none, none, none] ∧ Same H H' ∧ H p = none ∧ 1 ≤ n ∧ n ≤ 20 ∧ Rm.ArcsL n fd ∧ H' p = some (.lst (vn fd)), ?_, ?_⟩
    · refine ⟨.ref a, rfl, .ref a, rfl, a, ns, 1, rfl, hS, by decide, fun c => ?_⟩
      obtain ⟨n, hn, h1, h20⟩ := size_of (z := c) 20 (by decide) (by decide)
      refine ⟨_, _, rfl, rfl, (show (20 : Int) ≠ 0 by decide), _, _, rfl, rfl, a, ns, 2, n, by dsimp only; rw [hn]; rfl, hS, by decide, h1, by omega, fun H' p fd hA s1 np hp => ⟨n, p, fd, rfl, s1, np, h1, by omega, hA, hp⟩⟩
    rintro σ1 H1 ⟨n, p, fd, rfl, s1, np, h1, h20, hA, hp⟩
    have hl := hA.len
    have hS1 := s1.seq hS
    -- at, to
    refine ⟨.ref a, rfl, a, ns, 43, rfl, hS1, by decide, fun c1 => ⟨.ref p, rfl, p, _, rfl, .inl (sqL hp), _, _, rfl, rfl, by rw [vn_len, hl]; omega, ?_⟩⟩
    obtain ⟨k, ek, hk⟩ := mod_nat (m := (vn fd).length) c1 (by rw [vn_len, hl]; omega)
    dsimp only
    rw [ek]
    refine ⟨.ref a, rfl, a, ns, 44, rfl, hS1, by decide, fun c2 => ⟨.ref p, rfl, p, _, rfl, .inl (sqL hp), _, _, rfl, rfl, by rw [vn_len, hl]; omega, ?_⟩⟩
    obtain ⟨j, ej, hj⟩ := mod_nat (m := (vn fd).length) c2 (by rw [vn_len, hl]; omega)
    dsimp only
    rw [ej]
    rw [vn_len] at hk hj
    refine ⟨fun σ H' => ∃ (y5 : Option V) (s : List Int), σ = [some (.ref a), some (.int way), some (.ref p), some (.int (k : Int)), some (.int (j : Int)), y5, none] ∧ Same H H' ∧ H' p = some (.lst (vi s)) ∧ k < s.length ∧ j < s.length ∧ s.length ≤ 40, ?_, ?_⟩
    · refine ⟨_, rfl, rfl, _, rfl, ite2 (fun e => ?_) (fun e => ?_)⟩
      · refine ⟨.ref p, rfl, .int k, rfl, p, _, _, _, rfl, rfl, sqL hp, vn_at hk rfl, .ref p, rfl, .int j, rfl, p, _, _, _, rfl, rfl, sqL hp, vn_at hj rfl, by show 2 ≤ sizeLine; decide, fun x nx => ?_⟩
        have s2 := same_new (o := .lst [V.int (at' fd k : Int), V.int (at' fd j : Int)]) nx
        have hx : upd H1 x (.lst [V.int (at' fd k : Int), V.int (at' fd j : Int)]) x = some (.lst [V.int (at' fd k : Int), V.int (at' fd j : Int)]) := upd_same
        have hxp : p ≠ x := ne_of_none hp nx
        have hp := s2 _ _ hp
        have S2 := s1.trans s2
        generalize upd H1 x (.lst [V.int (at' fd k : Int), V.int (at' fd j : Int)]) = H2 at hx hp S2
        refine ⟨.ref x, rfl, x, _, _, _, rfl, rfl, sqL hx, rfl, .ref p, rfl, .int k, rfl, p, _, _, k, rfl, rfl, hp, ixN_nat (by rw [vn_len]; exact hk), ?_⟩
        rw [vn_set]
        have hp3 : (upd H2 p (.lst (vn (fd.set k (at' fd j))))) p = _ := upd_same
        have hx3 : (upd H2 p (.lst (vn (fd.set k (at' fd j))))) x = some (.lst [V.int (at' fd k : Int), V.int (at' fd j : Int)]) := by rw [upd_ne hxp.symm]; exact hx
        have S3 : Same H (upd H2 p (.lst (vn (fd.set k (at' fd j))))) := same_upd S2 np
        generalize upd H2 p (.lst (vn (fd.set k (at' fd j)))) = H3 at hp3 hx3 S3
        refine ⟨.ref x, rfl, x, _, _, _, rfl, rfl, sqL hx3, rfl, .ref p, rfl, .int j, rfl, p, _, _, j, rfl, rfl, hp3, ixN_nat (by rw [vn_len, List.length_set]; exact hj), ?_⟩
        rw [vn_set]
        exact ⟨_, _, rfl, same_upd S3 np, upd_same, by simp; omega, by simp; omega, by simp; omega⟩
      · exact ⟨_, zs fd, rfl, s1, hp, by simp; omega, by simp; omega, by simp; omega⟩
    rintro σ2 H2 ⟨y5, s, rfl, S2, hp2, hks, hjs, hsl⟩
    -- way 2
    refine ⟨fun σ H' => ∃ (s : List Int), σ = [some (.ref a), some (.int way), some (.ref p), some (.int (k : Int)), some (.int (j : Int)), y5, none] ∧ Same H H' ∧ H' p = some (.lst (vi s)) ∧ k < s.length ∧ s.length ≤ 40, ?_, ?_⟩
    · refine ⟨_, rfl, rfl, _, rfl, ite2 (fun e => ?_) (fun e => ?_)⟩
      · refine ⟨.int j, rfl, _, rfl, .ref p, rfl, p, _, rfl, .inl (sqL hp2), .int k, rfl, .ref a, rfl, a, ns, 44, rfl, S2.seq hS, by decide, fun c => ⟨_, _, rfl, rfl, ⟨by decide, by decide, by decide⟩, c, _, rfl, rfl, (show (10 ^ (40 : Int).toNat : Int) ≠ 0 by decide), by show 5 ≤ sizeLine; decide, fun x nx => ?_⟩⟩
        dsimp only
        generalize c.fmod (10 ^ (40 : Int).toNat) = c4
        have s3 := same_new (o := .lst [V.int (j : Int), V.int (-1), V.int ((vi s).length : Int), V.int (k : Int), V.int c4]) nx
        have hx : upd H2 x (.lst [V.int (j : Int), V.int (-1), V.int ((vi s).length : Int), V.int (k : Int), V.int c4]) x = some (.lst [V.int (j : Int), V.int (-1), V.int ((vi s).length : Int), V.int (k : Int), V.int c4]) := upd_same
        have hp3 := s3 _ _ hp2
        have S3 := S2.trans s3
        generalize upd H2 x (.lst [V.int (j : Int), V.int (-1), V.int ((vi s).length : Int), V.int (k : Int), V.int c4]) = H3 at hx hp3 S3
        refine ⟨.ref a, rfl, a, ns, 45, rfl, S3.seq hS, by decide, fun c5 => ⟨_, _, rfl, rfl, (show (5 : Int) ≠ 0 by decide), ?_⟩⟩
        obtain ⟨z, hz⟩ := pick5 j (-1) ((vi s).length : Int) k c4 c5
        refine ⟨x, _, _, _, rfl, rfl, sqL hx, hz, .ref p, rfl, .int k, rfl, p, _, _, k, rfl, rfl, hp3, ixN_nat (by rw [vi_len]; exact hks), ?_⟩
        rw [vi_set]
        exact ⟨_, rfl, same_upd S3 np, upd_same, by rw [List.length_set]; exact hks, by rw [List.length_set]; exact hsl⟩
      · exact ⟨s, rfl, S2, hp2, hks, hsl⟩
    rintro σ3 H3 ⟨s, rfl, S3, hp3, hks, hsl⟩
    -- way 3
    refine ⟨fun σ H' => ∃ (s : List Int), σ = [some (.ref a), some (.int way), some (.ref p), some (.int (k : Int)), some (.int (j : Int)), y5, none] ∧ Same H H' ∧ H' p = some (.lst (vi s)) ∧ k < s.length ∧ s.length ≤ 41, ?_, ?_⟩
    · refine ⟨_, rfl, rfl, _, rfl, ite2 (fun e => ?_) (fun e => ?_)⟩
      · refine ⟨.ref p, rfl, .inl ⟨rfl, _, sqL hp3⟩, .int k, rfl, .int j, rfl, p, _, _, _, rfl, rfl, hp3, by rw [vi_len]; exact small63 (by omega), by omega, by omega, ?_⟩
        refine ⟨s.take k ++ [(j : Int)] ++ s.drop k, rfl, same_upd S3 np, ?_, ?_, ?_⟩
        · rw [upd_same, Int.toNat_natCast]
          simp [vi, List.map_take, List.map_drop]
        · simp; omega
        · simp; omega
      · exact ⟨s, rfl, S3, hp3, hks, by omega⟩
    rintro σ4 H4 ⟨s, rfl, S4, hp4, hks, hsl⟩
    -- way 4
    refine ⟨fun σ H' => ∃ (s : List Int), σ = [some (.ref a), some (.int way), some (.ref p), some (.int (k : Int)), some (.int (j : Int)), y5, none] ∧ Same H H' ∧ H' p = some (.lst (vi s)) ∧ s.length ≤ 41, ?_, ?_⟩
    · refine ⟨_, rfl, rfl, _, rfl, ite2 (fun e => ?_) (fun e => ?_)⟩
      · refine ⟨.ref p, rfl, .inl ⟨rfl, _, sqL hp4⟩, .int k, rfl, p, _, _, k, _, rfl, rfl, hp4, by omega, by omega, (ixN_seq (ixN_nat (by rw [vi_len]; exact hks))).1, vi_get hks, ?_⟩
        refine ⟨s.eraseIdx k, rfl, same_upd S4 np, ?_, ?_⟩
        · rw [upd_same]
          rw [show vi s = s.map V.int from rfl, er_map]
        · have := List.length_eraseIdx_le s k
          omega
      · exact ⟨s, rfl, S4, hp4, by omega⟩
    rintro σ5 H5 ⟨s, rfl, S5, hp5, hsl⟩
    -- way 5
    refine ⟨fun σ H' => ∃ (p : Addr) (s : List Int), σ = [some (.ref a), some (.int way), some (.ref p), some (.int (k : Int)), some (.int (j : Int)), y5, none] ∧ Same H H' ∧ H p = none ∧ H' p = some (.lst (vi s)) ∧ s.length ≤ 42, ?_, ?_⟩
    · refine ⟨_, rfl, rfl, _, rfl, ite2 (fun e => ?_) (fun e => ?_)⟩
      · refine ⟨.ref a, rfl, a, ns, 45, rfl, S5.seq hS, by decide, fun c => ⟨_, _, rfl, rfl, (show (2 : Int) ≠ 0 by decide), rfl, _, rfl, ite2 (fun e2 => ?_) (fun e2 => ?_)⟩⟩
        · refine ⟨_, rfl, by decide, by decide, fun D nD => ?_⟩
          refine lc_range (lo := 0) (n := 42) (fun i H' => Same H5 H' ∧ ∃ s, H' D = some (.lst (vi s)) ∧ s.length = i) ⟨same_new nD, [], upd_same, rfl⟩ (fun i H' hi hP => ?_) (fun H' hP => ?_)
          · obtain ⟨sm, s, hD, hl⟩ := hP
            refine ⟨rfl, ?_⟩
            unfold tYes
            refine iteT ⟨_, rfl, _, _, rfl, rfl, _, hD, ?_, same_upd sm nD, ?_⟩
            · rw [vi_len, hl]
              exact small63 (by omega)
            · exact ⟨_, by rw [upd_same, vi_snoc], by rw [List.length_append, hl]; rfl⟩
          · obtain ⟨sm, s, hD, hl⟩ := hP
            exact ⟨D, s, rfl, S5.trans sm, S5.free nD, hD, by omega⟩
        · exact ⟨p, s, rfl, S5, np, hp5, by omega⟩
      · exact ⟨p, s, rfl, S5, np, hp5, by omega⟩
    rintro σ6 H6 ⟨p, s, rfl, S6, np, hp6, hsl⟩
    exact ⟨_, rfl, q H6 p s S6 np hp6 (by omega)⟩
end

end Rv

namespace Rv
open PySem PySem.Spec PyProof.Rows L2
open Rm (zs at')
/-! ### _law_text: a text, whichever -/
abbrev s_law_text : Stmt := topS 15
theorem sc_law_text : FnScope ["script", "signs", "text", "k", "arcs", "at", "sign", "way"] ["script"] (defScope s_law_text) := ⟨rfl, rfl, rfl, by decide +kernel, rfl, by decide +kernel, by decide +kernel⟩
theorem sg_get {sg : Str} (hs : sg.length = 18) {i : Nat} (h : i < 18) : ∃ c, sg.cps[i]? = some c := by
  have h2 : i < sg.cps.size := by
    unfold Str.length at hs
    omega
  exact ⟨_, Array.getElem?_eq_getElem h2⟩
theorem pickS (b : Bool) : atI [V.str (("(" : String) : Str), V.str ((")" : String) : Str)] (if b then 1 else 0) = some (.str (tx [if b then 41 else 40])) := by
  cases b
  · show some (V.str (("(" : String) : Str)) = _
    rw [tx_lp]; rfl
  · show some (V.str ((")" : String) : Str)) = _
    rw [tx_rp]; rfl
theorem tx_of (s : Str) : s = tx s.cps.toList := by
  cases s
  simp [tx]
theorem len_of (s : Str) : s.cps.toList.length = s.length := by simp [Str.length]
theorem pick3 {α : Type} (x0 x1 x2 : α) (p : α → Prop) (h0 : p x0) (h1 : p x1) (h2 : p x2) (c : Int) : ∃ z : α, atI [x0, x1, x2] (c.fmod 3) = some z ∧ p z := by
  have h3 := Int.fmod_nonneg_of_pos c (show (0 : Int) < 3 by decide)
  have h4 := Int.fmod_lt_of_pos c (show (0 : Int) < 3 by decide)
  generalize c.fmod 3 = r at h3 h4
  have : r = 0 ∨ r = 1 ∨ r = 2 := by omega
  rcases this with rfl | rfl | rfl
  · exact ⟨x0, rfl, h0⟩
  · exact ⟨x1, rfl, h1⟩
  · exact ⟨x2, rfl, h2⟩
theorem mod_natI {z : Int} (c : Int) (h : 0 < z) : ∃ k : Nat, c.fmod z = (k : Int) ∧ (k : Int) < z := by
  have h0 := Int.fmod_nonneg_of_pos c h
  have h1 := Int.fmod_lt_of_pos c h
  exact ⟨(c.fmod z).toNat, by omega, by omega⟩
theorem len_cut (z : Str) (lo hi : Option Int) : (cutS z lo hi).length ≤ z.length := by
  show (((z.cps.toList.drop (HT.sIx z.length 0 lo)).take (HT.sIx z.length z.length hi - HT.sIx z.length 0 lo)).toArray).size ≤ z.length
  rw [List.size_toArray, List.length_take, List.length_drop, len_of]
  omega
theorem len_app (x y : Str) : (x ++ y).length = x.length + y.length := by
  rw [tx_of x, tx_of y, tx_app, tx_len, tx_len, tx_len, List.length_append]
def spText (K : PySem.W.Frag) : Sp := fun vs H Q _ => ∃ (a : Addr) (ns : List Int), vs = [.ref a] ∧ SqL K H a (vi ns) ∧ ∀ H' (t : Str), Same H H' → t.length ≤ 200 → Q (.str t) H'
section
variable {P : Program} {w : World} {K : PySem.W.Frag} {mg : Str → Option Value} {base : Heap}
theorem ok_law_text (D : Dfn K mg "_law_text" s_law_text ["script"]) (B : Blt mg) (c_law_cell_at : Cal P w K mg base 1 "_law_cell_at" (spCell K)) (c_law_arcs : Cal P w K mg base 2 "_law_arcs" (spLawArcs K)) : Cal P w K mg base 3 "_law_text" (spText K) := by
  refine D.cal sc_law_text (fun vs H Q E h => ?_) (fun f cdv A outer s0 H vs Q E hr h => ?_)
  · obtain ⟨a, ns, rfl, _⟩ := h
    rfl
  · obtain ⟨a, ns, rfl, hS, q⟩ := h
    refine ⟨_, (pss_cons (ps_set (i := 1) sc_law_text.nd rfl (.inl rfl) pe_str)
      (pss_cons (ps_set (i := 2) sc_law_text.nd rfl (.inl rfl) pe_str)
      (C8.pss_cut (ps_for PassesOwn.never rfl (pi_range1 (by rfl) B.range_ (pa_cons (pe_op op_modN (pe_c c_law_cell_at hr (by omega) (by rfl) (pa_cons (pv 0) (pa_cons pe_int pa_nil))) pe_int) pa_nil)) (pg_name (i := 3) sc_law_text.nd rfl (.inl rfl))
        (pss_one (ps_set (i := 2) sc_law_text.nd rfl (.inl rfl) (pe_op op_add_str (pv 2) (pe_item_str (pv 1) (pe_op op_modN (pe_c c_law_cell_at hr (by omega) (by rfl) (pa_cons (pv 0) (pa_cons (pe_op op_add pe_int (pv 3)) pa_nil))) (pe_ix ix_list (pe_lst (pa_cons pe_int (pa_cons pe_int (pa_cons pe_int pa_nil)))) (pe_op op_modN (pe_op op_fdivN (pe_c c_law_cell_at hr (by omega) (by rfl) (pa_cons (pv 0) (pa_cons pe_int pa_nil))) pe_int) pe_int) (fun _ _ => rfl))) (fun _ _ => rfl))))))
      (C8.pss_cut (ps_if (pt_cmpR op_eq (pe_op op_modN (pe_op op_fdivN (pe_c c_law_cell_at hr (by omega) (by rfl) (pa_cons (pv 0) (pa_cons pe_int pa_nil))) pe_int) pe_int) pe_int (nomark _))
        (pss_one (ps_set (i := 2) sc_law_text.nd rfl (.inl rfl) (pe_op op_add_str (pe_op op_repS pe_str pe_int) (pe_op op_repS pe_str pe_int))))
        pss_nil)
      (C8.pss_cut (ps_if (pt_cmpR op_eq (pe_op op_modN (pe_op op_fdivN (pe_c c_law_cell_at hr (by omega) (by rfl) (pa_cons (pv 0) (pa_cons pe_int pa_nil))) pe_int) pe_int) pe_int (nomark _))
        (pss_one (ps_set (i := 2) sc_law_text.nd rfl (.inl rfl) (pe_op op_add_str (pe_op op_repS pe_str pe_int) (pe_op op_repS pe_str (pe_op op_add pe_int (pe_op op_modN (pe_c c_law_cell_at hr (by omega) (by rfl) (pa_cons (pv 0) (pa_cons pe_int pa_nil))) pe_int))))))
        pss_nil)
      (C8.pss_cut (ps_if (pt_cmpR op_eq (pe_op op_modN (pe_op op_fdivN (pe_c c_law_cell_at hr (by omega) (by rfl) (pa_cons (pv 0) (pa_cons pe_int pa_nil))) pe_int) pe_int) pe_int (nomark _))
        (pss_cons (ps_set (i := 4) sc_law_text.nd rfl (.inr rfl) (pe_c c_law_arcs hr (by omega) (by rfl) (pa_cons (pv 0) (pa_cons pe_int (pa_cons (pe_op op_add pe_int (pe_op op_modN (pe_c c_law_cell_at hr (by omega) (by rfl) (pa_cons (pv 0) (pa_cons pe_int pa_nil))) pe_int)) pa_nil)))))
        (pss_cons (ps_set (i := 2) sc_law_text.nd rfl (.inl rfl) (pe_join pe_str (pe_lc (own := [("k", 3)]) (g := gName 3) (tt := tYes) rfl sc_law_text.nd (pi_range1 (by rfl) B.range_ (pa_cons (pe_callB call_len_seq (by rfl) B.len_ PySem.boot_len (pa_cons (pv 4) pa_nil)) pa_nil)) (blkOk_by (N := ["script", "signs", "text", "k", "arcs", "at", "sign", "way"]) (sc := defScope s_law_text) (by decide +kernel)) (fun _ _ _ _ _ => pg_name (i := 3) sc_law_text.nd rfl (Or.inl rfl)) (fun _ _ _ _ _ => pts_nil) (fun _ _ _ _ _ => (pe_ix (r := rIxL K) ix_list (pe_lst (pa_cons pe_str (pa_cons pe_str pa_nil))) (pe_callTy call_int1 (by rfl) B.int_ (by decide +kernel) (pa_cons (pe_cmpR op_lt (pe_ix (r := rIxL K) ix_list (pv 4) (pv 3) (fun _ _ => rfl)) (pv 3) (nomark _)) pa_nil)) (fun _ _ => rfl))))))
        (pss_cons (ps_set (i := 5) sc_law_text.nd rfl (.inl rfl) (pe_op op_modN (pe_c c_law_cell_at hr (by omega) (by rfl) (pa_cons (pv 0) (pa_cons pe_int pa_nil))) (pe_op op_add (pe_callB call_len_str (by rfl) B.len_ PySem.boot_len (pa_cons (pv 2) pa_nil)) pe_int)))
        (pss_cons (ps_set (i := 6) sc_law_text.nd rfl (.inl rfl) (pe_item_str (pv 1) (pe_op op_modN (pe_c c_law_cell_at hr (by omega) (by rfl) (pa_cons (pv 0) (pa_cons pe_int pa_nil))) pe_int) (fun _ _ => rfl)))
        (pss_cons (ps_set (i := 7) sc_law_text.nd rfl (.inl rfl) (pe_op op_modN (pe_c c_law_cell_at hr (by omega) (by rfl) (pa_cons (pv 0) (pa_cons pe_int pa_nil))) pe_int))
        (pss_one (ps_set (i := 2) sc_law_text.nd rfl (.inl rfl) (pe_op op_add_str (pe_op op_add_str (pe_slice sl_str (pv 2) po_none (po_some (pv 5))) (pe_ix ix_list (pe_lst (pa_cons pe_str (pa_cons (pv 6) (pa_cons (pv 6) pa_nil)))) (pv 7) (fun _ _ => rfl))) (pe_slice sl_str (pv 2) (po_some (pe_op op_add (pv 5) (pe_ix ix_list (pe_lst (pa_cons pe_int (pa_cons pe_int (pa_cons pe_int pa_nil)))) (pv 7) (fun _ _ => rfl)))) po_none)))))))))
        pss_nil)
      (pss_one (ps_ret (pv 2))))))))), ?_⟩
    refine ⟨fun σ H' => ∃ sg y3 t, σ = [some (.ref a), some (.str sg), some (.str t), y3, none, none, none, none] ∧ sg.length = 18 ∧ Same H H' ∧ t.length ≤ 12, ?_, ?_⟩
    · refine ⟨.ref a, rfl, a, ns, 46, rfl, hS, by decide, fun c0 => ⟨_, _, rfl, rfl, (show (12 : Int) ≠ 0 by decide), ?_⟩⟩
      obtain ⟨m, em, hm⟩ := mod_natI (z := 12) c0 (by decide)
      refine ⟨(m : Int), by dsimp only; rw [em], by omega, by omega, ?_⟩
      rw [Int.toNat_natCast]
      have he0 : (("" : String) : Str).length = 0 := by decide +kernel
      have hs18 : ((("(((())))()x [{-0\n\t" : String) : Str)).length = 18 := by decide +kernel
      refine for_range (lo := 0) (n := m) (fun i σ H' => ∃ sg y3 t, σ = [some (.ref a), some (.str sg), some (.str t), y3, none, none, none, none] ∧ sg.length = 18 ∧ Same H H' ∧ t.length = i) ?_ (fun i σ H' hi hP => ?_) (fun σ H' hP => ?_)
      · exact ⟨_, none, _, rfl, hs18, Same.refl _, he0⟩
      · obtain ⟨sg, y3, t, rfl, hsg, sm, hl⟩ := hP
        rw [Int.zero_add]
        refine ⟨_, rfl, _, rfl, .ref a, rfl, .int i, rfl, _, _, rfl, rfl, a, ns, _, rfl, sm.seq hS, by omega, fun c1 => ?_⟩
        refine ⟨by show 3 ≤ sizeLine; decide, fun x nx => ?_⟩
        have s2 := same_new (o := .lst [V.int 10, V.int 10, V.int 18]) nx
        have hx : upd H' x (.lst [V.int 10, V.int 10, V.int 18]) x = _ := upd_same
        have S2 := sm.trans s2
        generalize upd H' x (.lst [V.int 10, V.int 10, V.int 18]) = H2 at hx S2
        refine ⟨.ref a, rfl, a, ns, 46, rfl, S2.seq hS, by decide, fun c2 => ⟨_, _, rfl, rfl, ⟨by decide, by decide⟩, _, _, rfl, rfl, (show (3 : Int) ≠ 0 by decide), ?_⟩⟩
        obtain ⟨z, hz, w0, rfl, w1, w2⟩ := pick3 (V.int 10) (V.int 10) (V.int 18) (fun v => ∃ z : Int, v = .int z ∧ 0 < z ∧ z ≤ 18) ⟨_, rfl, by decide, by decide⟩ ⟨_, rfl, by decide, by decide⟩ ⟨_, rfl, by decide, by decide⟩ (c2.fdiv 12)
        refine ⟨x, _, _, _, rfl, rfl, sqL hx, hz, _, _, rfl, rfl, by omega, ?_⟩
        obtain ⟨k, ek, hk⟩ := mod_natI c1 w1
        obtain ⟨c, hc⟩ := sg_get hsg (i := k) (by omega)
        dsimp only
        rw [ek]
        refine ⟨_, _, c, rfl, rfl, by omega, by omega, by rw [hsg]; omega, by rw [Int.toNat_natCast]; exact hc, ?_⟩
        refine ⟨_, _, rfl, rfl, small63' (by show _ + 1 ≤ _; omega), ?_⟩
        exact ⟨sg, _, _, rfl, hsg, S2, by rw [len_app, hl]; rfl⟩
      obtain ⟨sg, y3, t, rfl, hsg, s1, hl⟩ := hP
      exact ⟨sg, y3, t, rfl, hsg, s1, by omega⟩
    rintro σ1 H' ⟨sg, y3, t, rfl, hsg, s1, hl⟩
    have hS1 := s1.seq hS
    -- twenty-one of each
    refine ⟨fun σ H2 => ∃ t, σ = [some (.ref a), some (.str sg), some (.str t), y3, none, none, none, none] ∧ H' = H2 ∧ t.length ≤ 42, ?_, ?_⟩
    · refine ⟨.ref a, rfl, a, ns, 46, rfl, hS1, by decide, fun c => ⟨_, _, rfl, rfl, ⟨by decide, by decide⟩, _, _, rfl, rfl, (show (4 : Int) ≠ 0 by decide), rfl, _, rfl, ite2 (fun e => ?_) (fun e => ⟨t, rfl, rfl, by omega⟩)⟩⟩
      refine ⟨_, _, rfl, rfl, by decide, by decide, by decide +kernel, _, _, rfl, rfl, by decide, by decide, by decide +kernel, _, _, rfl, rfl, ?_, ?_⟩
      · have l1 : (Txt.mul (("(" : String) : Str) 21).length = 21 := by decide +kernel
        have l2 : (Txt.mul ((")" : String) : Str) 21).length = 21 := by decide +kernel
        rw [l1, l2]
        decide
      · have l3 : (Txt.mul (("(" : String) : Str) 21 ++ Txt.mul ((")" : String) : Str) 21).length = 42 := by decide +kernel
        exact ⟨_, rfl, rfl, by rw [l3]; decide⟩
    rintro σ2 H2 ⟨t, rfl, rfl, hl⟩
    refine ⟨fun σ H2 => ∃ t, σ = [some (.ref a), some (.str sg), some (.str t), y3, none, none, none, none] ∧ H' = H2 ∧ t.length ≤ 42, ?_, ?_⟩
    · refine ⟨.ref a, rfl, a, ns, 46, rfl, hS1, by decide, fun c => ⟨_, _, rfl, rfl, ⟨by decide, by decide⟩, _, _, rfl, rfl, (show (4 : Int) ≠ 0 by decide), rfl, _, rfl, ite2 (fun e => ?_) (fun e => ⟨t, rfl, rfl, by omega⟩)⟩⟩
      refine ⟨_, _, rfl, rfl, by decide, by decide, by decide +kernel, .ref a, rfl, a, ns, 47, rfl, hS1, by decide, fun c2 => ⟨_, _, rfl, rfl, (show (3 : Int) ≠ 0 by decide), _, _, rfl, rfl, ?_⟩⟩
      have h0 := Int.fmod_nonneg_of_pos c2 (show (0 : Int) < 3 by decide)
      have h1 := Int.fmod_lt_of_pos c2 (show (0 : Int) < 3 by decide)
      dsimp only
      generalize c2.fmod 3 = r at h0 h1
      have l1 : (Txt.mul (("(" : String) : Str) 20).length = 20 := by decide +kernel
      have hr : r = 0 ∨ r = 1 ∨ r = 2 := by omega
      have l2 : (Txt.mul ((")" : String) : Str) (19 + r)).length ≤ 21 := by rcases hr with rfl | rfl | rfl <;> decide +kernel
      have l3 : (Txt.mul (("(" : String) : Str) 20 ++ Txt.mul ((")" : String) : Str) (19 + r)).length ≤ 41 := by rcases hr with rfl | rfl | rfl <;> decide +kernel
      refine ⟨_, _, rfl, rfl, by omega, by omega, by decide +kernel, _, _, rfl, rfl, small63' (by omega), ?_⟩
      exact ⟨_, rfl, rfl, by omega⟩
    rintro σ3 H3 ⟨t, rfl, rfl, hl⟩
    -- a word with a sign out, in or turned
    refine ⟨fun σ H2 => ∃ y4 y5 y6 y7 y3 t, σ = [some (.ref a), some (.str sg), some (.str t), y3, y4, y5, y6, y7] ∧ Same H H2 ∧ t.length ≤ 100, ?_, ?_⟩
    · refine ⟨.ref a, rfl, a, ns, 46, rfl, hS1, by decide, fun c => ⟨_, _, rfl, rfl, ⟨by decide, by decide⟩, _, _, rfl, rfl, (show (3 : Int) ≠ 0 by decide), rfl, _, rfl, ite2 (fun e => ?_) (fun e => ⟨_, _, _, _, _, t, rfl, s1, by omega⟩)⟩⟩
      refine ⟨.ref a, rfl, .ref a, rfl, a, ns, 1, rfl, hS1, by decide, fun c => ?_⟩
      obtain ⟨n, hn, h1, h20⟩ := size_of (z := c) 20 (by decide) (by decide)
      refine ⟨_, _, rfl, rfl, (show (20 : Int) ≠ 0 by decide), _, _, rfl, rfl, a, ns, 2, n, by dsimp only; rw [hn]; rfl, hS1, by decide, h1, by omega, fun H4 p fd hA s4 np hp => ?_⟩
      have hfl := hA.len
      have S4 := s1.trans s4
      have hS4 := S4.seq hS
      refine ⟨⟨_, rfl⟩, .ref p, rfl, p, _, rfl, .inl (sqL hp), _, rfl, by rw [vn_len]; omega, by rw [vn_len]; omega, fun D nD => ?_⟩
      rw [show (((vn fd).length : Nat) : Int).toNat = fd.length by rw [vn_len]; omega]
      refine lc_range (lo := 0) (n := fd.length) (fun i H' => Sx [D] H4 H' ∧ ∃ ds : List Nat, H' D = some (.lst (ds.map fun c => V.str (tx [c]))) ∧ ds.length = i) ⟨Sx.of (same_new nD), [], upd_same, rfl⟩ (fun i H' hi hP => ?_) (fun H' hP => ?_)
      · obtain ⟨sx, ds, hD, hdl⟩ := hP
        rw [Int.zero_add]
        have S0 : Same H4 H' := fun u o e => sx u o (by simp; exact ne_of_none e nD) e
        refine ⟨rfl, ?_⟩
        unfold tYes
        refine iteT ⟨by show 2 ≤ sizeLine; decide, fun x nx => ?_⟩
        have snx := same_new (o := .lst [V.str (("(" : String) : Str), V.str ((")" : String) : Str)]) nx
        have hp' := snx _ _ (S0 _ _ hp)
        refine ⟨.ref p, rfl, .int i, rfl, p, _, _, _, rfl, rfl, sqL hp', vn_at hi rfl, .int i, rfl, _, _, rfl, rfl, .inr ⟨_, rfl, x, _, _, _, rfl, rfl, sqL upd_same, pickS _, _, snx _ _ hD, ?_, (sx.trans (Sx.of snx)).upd (by simp), ?_⟩⟩
        · rw [List.length_map, hdl]
          exact small63 (by omega)
        · refine ⟨ds ++ [if decide ((at' fd i : Int) < (i : Int)) = true then 41 else 40], ?_, by rw [List.length_append, hdl]; rfl⟩
          rw [upd_same, List.map_append]
          rfl
      obtain ⟨sx, ds, hD, hdl⟩ := hP
      have S0 : Same H4 H' := fun u o e => sx u o (by simp; exact ne_of_none e nD) e
      have hS5 := S0.seq hS4
      refine ⟨_, D, ds.map (fun c => tx [c]), rfl, rfl, .inl (sqL (by rw [hD, List.map_map]; rfl)), ?_, ?_⟩
      · have e1 : (ds.map (fun c => tx [c])).map (·.length) = ds.map (fun _ => 1) := by
          rw [List.map_map]
          exact List.map_congr_left fun c _ => tx_len [c]
        rw [e1, tx_nil, tx_len]
        have e2 : (ds.map (fun _ => 1)).sum = ds.length := by
          generalize ds = l
          induction l with
          | nil => rfl
          | cons x r ih => rw [List.map_cons, List.sum_cons, ih, List.length_cons]; omega
        rw [e2]
        show ds.length + _ * 0 ≤ _
        omega
      rw [TL.join_eq, tx_nil, tx_join]
      have hline : (tx ds).length ≤ sizeLine := by rw [tx_len]; exact small63' (by omega)
      have hdl2 : ds.length ≤ 40 := by omega
      -- at
      refine ⟨.ref a, rfl, a, ns, 47, rfl, hS5, by decide, fun c3 => ⟨_, rfl, _, rfl, hline, _, _, rfl, rfl, _, _, rfl, rfl, by omega, ?_⟩⟩
      obtain ⟨k, ek, hk⟩ := mod_natI c3 (z := ((tx ds).length : Int) + 1) (by omega)
      dsimp only
      rw [ek]
      -- sign
      refine ⟨_, rfl, .ref a, rfl, a, ns, 48, rfl, hS5, by decide, fun c4 => ⟨_, _, rfl, rfl, (show (18 : Int) ≠ 0 by decide), ?_⟩⟩
      obtain ⟨k2, ek2, hk2⟩ := mod_natI c4 (z := 18) (by decide)
      obtain ⟨sc, hsc⟩ := sg_get hsg (i := k2) (by omega)
      dsimp only
      rw [ek2]
      refine ⟨_, _, sc, rfl, rfl, by omega, by omega, by rw [hsg]; omega, by rw [Int.toNat_natCast]; exact hsc, ?_⟩
      -- way
      refine ⟨.ref a, rfl, a, ns, 49, rfl, hS5, by decide, fun c5 => ⟨_, _, rfl, rfl, (show (3 : Int) ≠ 0 by decide), ?_⟩⟩
      -- the new text
      have hsl : (⟨#[sc]⟩ : Str).length = 1 := rfl
      have hn0 : (tx []).length = 0 := rfl
      have hdt : (tx ds).length ≤ 40 := by rw [tx_len]; omega
      dsimp only
      refine ⟨_, rfl, .int k, rfl, _, rfl, _, rfl, hline, _, rfl, _, rfl, by show 3 ≤ sizeLine; decide, fun x nx => ?_⟩
      have s6 := same_new (o := .lst [V.str (tx []), V.str ⟨#[sc]⟩, V.str ⟨#[sc]⟩]) nx
      have hx : upd H' x (.lst [V.str (tx []), V.str ⟨#[sc]⟩, V.str ⟨#[sc]⟩]) x = _ := upd_same
      have S6 := (S4.trans S0).trans s6
      generalize upd H' x (.lst [V.str (tx []), V.str ⟨#[sc]⟩, V.str ⟨#[sc]⟩]) = H6 at hx S6
      obtain ⟨z, hz, z1, rfl, hz1⟩ := pick3 (V.str (tx [])) (V.str ⟨#[sc]⟩) (V.str ⟨#[sc]⟩) (fun v => ∃ z : Str, v = .str z ∧ z.length ≤ 1) ⟨_, rfl, by rw [hn0]; decide⟩ ⟨_, rfl, by rw [hsl]; decide⟩ ⟨_, rfl, by rw [hsl]; decide⟩ c5
      have hc1 := len_cut (tx ds) none (some (k : Int))
      refine ⟨_, rfl, x, _, _, _, rfl, rfl, sqL hx, hz, _, _, rfl, rfl, small63' (by omega), ?_⟩
      obtain ⟨w0, hw0, w1, rfl, _⟩ := pick3 (V.int 1) (V.int 0) (V.int 1) (fun v => ∃ z : Int, v = .int z ∧ True) ⟨_, rfl, trivial⟩ ⟨_, rfl, trivial⟩ ⟨_, rfl, trivial⟩ c5
      refine ⟨_, rfl, .int k, rfl, by show 3 ≤ sizeLine; decide, fun x2 nx2 => ?_⟩
      have s7 := same_new (o := .lst [V.int 1, V.int 0, V.int 1]) nx2
      have hx2 : upd H6 x2 (.lst [V.int 1, V.int 0, V.int 1]) x2 = _ := upd_same
      have S7 := S6.trans s7
      generalize upd H6 x2 (.lst [V.int 1, V.int 0, V.int 1]) = H7 at hx2 S7
      have hc2 := len_cut (tx ds) (some ((k : Int) + w1)) none
      refine ⟨_, rfl, x2, _, _, _, rfl, rfl, sqL hx2, hw0, _, _, rfl, rfl, _, rfl, _, rfl, hline, _, _, rfl, rfl, ?_, ?_⟩
      · rw [len_app]
        exact small63' (by omega)
      · refine ⟨_, _, _, _, _, _, rfl, S7, ?_⟩
        rw [len_app, len_app]
        omega
    rintro σ4 H4 ⟨y4, y5, y6, y7, y3, t, rfl, s4, hl⟩
    exact ⟨_, rfl, q H4 t s4 (by omega)⟩
end

end Rv

namespace Rv
open PySem PySem.Spec PyProof.Rows L2
open Rm (zs at')
/-! ### arcs_of and _law_read, of any text -/
abbrev s_arcs_of : Stmt := topS 7
theorem sc_arcs_of : FnScope ["word", "found", "open_ones", "k", "other"] ["word"] (defScope s_arcs_of) := ⟨rfl, rfl, rfl, by decide +kernel, rfl, by decide +kernel, by decide +kernel⟩
abbrev s_law_read : Stmt := topS 16
theorem sc_law_read : FnScope ["text", "found", "ahead", "k"] ["text"] (defScope s_law_read) := ⟨rfl, rfl, rfl, by decide +kernel, rfl, by decide +kernel, by decide +kernel⟩
theorem sgL (c : Nat) : decide (V.str ⟨#[c]⟩ = V.str (("(" : String) : Str)) = decide (c = 40) := by
  rw [tx_lp]
  by_cases h : c = 40
  · subst h; rfl
  · rw [decide_eq_false h]
    refine decide_eq_false fun z => h ?_
    have := tx_inj (a := [c]) (b := [40]) (V.str.inj z)
    exact (List.cons.inj this).1
theorem sgR (c : Nat) : decide (V.str ⟨#[c]⟩ = V.str ((")" : String) : Str)) = decide (c = 41) := by
  rw [tx_rp]
  by_cases h : c = 41
  · subst h; rfl
  · rw [decide_eq_false h]
    refine decide_eq_false fun z => h ?_
    have := tx_inj (a := [c]) (b := [41]) (V.str.inj z)
    exact (List.cons.inj this).1
theorem cs_get {cs : List Nat} {i : Nat} (h : i < cs.length) : cs[i]? = some (cs.getD i 0) := by
  rw [List.getD_eq_getElem?_getD, List.getElem?_eq_getElem h]
  rfl
theorem last_of {p : List Nat} (h : p ≠ []) : ∃ l t, p = l ++ [t] ∧ p.getLastD 0 = t ∧ p.dropLast = l := by
  rcases List.eq_nil_or_concat p with e | ⟨l, t, e⟩
  · exact absurd e h
  · exact ⟨l, t, by rw [e, List.concat_eq_append], by rw [e]; simp, by rw [e]; simp⟩
def spRead : Sp := fun vs H Q _ => ∃ cs : List Nat, vs = [.str (tx cs)] ∧ cs.length ≤ 200 ∧ (∀ f, Rm.rdt cs = some f → NewL H Q f) ∧ (Rm.rdt cs = none → ∀ H', Same H H' → Q .non H')
def spArcsX (C : Addr) : Sp := fun vs H Q E => ∃ cs : List Nat, vs = [.str (tx cs)] ∧ cs.length ≤ 200 ∧ (∀ f, Rm.rdt cs = some f → NewL H Q f) ∧ (Rm.rdt cs = none → ∀ H', Same H H' → E (.ref C) none H')
section
variable {P : Program} {w : World} {K : PySem.W.Frag} {mg : Str → Option Value} {base : Heap}
theorem ok_arcs_of {C_NotRead : Addr} {tM : Tok} (D : Dfn K mg "arcs_of" s_arcs_of ["word"]) (B : Blt mg) (g_MOST : mg "MOST" = some (.int 20 tM)) (x_NotRead : ExcF K mg "NotRead" C_NotRead) : CalX P w K mg base 1 "arcs_of" (spArcsX C_NotRead) := by
  refine D.calX sc_arcs_of (fun vs H Q E h => ?_) (fun f cdv A outer s0 H vs Q E hr h => ?_)
  · obtain ⟨cs, rfl, _⟩ := h
    rfl
  · obtain ⟨cs, rfl, hm, q1, q2⟩ := h
    refine ⟨_, (pss_cons (ps_set (i := 1) sc_arcs_of.nd rfl (.inl rfl) (pe_op op_rep (pe_lst (pa_cons pe_int pa_nil)) (pe_callB call_len_str (by rfl) B.len_ PySem.boot_len (pa_cons (pv 0) pa_nil))))
      (pss_cons (ps_set (i := 2) sc_arcs_of.nd rfl (.inl rfl) (pe_lst pa_nil))
      (pss_cons (ps_for (passes_of rfl) rfl (pi_range1 (by rfl) B.range_ (pa_cons (pe_callB call_len_str (by rfl) B.len_ PySem.boot_len (pa_cons (pv 0) pa_nil)) pa_nil)) (pg_name (i := 3) sc_arcs_of.nd rfl (.inl rfl))
        (pss_one (ps_if (pt_cmpR op_eq (pe_item_str (pv 0) (pv 3) (fun _ _ => rfl)) pe_str (nomark _))
          (pss_one (ps_expr (pe_bm PySem.F.plainAttrs_list PySem.F.slot_list_append PySem.F.type_list_append mt_append (pv 2) (pa_cons (pv 3) pa_nil))))
          (pss_one (ps_if (PW.pt (pw_and (pt_cmpR op_eq (pe_item_str (pv 0) (pv 3) (fun _ _ => rfl)) pe_str (nomark _)) (pw_and1 (pt_cmpR op_gt (pe_callB call_len_seq (by rfl) B.len_ PySem.boot_len (pa_cons (pv 2) pa_nil)) pe_int (nomark _)))))
            (pss_cons (ps_set (i := 4) sc_arcs_of.nd rfl (.inl rfl) (pe_bm0 PySem.F.plainAttrs_list PySem.F.slot_list_pop PySem.F.type_list_pop mt_pop (pv 2)))
            (pss_cons (ps_asg (pv 4) (pg_sub (pv 1) (pv 3) set_list))
            (pss_one (ps_asg (pv 3) (pg_sub (pv 1) (pv 4) set_list)))))
            (pss_one (ps_raise rfl (takes_of rfl rfl rfl rfl) (pmk_own PySem.F.excBase_ValueError x_NotRead.x x_NotRead.g x_NotRead.k (raises_own x_NotRead.b x_NotRead.t) (by exact rfl)))))))))
      (pss_cons (ps_if (PW.pt (pw_or (pt_cmpR op_gt (pe_callB call_len_seq (by rfl) B.len_ PySem.boot_len (pa_cons (pv 2) pa_nil)) pe_int (nomark _)) (pw_or1 (pt_not (pt_chain op_le op_le pe_int (pe_callB call_len_str (by rfl) B.len_ PySem.boot_len (pa_cons (pv 0) pa_nil)) (pe_op op_mul pe_int (pe_glob (v := .int 20) (by rfl) g_MOST ⟨_, rfl⟩)))))))
        (pss_one (ps_raise rfl (takes_of rfl rfl rfl rfl) (pmk_own PySem.F.excBase_ValueError x_NotRead.x x_NotRead.g x_NotRead.k (raises_own x_NotRead.b x_NotRead.t) (by exact rfl))))
        pss_nil)
      (pss_one (ps_ret (pv 1))))))), ?_⟩
    have hwl : (tx cs).length = cs.length := tx_len cs
    have hline : (tx cs).length ≤ sizeLine := by rw [hwl]; exact small63' (by omega)
    refine ⟨by show 1 ≤ sizeLine; decide, fun x nx => ?_⟩
    refine ⟨_, rfl, _, rfl, hline, x, _, _, rfl, rfl, upd_same, by omega, by rw [hwl]; omega, ?_, fun p np => ?_⟩
    · rw [hwl]
      exact small63' (by show 1 * _ ≤ _; omega)
    rw [show (((tx cs).length : Nat) : Int).toNat = cs.length by rw [hwl]; omega, rep1]
    have sx : Same H (upd H x (.lst [V.int 0])) := same_new nx
    have np0 : H p = none := sx.free np
    refine ⟨Nat.zero_le _, fun o no => ?_⟩
    have sp' := same_new (o := .lst (List.replicate cs.length (V.int 0))) np
    have no0 : H o = none := sx.free (sp'.free no)
    have hpo : p ≠ o := ne_of_none upd_same no
    refine ⟨_, rfl, _, rfl, hline, _, rfl, by omega, by rw [hwl]; omega, ?_⟩
    rw [show (((tx cs).length : Nat) : Int).toNat = cs.length by rw [hwl]; omega]
    refine for_range (lo := 0) (n := cs.length) (fun i σ H' => ∃ y3 y4 fd pl, σ = [some (.str (tx cs)), some (.ref p), some (.ref o), y3, y4] ∧ Same H H' ∧ H' p = some (.lst (vn fd)) ∧ H' o = some (.lst (vn pl)) ∧ Rm.rst cs cs.length i = some (fd, pl))
      ⟨none, none, List.replicate cs.length 0, [], rfl, (sx.trans sp').trans (same_new no), by rw [upd_ne hpo, upd_same, vn_rep], upd_same, rfl⟩ (fun i σ H' hi hP => ?_) (fun σ H' hP => ?_)
    · obtain ⟨y3, y4, fd, pl, rfl, sm, hp, ho, hst⟩ := hP
      rw [Int.zero_add]
      have hget := cs_get hi
      obtain ⟨hfl, hpl⟩ := Rm.rst_ok hst
      have hpll := Rm.rst_len hst
      have nxt : Rm.rst cs cs.length (i + 1) = if cs.getD i 0 = 40 then some (fd, pl ++ [i]) else if cs.getD i 0 = 41 ∧ pl ≠ [] then some ((fd.set i (pl.getLastD 0)).set (pl.getLastD 0) i, pl.dropLast) else none := by
        show (match Rm.rst cs cs.length i with
          | none => none
          | some (f, p) => if cs.getD i 0 = 40 then some (f, p ++ [i]) else if cs.getD i 0 = 41 ∧ p ≠ [] then some ((f.set i (p.getLastD 0)).set (p.getLastD 0) i, p.dropLast) else none) = _
        rw [hst]
      refine ⟨_, rfl, .int i, rfl, _, _, _, rfl, rfl, by omega, by omega, by rw [hwl]; omega, tx_get (by rw [Int.toNat_natCast]; exact hget), rfl, _, rfl, ?_⟩
      rw [sgL]
      refine ite2 (fun e => ?_) (fun e => ?_)
      · rw [if_pos (of_decide_eq_true e)] at nxt
        refine ⟨.ref o, rfl, .inl ⟨rfl, _, sqL ho⟩, .int i, rfl, o, _, _, rfl, rfl, ho, ?_, ?_⟩
        · rw [vn_len]
          exact small63 (by omega)
        · exact ⟨_, _, fd, _, rfl, same_upd sm no0, by rw [upd_ne hpo]; exact hp, by rw [upd_same, vn_push], nxt⟩
      · rw [if_neg (dn e)] at nxt
        have out : ¬ (cs.getD i 0 = 41 ∧ pl ≠ []) → E (.ref C_NotRead) none H' := fun z => by
          rw [if_neg z] at nxt
          exact q2 (Rm.rdt_none (by omega) nxt) _ sm
        refine ⟨_, rfl, .int i, rfl, _, _, _, rfl, rfl, by omega, by omega, by rw [hwl]; omega, tx_get (by rw [Int.toNat_natCast]; exact hget), rfl, _, rfl, ?_⟩
        rw [sgR]
        refine ite2 (fun e2 => ?_) (fun e2 => out fun z => dn e2 z.1)
        have e2 := of_decide_eq_true e2
        refine ⟨.ref o, rfl, o, _, rfl, .inl (sqL ho), _, _, rfl, rfl, _, rfl, ite2 (fun e3 => ?_) (fun e3 => out fun z => dn e3 ?_)⟩
        · have e3 := of_decide_eq_true e3
          rw [vn_len] at e3
          have hne : pl ≠ [] := fun z => by rw [z] at e3; exact absurd e3 (by decide)
          rw [if_pos ⟨e2, hne⟩] at nxt
          obtain ⟨l, t, rfl, el, ed⟩ := last_of hne
          rw [el, ed] at nxt
          have ht : t < i := hpl t (by simp)
          refine ⟨.ref o, rfl, .inl ⟨rfl, _, sqL ho⟩, o, _, _, rfl, rfl, ho, vn_last l t, ?_⟩
          rw [vn_drop]
          have sm2 : Same H (upd H' o (.lst (vn l))) := same_upd sm no0
          have hp2 : (upd H' o (.lst (vn l))) p = some (.lst (vn fd)) := by rw [upd_ne hpo]; exact hp
          have ho2 : (upd H' o (.lst (vn l))) o = some (.lst (vn l)) := upd_same
          generalize upd H' o (.lst (vn l)) = H2 at sm2 hp2 ho2
          refine ⟨.int t, rfl, .ref p, rfl, .int i, rfl, p, _, _, i, rfl, rfl, hp2, ixN_nat (by rw [vn_len, hfl]; exact hi), ?_⟩
          rw [vn_set]
          have sm3 : Same H (upd H2 p (.lst (vn (fd.set i t)))) := same_upd sm2 np0
          have hp3 : (upd H2 p (.lst (vn (fd.set i t)))) p = some (.lst (vn (fd.set i t))) := upd_same
          have ho3 : (upd H2 p (.lst (vn (fd.set i t)))) o = some (.lst (vn l)) := by rw [upd_ne hpo.symm]; exact ho2
          generalize upd H2 p (.lst (vn (fd.set i t))) = H3 at sm3 hp3 ho3
          refine ⟨.int i, rfl, .ref p, rfl, .int t, rfl, p, _, _, t, rfl, rfl, hp3, ixN_nat (by rw [vn_len, List.length_set, hfl]; omega), ?_⟩
          rw [vn_set]
          exact ⟨_, _, _, _, rfl, same_upd sm3 np0, upd_same, by rw [upd_ne hpo.symm]; exact ho3, nxt⟩
        · rw [vn_len]
          have := List.length_pos_iff.mpr z.2
          omega
    · obtain ⟨y3, y4, fd, pl, rfl, sm, hp, ho, hst⟩ := hP
      have hrd : Rm.rdt cs = if pl = [] ∧ 2 ≤ cs.length ∧ cs.length ≤ 40 then some fd else none := by
        unfold Rm.rdt
        rw [hst]
      have out : ¬ (pl = [] ∧ 2 ≤ cs.length ∧ cs.length ≤ 40) → E (.ref C_NotRead) none H' := fun z => by
        rw [if_neg z] at hrd
        exact q2 hrd _ sm
      refine ⟨.ref o, rfl, o, _, rfl, .inl (sqL ho), _, _, rfl, rfl, _, rfl, ite2 (fun e => out fun z => ?_) (fun e => ?_)⟩
      · have e := of_decide_eq_true e
        rw [z.1] at e
        exact absurd e (by decide)
      · have e := dn e
        rw [vn_len] at e
        have hnil : pl = [] := List.length_eq_zero_iff.mp (by omega)
        refine ⟨_, rfl, _, rfl, hline, _, _, rfl, rfl, _, rfl, ite2 (fun e2 => ?_) (fun e2 => ?_)⟩
        · have e2 := of_decide_eq_true e2
          rw [hwl] at e2
          refine ⟨_, _, rfl, rfl, .inl ⟨by decide, by decide⟩, _, _, rfl, rfl, _, rfl, ite2 (fun e3 => ?_) (fun e3 => ?_)⟩
          · exact out fun z => nt e3 (by rw [hwl]; omega)
          · have e3 := nd e3
            rw [hwl] at e3
            rw [if_pos ⟨hnil, by omega, by omega⟩] at hrd
            exact ⟨_, rfl, q1 fd hrd H' p sm np0 hp⟩
        · have e2 := dn e2
          rw [hwl] at e2
          exact ⟨_, rfl, iteT (out fun z => by omega)⟩
theorem ok_law_read (D : Dfn K mg "_law_read" s_law_read ["text"]) (B : Blt mg) : Cal P w K mg base 1 "_law_read" spRead := by
  refine D.cal sc_law_read (fun vs H Q E h => ?_) (fun f cdv A outer s0 H vs Q E hr h => ?_)
  · obtain ⟨cs, rfl, _⟩ := h
    rfl
  · obtain ⟨cs, rfl, hm, q1, q2⟩ := h
    refine ⟨_, (pss_cons (ps_set (i := 1) sc_law_read.nd rfl (.inl rfl) (pe_op op_rep (pe_lst (pa_cons pe_int pa_nil)) (pe_callB call_len_str (by rfl) B.len_ PySem.boot_len (pa_cons (pv 0) pa_nil))))
      (pss_cons (ps_set (i := 2) sc_law_read.nd rfl (.inl rfl) (pe_lst pa_nil))
      (pss_cons (ps_for PassesOwn.never rfl (pi_range1 (by rfl) B.range_ (pa_cons (pe_callB call_len_str (by rfl) B.len_ PySem.boot_len (pa_cons (pv 0) pa_nil)) pa_nil)) (pg_name (i := 3) sc_law_read.nd rfl (.inl rfl))
        (pss_one (ps_if (pt_cmpR op_eq (pe_item_str (pv 0) (pv 3) (fun _ _ => rfl)) pe_str (nomark _))
          (pss_one (ps_expr (pe_bm PySem.F.plainAttrs_list PySem.F.slot_list_append PySem.F.type_list_append mt_append (pv 2) (pa_cons (pv 3) pa_nil))))
          (pss_one (ps_if (PW.pt (pw_or (pt_cmpR op_ne (pe_item_str (pv 0) (pv 3) (fun _ _ => rfl)) pe_str (nomark _)) (pw_or1 (pt_cmpR (op_eqD (hu64 hr)) (pv 2) (pe_lst pa_nil) (nomark _)))))
            (pss_one (ps_ret pe_non))
            (pss_cons (ps_asg (pe_bm0 PySem.F.plainAttrs_list PySem.F.slot_list_pop PySem.F.type_list_pop mt_pop (pv 2)) (pg_sub (pv 1) (pv 3) set_list))
            (pss_one (ps_asg (pv 3) (pg_sub (pv 1) (pe_ix ix_list (pv 1) (pv 3) (fun _ _ => rfl)) set_list)))))))))
      (pss_cons (ps_if (PW.pt (pw_or (pt_cmpR (op_neD (hu64 hr)) (pv 2) (pe_lst pa_nil) (nomark _)) (pw_or (pt_cmpR op_lt (pe_callB call_len_str (by rfl) B.len_ PySem.boot_len (pa_cons (pv 0) pa_nil)) pe_int (nomark _)) (pw_or1 (pt_cmpR op_gt (pe_callB call_len_str (by rfl) B.len_ PySem.boot_len (pa_cons (pv 0) pa_nil)) pe_int (nomark _))))))
        (pss_one (ps_ret pe_non))
        pss_nil)
      (pss_one (ps_ret (pv 1))))))), ?_⟩
    have hwl : (tx cs).length = cs.length := tx_len cs
    have hline : (tx cs).length ≤ sizeLine := by rw [hwl]; exact small63' (by omega)
    refine ⟨by show 1 ≤ sizeLine; decide, fun x nx => ?_⟩
    refine ⟨_, rfl, _, rfl, hline, x, _, _, rfl, rfl, upd_same, by omega, by rw [hwl]; omega, ?_, fun p np => ?_⟩
    · rw [hwl]
      exact small63' (by show 1 * _ ≤ _; omega)
    rw [show (((tx cs).length : Nat) : Int).toNat = cs.length by rw [hwl]; omega, rep1]
    have sx : Same H (upd H x (.lst [V.int 0])) := same_new nx
    have np0 : H p = none := sx.free np
    refine ⟨Nat.zero_le _, fun o no => ?_⟩
    have sp' := same_new (o := .lst (List.replicate cs.length (V.int 0))) np
    have no0 : H o = none := sx.free (sp'.free no)
    have hpo : p ≠ o := ne_of_none upd_same no
    refine ⟨_, rfl, _, rfl, hline, _, rfl, by omega, by rw [hwl]; omega, ?_⟩
    rw [show (((tx cs).length : Nat) : Int).toNat = cs.length by rw [hwl]; omega]
    refine for_range (lo := 0) (n := cs.length) (fun i σ H' => ∃ y3 fd pl, σ = [some (.str (tx cs)), some (.ref p), some (.ref o), y3] ∧ Same H H' ∧ H' p = some (.lst (vn fd)) ∧ H' o = some (.lst (vn pl)) ∧ Rm.rst cs cs.length i = some (fd, pl))
      ⟨none, List.replicate cs.length 0, [], rfl, (sx.trans sp').trans (same_new no), by rw [upd_ne hpo, upd_same, vn_rep], upd_same, rfl⟩ (fun i σ H' hi hP => ?_) (fun σ H' hP => ?_)
    · obtain ⟨y3, fd, pl, rfl, sm, hp, ho, hst⟩ := hP
      rw [Int.zero_add]
      have hget := cs_get hi
      obtain ⟨hfl, hpl⟩ := Rm.rst_ok hst
      have hpll := Rm.rst_len hst
      have nxt : Rm.rst cs cs.length (i + 1) = if cs.getD i 0 = 40 then some (fd, pl ++ [i]) else if cs.getD i 0 = 41 ∧ pl ≠ [] then some ((fd.set i (pl.getLastD 0)).set (pl.getLastD 0) i, pl.dropLast) else none := by
        show (match Rm.rst cs cs.length i with
          | none => none
          | some (f, p) => if cs.getD i 0 = 40 then some (f, p ++ [i]) else if cs.getD i 0 = 41 ∧ p ≠ [] then some ((f.set i (p.getLastD 0)).set (p.getLastD 0) i, p.dropLast) else none) = _
        rw [hst]
      refine ⟨_, rfl, .int i, rfl, _, _, _, rfl, rfl, by omega, by omega, by rw [hwl]; omega, tx_get (by rw [Int.toNat_natCast]; exact hget), rfl, _, rfl, ?_⟩
      rw [sgL]
      refine ite2 (fun e => ?_) (fun e => ?_)
      · rw [if_pos (of_decide_eq_true e)] at nxt
        refine ⟨.ref o, rfl, .inl ⟨rfl, _, sqL ho⟩, .int i, rfl, o, _, _, rfl, rfl, ho, ?_, ?_⟩
        · rw [vn_len]
          exact small63 (by omega)
        · exact ⟨_, fd, _, rfl, same_upd sm no0, by rw [upd_ne hpo]; exact hp, by rw [upd_same, vn_push], nxt⟩
      · rw [if_neg (dn e)] at nxt
        have out : ¬ (cs.getD i 0 = 41 ∧ pl ≠ []) → ∀ H', Same H H' → Q .non H' := fun z H' sm => by
          rw [if_neg z] at nxt
          exact q2 (Rm.rdt_none (by omega) nxt) _ sm
        refine ⟨_, rfl, .int i, rfl, _, _, _, rfl, rfl, by omega, by omega, by rw [hwl]; omega, tx_get (by rw [Int.toNat_natCast]; exact hget), rfl, _, rfl, ?_⟩
        rw [sgR]
        refine ite2 (fun e2 => out (fun z => nt e2 z.1) H' sm) (fun e2 => ?_)
        have e2 := nd e2
        refine ⟨.ref o, rfl, Nat.zero_le _, fun u nu => ?_⟩
        have su := same_new (o := .lst []) nu
        have hu : upd H' u (.lst []) u = some (.lst []) := upd_same
        have ho := su _ _ ho
        have hp := su _ _ hp
        have sm := sm.trans su
        generalize upd H' u (.lst []) = H1 at hu ho hp sm
        refine rEq_ints (sqL ho) (sqL (xs := vi []) hu) ⟨_, rfl, ite2 (fun e3 => ?_) (fun e3 => ?_)⟩
        · have e3 := of_decide_eq_true e3
          refine out (fun z => z.2 ?_) H1 sm
          cases pl with
          | nil => rfl
          | cons a r => exact absurd e3 (by simp [zs])
        · have e3 := dn e3
          have hne : pl ≠ [] := fun z => e3 (by rw [z]; rfl)
          rw [if_pos ⟨e2, hne⟩] at nxt
          obtain ⟨l, t, rfl, el, ed⟩ := last_of hne
          rw [el, ed] at nxt
          have ht : t < i := hpl t (by simp)
          refine ⟨.ref o, rfl, .inl ⟨rfl, _, sqL ho⟩, o, _, _, rfl, rfl, ho, vn_last l t, ?_⟩
          rw [vn_drop]
          have sm2 : Same H (upd H1 o (.lst (vn l))) := same_upd sm no0
          have hp2 : (upd H1 o (.lst (vn l))) p = some (.lst (vn fd)) := by rw [upd_ne hpo]; exact hp
          have ho2 : (upd H1 o (.lst (vn l))) o = some (.lst (vn l)) := upd_same
          generalize upd H1 o (.lst (vn l)) = H2 at sm2 hp2 ho2
          refine ⟨.ref p, rfl, .int i, rfl, p, _, _, i, rfl, rfl, hp2, ixN_nat (by rw [vn_len, hfl]; exact hi), ?_⟩
          rw [vn_set]
          have sm3 : Same H (upd H2 p (.lst (vn (fd.set i t)))) := same_upd sm2 np0
          have hp3 : (upd H2 p (.lst (vn (fd.set i t)))) p = some (.lst (vn (fd.set i t))) := upd_same
          have ho3 : (upd H2 p (.lst (vn (fd.set i t)))) o = some (.lst (vn l)) := by rw [upd_ne hpo.symm]; exact ho2
          generalize upd H2 p (.lst (vn (fd.set i t))) = H3 at sm3 hp3 ho3
          have hat : at' (fd.set i t) i = t := by rw [Rm.at_set (by omega), if_pos rfl]
          refine ⟨.int i, rfl, .ref p, rfl, .ref p, rfl, .int i, rfl, p, _, _, _, rfl, rfl, sqL hp3, vn_at (by rw [List.length_set]; omega) rfl, p, _, _, t, rfl, rfl, hp3, by rw [hat]; exact ixN_nat (by rw [vn_len, List.length_set, hfl]; omega), ?_⟩
          rw [vn_set]
          exact ⟨_, _, _, rfl, same_upd sm3 np0, upd_same, by rw [upd_ne hpo.symm]; exact ho3, nxt⟩
    · obtain ⟨y3, fd, pl, rfl, sm, hp, ho, hst⟩ := hP
      have hrd : Rm.rdt cs = if pl = [] ∧ 2 ≤ cs.length ∧ cs.length ≤ 40 then some fd else none := by
        unfold Rm.rdt
        rw [hst]
      have out : ¬ (pl = [] ∧ 2 ≤ cs.length ∧ cs.length ≤ 40) → ∀ H', Same H H' → Q .non H' := fun z H' sm => by
        rw [if_neg z] at hrd
        exact q2 hrd _ sm
      refine ⟨.ref o, rfl, Nat.zero_le _, fun u nu => ?_⟩
      have su := same_new (o := .lst []) nu
      have hu : upd H' u (.lst []) u = some (.lst []) := upd_same
      have ho := su _ _ ho
      have hp := su _ _ hp
      have sm := sm.trans su
      generalize upd H' u (.lst []) = H1 at hu ho hp sm
      refine rNe_ints (sqL ho) (sqL (xs := vi []) hu) ⟨_, rfl, ite2 (fun e => ?_) (fun e => ?_)⟩
      · exact out (fun z => nt e (by rw [z.1]; rfl)) H1 sm
      · have e := nd e
        have hnil : pl = [] := by
          cases pl with
          | nil => rfl
          | cons a r => exact absurd e (by simp [zs])
        refine ⟨_, rfl, _, rfl, hline, _, _, rfl, rfl, _, rfl, ite2 (fun e2 => ?_) (fun e2 => ?_)⟩
        · have e2 := of_decide_eq_true e2
          rw [hwl] at e2
          exact out (fun z => by omega) H1 sm
        · have e2 := dn e2
          rw [hwl] at e2
          refine ⟨_, rfl, _, rfl, hline, _, _, rfl, rfl, _, rfl, ite2 (fun e3 => ?_) (fun e3 => ?_)⟩
          · have e3 := of_decide_eq_true e3
            rw [hwl] at e3
            exact out (fun z => by omega) H1 sm
          · have e3 := dn e3
            rw [hwl] at e3
            rw [if_pos ⟨hnil, by omega, by omega⟩] at hrd
            exact ⟨_, rfl, q1 fd hrd H1 p sm np0 hp⟩
end

end Rv

namespace Rv
open PySem PySem.Spec PyProof.Rows L2
open Rm (zs at')
/-! ### the law -/
abbrev s_law : Stmt := topS 17
theorem sc_law : FnScope ["script", "some", "handed", "found", "text", "due", "told", "e"] ["script"] (defScope s_law) := ⟨rfl, rfl, rfl, by decide +kernel, rfl, by decide +kernel, by decide +kernel⟩
section
variable {P : Program} {w : World} {K : PySem.W.Frag} {mg : Str → Option Value} {base : Heap}
theorem ok_law {C_NotRead C_NoArcs C_RiverError : Addr} {f : Addr} {fd : FuncData} (F : Fun K "law" "law" s_law f fd) (B : Blt mg) (c_law_some : Cal P w K mg base 3 "_law_some" (spSome K)) (c_is_arcs : Cal P w K mg base 1 "is_arcs" (spIsArcs K))
    (c_law_good : Cal P w K mg base 1 "_law_good" (spGood K)) (c_law_text : Cal P w K mg base 3 "_law_text" (spText K)) (c_law_read : Cal P w K mg base 1 "_law_read" spRead) (c_arcs_of : CalX P w K mg base 1 "arcs_of" (spArcsX C_NotRead)) (c_law_numbers : Cal P w K mg base 2 "_law_numbers" (spNumbers K))
    (x_NotRead : ExcF K mg "NotRead" C_NotRead) (g_NotRead : mg "NotRead" = some (.ref C_NotRead)) (g_NoArcs : mg "NoArcs" = some (.ref C_NoArcs)) (g_RiverError : mg "RiverError" = some (.ref C_RiverError)) (q_NotRead_NotRead : PySem.W.kitOne K (.ref C_NotRead) (.ref C_NotRead) = some true) (q_NotRead_V : PySem.W.kitOne K (.ref C_NotRead) (.type "ValueError") = some true)
    (q_NotRead_NoArcs : PySem.W.kitOne K (.ref C_NotRead) (.ref C_NoArcs) = some false) (m_NotRead : PySem.W.exmOne K (.ref C_NotRead) (.ref C_RiverError) = some true) :
    FnOk P w K mg base CX0 4 f fd ["script"] (spLaw K) := by
  refine F.ok sc_law (fun vs H Q E h => ?_) (fun cdv A outer s0 H vs Q E hr h => ?_)
  · obtain ⟨a, ns, rfl, _⟩ := h
    rfl
  · obtain ⟨a, ns, rfl, hS, h63, q⟩ := h
    refine ⟨_, (pss_cons (ps_set (i := 1) sc_law.nd rfl (.inl rfl) (pe_c c_law_some hr (by omega) (by rfl) (pa_cons (pv 0) pa_nil)))
      (pss_cons (ps_set (i := 2) sc_law.nd rfl (.inl rfl) (pe_callTy call_list_of (by rfl) B.list_ (by decide +kernel) (pa_cons (pv 1) pa_nil)))
      (pss_cons (ps_set (i := 3) sc_law.nd rfl (.inl rfl) (pe_c c_is_arcs hr (by omega) (by rfl) (pa_cons (pv 2) pa_nil)))
      (pss_cons (ps_if (PW.pt (pw_or (pt_not (pt_val (pe_callB call_isi (by rfl) B.isinstance_ (by decide +kernel) (pa_cons (pv 3) (pa_cons (pe_bltn (v := .ty "bool") (by rfl) B.bool_ (by decide +kernel) rfl) pa_nil))))) (pw_or (pt_cmpR op_ne (pv 3) (pe_c c_law_good hr (by omega) (by rfl) (pa_cons (pv 1) pa_nil)) (nomark _)) (pw_or1 (pt_cmpR (op_neD (hu64 hr)) (pv 2) (pv 1) (nomark _))))))
        (pss_one (ps_ret pe_bl))
        pss_nil)
      (pss_cons (ps_set (i := 4) sc_law.nd rfl (.inl rfl) (pe_c c_law_text hr (by omega) (by rfl) (pa_cons (pv 0) pa_nil)))
      (pss_cons (ps_set (i := 5) sc_law.nd rfl (.inl rfl) (pe_c c_law_read hr (by omega) (by rfl) (pa_cons (pv 4) pa_nil)))
      (pss_cons (ps_set (i := 6) sc_law.nd rfl (.inl rfl) pe_non)
      (pss_cons (ps_try_as (i := 7) (Wout := fun _ _ _ _ => False) rfl rfl sc_law.nd rfl rfl ⟨rfl, by decide, .inl g_RiverError⟩ takes0 (fun W pn xe tk _ => (pss_one (ps_set (i := 6) sc_law.nd rfl (.inl rfl) (pe_cX c_arcs_of tk hr (by omega) (by rfl) (pa_cons (pv 4) pa_nil)))))
        (fun a oe cls d pn hz hf => pss_if (c := cls = .ref C_NotRead ∧ d = none) fun hc => (pss_one (ps_set (i := 6) sc_law.nd rfl (.inl rfl) (pe_tup (pa_cons (pe_callB (call_isE x_NotRead.c (zc_of hc hz) hf) (by rfl) B.isinstance_ (by decide +kernel) (pa_cons (pv 7) (pa_cons (pe_glob (v := .ref C_NotRead) (by rfl) g_NotRead rfl) pa_nil))) (pa_cons (pe_callB (call_isE x_NotRead.c (zc_of hc hz) hf) (by rfl) B.isinstance_ (by decide +kernel) (pa_cons (pv 7) (pa_cons (pe_bltn (v := .ty "ValueError") (by rfl) B.ValueError_ (by decide +kernel) rfl) pa_nil))) (pa_cons (pe_callB (call_isE x_NotRead.c (zc_of hc hz) hf) (by rfl) B.isinstance_ (by decide +kernel) (pa_cons (pv 7) (pa_cons (pe_glob (v := .ref C_NoArcs) (by rfl) g_NoArcs rfl) pa_nil))) pa_nil))))))))
      (pss_cons (ps_if (pt_cmpR op_isN (pv 5) pe_non (nomark _))
        (pss_one (ps_ret (pe_cmpR (op_eqD (hu64 hr)) (pv 6) (pe_tup (pa_cons pe_bl (pa_cons pe_bl (pa_cons pe_bl pa_nil)))) (nomark _))))
        pss_nil)
      (pss_one (ps_ret (pe_c c_law_numbers hr (by omega) (by rfl) (pa_cons (pv 6) (pa_cons (pv 5) pa_nil)))))))))))))), ?_⟩
    refine ⟨.ref a, rfl, a, ns, rfl, hS, fun H1 p s s1 np hp hl => ?_⟩
    refine ⟨.ref p, rfl, p, _, rfl, .inl (sqL hp), fun d nd => ?_⟩
    have s2 := same_new (o := .lst (vi s)) nd
    have hd : upd H1 d (.lst (vi s)) d = some (.lst (vi s)) := upd_same
    have hp := s2 _ _ hp
    have S2 := s1.trans s2
    generalize upd H1 d (.lst (vi s)) = H2 at hd hp S2
    refine ⟨.ref d, rfl, d, s, rfl, sqL hd, by omega, fun b H3 s3 hb => ?_⟩
    have hp := s3 _ _ hp
    have hd := s3 _ _ hd
    have S3 := S2.trans s3
    refine ⟨.bl b, rfl, _, _, _, _, true, rfl, .ty "bool", .base (.bl b), kit_ty (by decide +kernel), true, rfl, iteF ?_⟩
    refine ⟨_, rfl, .ref p, rfl, p, s, rfl, sqL hp, by omega, fun b2 hb2 => ?_⟩
    have ebb : b = b2 := by
      rw [Bool.eq_iff_iff, hb, hb2]
    subst ebb
    refine ⟨rfl, _, rfl, ?_⟩
    rw [decide_eq_true rfl]
    refine iteF ⟨.ref d, rfl, .ref p, rfl, rNe_ints (sqL hd) (sqL hp) ⟨_, rfl, ?_⟩⟩
    rw [decide_eq_true rfl]
    refine iteF ?_
    -- text
    refine ⟨.ref a, rfl, a, ns, rfl, S3.seq hS, fun H4 t s4 ht => ?_⟩
    rw [tx_of t]
    have htl : t.cps.toList.length ≤ 200 := by rw [len_of]; exact ht
    generalize t.cps.toList = cs at htl
    refine ⟨.str (tx cs), rfl, cs, rfl, by omega, fun fr hfr H5 u s5 nu hu => ?_, fun hno H5 s5 => ?_⟩
    · -- it is read
      have hfl := Rm.rdt_len hfr
      refine ⟨.str (tx cs), rfl, cs, rfl, by omega, fun fr2 hfr2 H6 v s6 nv hv => ?_, fun z => absurd (hfr.symm.trans z) (by simp)⟩
      have : fr2 = fr := by
        rw [hfr] at hfr2
        exact (Option.some.inj hfr2).symm
      subst this
      have hu := s6 _ _ hu
      refine ⟨.ref u, rfl, rfl, _, rfl, ?_⟩
      rw [decide_eq_false (fun z => nomatch z)]
      refine iteF ⟨.ref v, rfl, .ref u, rfl, v, u, zs fr2, zs fr2, rfl, hv, sqL hu, fun _ => q _, fun z => absurd rfl z⟩
    · refine ⟨.str (tx cs), rfl, cs, rfl, by omega, fun fr2 hfr2 => absurd (hno.symm.trans hfr2) (by simp), fun _ H6 s6 => ?_⟩
      refine ⟨true, m_NotRead, fun _ x nx => ⟨⟨rfl, rfl⟩, ?_⟩, fun z => nomatch z⟩
      refine ⟨.ref x, rfl, .ref C_NotRead, .ref C_NotRead, true, rfl, fun u hu => by cases hu; rfl, q_NotRead_NotRead, .ref x, rfl, .ty "ValueError", .type "ValueError", true, rfl, fun u hu => by cases hu; rfl, q_NotRead_V, .ref x, rfl, .ref C_NoArcs, .ref C_NoArcs, false, rfl, fun u hu => by cases hu; rfl, q_NotRead_NoArcs, by show 3 ≤ sizeLine; decide, fun tt ntt => ?_⟩
      have htt : upd H6 tt (.tup [V.bl true, V.bl true, V.bl false]) tt = some (.tup [V.bl true, V.bl true, V.bl false]) := upd_same
      refine ⟨.non, rfl, rfl, _, rfl, ?_⟩
      rw [decide_eq_true rfl]
      refine iteT ⟨.ref tt, rfl, by show 3 ≤ sizeLine; decide, fun t2 nt2 => ?_⟩
      have h2 := same_new (o := .tup [V.bl true, V.bl true, V.bl false]) nt2 _ _ htt
      exact ⟨.tuple [.bool true, .bool true, .bool false], .tuple [.bool true, .bool true, .bool false], .tup (sqT h2) (.cons (.bl _) (.cons (.bl _) (.cons (.bl _) .nil))), .tup (sqT upd_same) (.cons (.bl _) (.cons (.bl _) (.cons (.bl _) .nil))), by decide, by decide, q _⟩
end

end Rv

namespace Rv
open PySem PySem.Spec PyProof.Rows L2
theorem all_mk {l : PySem.W.OpenLaw} {w : World} {K : PySem.W.Frag} {h : Heap} {mg : Str → Option Value} {fa : Addr} (X : K.In h) (G : h.Ns mainGlobals mg) (hfa : mg "law" = some (.ref fa))
    {f_is_arcs : Addr} {od_is_arcs an_is_arcs : Option Addr} {sl_is_arcs : Array (Option Value)} {oc_is_arcs kV_is_arcs dc_is_arcs pm_is_arcs cd_is_arcs ct_is_arcs : Value}
    {f_arcs_of : Addr} {od_arcs_of an_arcs_of : Option Addr} {sl_arcs_of : Array (Option Value)} {oc_arcs_of kV_arcs_of dc_arcs_of pm_arcs_of cd_arcs_of ct_arcs_of : Value}
    {f_law_cell_at : Addr} {od_law_cell_at an_law_cell_at : Option Addr} {sl_law_cell_at : Array (Option Value)} {oc_law_cell_at kV_law_cell_at dc_law_cell_at pm_law_cell_at cd_law_cell_at ct_law_cell_at : Value}
    {f_law_whole : Addr} {od_law_whole an_law_whole : Option Addr} {sl_law_whole : Array (Option Value)} {oc_law_whole kV_law_whole dc_law_whole pm_law_whole cd_law_whole ct_law_whole : Value}
    {f_law_numbers : Addr} {od_law_numbers an_law_numbers : Option Addr} {sl_law_numbers : Array (Option Value)} {oc_law_numbers kV_law_numbers dc_law_numbers pm_law_numbers cd_law_numbers ct_law_numbers : Value}
    {f_law_arcs : Addr} {od_law_arcs an_law_arcs : Option Addr} {sl_law_arcs : Array (Option Value)} {oc_law_arcs kV_law_arcs dc_law_arcs pm_law_arcs cd_law_arcs ct_law_arcs : Value}
    {f_law_good : Addr} {od_law_good an_law_good : Option Addr} {sl_law_good : Array (Option Value)} {oc_law_good kV_law_good dc_law_good pm_law_good cd_law_good ct_law_good : Value}
    {f_law_some : Addr} {od_law_some an_law_some : Option Addr} {sl_law_some : Array (Option Value)} {oc_law_some kV_law_some dc_law_some pm_law_some cd_law_some ct_law_some : Value}
    {f_law_text : Addr} {od_law_text an_law_text : Option Addr} {sl_law_text : Array (Option Value)} {oc_law_text kV_law_text dc_law_text pm_law_text cd_law_text ct_law_text : Value}
    {f_law_read : Addr} {od_law_read an_law_read : Option Addr} {sl_law_read : Array (Option Value)} {oc_law_read kV_law_read dc_law_read pm_law_read cd_law_read ct_law_read : Value}
    {f_law : Addr} {od_law an_law : Option Addr} {sl_law : Array (Option Value)} {oc_law kV_law dc_law pm_law cd_law ct_law : Value}
    (a_is_arcs : PySem.W.nsIn K mainGlobals "is_arcs" = some (some (.ref f_is_arcs))) (l_is_arcs : K.lookup f_is_arcs = some ⟨oc_is_arcs, od_is_arcs, .func (PySem.W.fnOf "is_arcs" "is_arcs" (defArgs s_is_arcs) (defBody s_is_arcs) (defScope s_is_arcs) .none kV_is_arcs dc_is_arcs pm_is_arcs an_is_arcs cd_is_arcs ct_is_arcs), sl_is_arcs⟩) (x_is_arcs : PySem.W.codeIn K cd_is_arcs "is_arcs" = true) (k_is_arcs : PySem.W.keepIn K (.ref f_is_arcs) = true)
    (a_arcs_of : PySem.W.nsIn K mainGlobals "arcs_of" = some (some (.ref f_arcs_of))) (l_arcs_of : K.lookup f_arcs_of = some ⟨oc_arcs_of, od_arcs_of, .func (PySem.W.fnOf "arcs_of" "arcs_of" (defArgs s_arcs_of) (defBody s_arcs_of) (defScope s_arcs_of) .none kV_arcs_of dc_arcs_of pm_arcs_of an_arcs_of cd_arcs_of ct_arcs_of), sl_arcs_of⟩) (x_arcs_of : PySem.W.codeIn K cd_arcs_of "arcs_of" = true) (k_arcs_of : PySem.W.keepIn K (.ref f_arcs_of) = true)
    (a_law_cell_at : PySem.W.nsIn K mainGlobals "_law_cell_at" = some (some (.ref f_law_cell_at))) (l_law_cell_at : K.lookup f_law_cell_at = some ⟨oc_law_cell_at, od_law_cell_at, .func (PySem.W.fnOf "_law_cell_at" "_law_cell_at" (defArgs s_law_cell_at) (defBody s_law_cell_at) (defScope s_law_cell_at) .none kV_law_cell_at dc_law_cell_at pm_law_cell_at an_law_cell_at cd_law_cell_at ct_law_cell_at), sl_law_cell_at⟩) (x_law_cell_at : PySem.W.codeIn K cd_law_cell_at "_law_cell_at" = true) (k_law_cell_at : PySem.W.keepIn K (.ref f_law_cell_at) = true)
    (a_law_whole : PySem.W.nsIn K mainGlobals "_law_whole" = some (some (.ref f_law_whole))) (l_law_whole : K.lookup f_law_whole = some ⟨oc_law_whole, od_law_whole, .func (PySem.W.fnOf "_law_whole" "_law_whole" (defArgs s_law_whole) (defBody s_law_whole) (defScope s_law_whole) .none kV_law_whole dc_law_whole pm_law_whole an_law_whole cd_law_whole ct_law_whole), sl_law_whole⟩) (x_law_whole : PySem.W.codeIn K cd_law_whole "_law_whole" = true) (k_law_whole : PySem.W.keepIn K (.ref f_law_whole) = true)
    (a_law_numbers : PySem.W.nsIn K mainGlobals "_law_numbers" = some (some (.ref f_law_numbers))) (l_law_numbers : K.lookup f_law_numbers = some ⟨oc_law_numbers, od_law_numbers, .func (PySem.W.fnOf "_law_numbers" "_law_numbers" (defArgs s_law_numbers) (defBody s_law_numbers) (defScope s_law_numbers) .none kV_law_numbers dc_law_numbers pm_law_numbers an_law_numbers cd_law_numbers ct_law_numbers), sl_law_numbers⟩) (x_law_numbers : PySem.W.codeIn K cd_law_numbers "_law_numbers" = true) (k_law_numbers : PySem.W.keepIn K (.ref f_law_numbers) = true)
    (a_law_arcs : PySem.W.nsIn K mainGlobals "_law_arcs" = some (some (.ref f_law_arcs))) (l_law_arcs : K.lookup f_law_arcs = some ⟨oc_law_arcs, od_law_arcs, .func (PySem.W.fnOf "_law_arcs" "_law_arcs" (defArgs s_law_arcs) (defBody s_law_arcs) (defScope s_law_arcs) .none kV_law_arcs dc_law_arcs pm_law_arcs an_law_arcs cd_law_arcs ct_law_arcs), sl_law_arcs⟩) (x_law_arcs : PySem.W.codeIn K cd_law_arcs "_law_arcs" = true) (k_law_arcs : PySem.W.keepIn K (.ref f_law_arcs) = true)
    (a_law_good : PySem.W.nsIn K mainGlobals "_law_good" = some (some (.ref f_law_good))) (l_law_good : K.lookup f_law_good = some ⟨oc_law_good, od_law_good, .func (PySem.W.fnOf "_law_good" "_law_good" (defArgs s_law_good) (defBody s_law_good) (defScope s_law_good) .none kV_law_good dc_law_good pm_law_good an_law_good cd_law_good ct_law_good), sl_law_good⟩) (x_law_good : PySem.W.codeIn K cd_law_good "_law_good" = true) (k_law_good : PySem.W.keepIn K (.ref f_law_good) = true)
    (a_law_some : PySem.W.nsIn K mainGlobals "_law_some" = some (some (.ref f_law_some))) (l_law_some : K.lookup f_law_some = some ⟨oc_law_some, od_law_some, .func (PySem.W.fnOf "_law_some" "_law_some" (defArgs s_law_some) (defBody s_law_some) (defScope s_law_some) .none kV_law_some dc_law_some pm_law_some an_law_some cd_law_some ct_law_some), sl_law_some⟩) (x_law_some : PySem.W.codeIn K cd_law_some "_law_some" = true) (k_law_some : PySem.W.keepIn K (.ref f_law_some) = true)
    (a_law_text : PySem.W.nsIn K mainGlobals "_law_text" = some (some (.ref f_law_text))) (l_law_text : K.lookup f_law_text = some ⟨oc_law_text, od_law_text, .func (PySem.W.fnOf "_law_text" "_law_text" (defArgs s_law_text) (defBody s_law_text) (defScope s_law_text) .none kV_law_text dc_law_text pm_law_text an_law_text cd_law_text ct_law_text), sl_law_text⟩) (x_law_text : PySem.W.codeIn K cd_law_text "_law_text" = true) (k_law_text : PySem.W.keepIn K (.ref f_law_text) = true)
    (a_law_read : PySem.W.nsIn K mainGlobals "_law_read" = some (some (.ref f_law_read))) (l_law_read : K.lookup f_law_read = some ⟨oc_law_read, od_law_read, .func (PySem.W.fnOf "_law_read" "_law_read" (defArgs s_law_read) (defBody s_law_read) (defScope s_law_read) .none kV_law_read dc_law_read pm_law_read an_law_read cd_law_read ct_law_read), sl_law_read⟩) (x_law_read : PySem.W.codeIn K cd_law_read "_law_read" = true) (k_law_read : PySem.W.keepIn K (.ref f_law_read) = true)
    (a_law : PySem.W.nsIn K mainGlobals "law" = some (some (.ref f_law))) (l_law : K.lookup f_law = some ⟨oc_law, od_law, .func (PySem.W.fnOf "law" "law" (defArgs s_law) (defBody s_law) (defScope s_law) .none kV_law dc_law pm_law an_law cd_law ct_law), sl_law⟩) (x_law : PySem.W.codeIn K cd_law "law" = true) (k_law : PySem.W.keepIn K (.ref f_law) = true)
    {t_MOST : Tok} (m_MOST : PySem.W.nsIn K mainGlobals "MOST" = some (some (.int 20 t_MOST)))
    (z_len : PySem.W.nsIn K mainGlobals "len" = some none) (z_range : PySem.W.nsIn K mainGlobals "range" = some none) (z_isinstance : PySem.W.nsIn K mainGlobals "isinstance" = some none) (z_int : PySem.W.nsIn K mainGlobals "int" = some none) (z_bool : PySem.W.nsIn K mainGlobals "bool" = some none) (z_list : PySem.W.nsIn K mainGlobals "list" = some none) (z_str : PySem.W.nsIn K mainGlobals "str" = some none) (z_reversed : PySem.W.nsIn K mainGlobals "reversed" = some none) (z_min : PySem.W.nsIn K mainGlobals "min" = some none) (z_max : PySem.W.nsIn K mainGlobals "max" = some none) (z_abs : PySem.W.nsIn K mainGlobals "abs" = some none) (z_sum : PySem.W.nsIn K mainGlobals "sum" = some none) (z_set : PySem.W.nsIn K mainGlobals "set" = some none) (z_tuple : PySem.W.nsIn K mainGlobals "tuple" = some none) (z_ValueError : PySem.W.nsIn K mainGlobals "ValueError" = some none)
    {C_RiverError : Addr}
    (eg_RiverError : PySem.W.nsIn K mainGlobals "RiverError" = some (some (.ref C_RiverError)))
    (ek_RiverError : PySem.W.keepIn K (.ref C_RiverError) = true)
    (eb_RiverError : PySem.W.subIn K (.ref C_RiverError) (.type "BaseException") = some true)
    (et_RiverError : PySem.W.typeIn K (.ref C_RiverError) = some (.type "type"))
    (ei_RiverError : PySem.W.isClsIn K C_RiverError = true)
    (ed_RiverError : PySem.W.hasDictIn K C_RiverError = true)
    {C_NotRead : Addr}
    (eg_NotRead : PySem.W.nsIn K mainGlobals "NotRead" = some (some (.ref C_NotRead)))
    (ek_NotRead : PySem.W.keepIn K (.ref C_NotRead) = true)
    (eb_NotRead : PySem.W.subIn K (.ref C_NotRead) (.type "BaseException") = some true)
    (et_NotRead : PySem.W.typeIn K (.ref C_NotRead) = some (.type "type"))
    (ei_NotRead : PySem.W.isClsIn K C_NotRead = true)
    (ed_NotRead : PySem.W.hasDictIn K C_NotRead = true)
    {C_NoArcs : Addr}
    (eg_NoArcs : PySem.W.nsIn K mainGlobals "NoArcs" = some (some (.ref C_NoArcs)))
    (ek_NoArcs : PySem.W.keepIn K (.ref C_NoArcs) = true)
    (eb_NoArcs : PySem.W.subIn K (.ref C_NoArcs) (.type "BaseException") = some true)
    (et_NoArcs : PySem.W.typeIn K (.ref C_NoArcs) = some (.type "type"))
    (ei_NoArcs : PySem.W.isClsIn K C_NoArcs = true)
    (ed_NoArcs : PySem.W.hasDictIn K C_NoArcs = true)
    (ex_NotRead : PySem.W.excIn K C_NotRead [.type "ValueError", .type "Exception", .type "BaseException", .type "object"] "ValueError.__new__" = true)
    (e1_NotRead : PySem.W.findIn K (.ref C_NotRead) "__getattribute__" = some (some (.builtin "BaseException.__getattribute__")))
    (e2_NotRead : PySem.W.findIn K (.ref C_NotRead) "__getattr__" = some none)
    (e3_NotRead : PySem.W.findIn K (.ref C_NotRead) "__class__" = some (some (.builtin "object.__class__")))
    (e4_NotRead : PySem.W.mroIn K C_NotRead (.type "object") = some true)
    (ev_NotRead : PySem.W.subIn K (.ref C_NotRead) (.type "ValueError") = some true)
    (eo1 : PySem.W.specialIn K (.builtin "object.__class__") "__get__" = some (some (.builtin "getset_descriptor.__get__")))
    (eo2 : PySem.W.takesIn K (.builtin "object.__class__") = some true)
    (es_NotRead_RiverError : PySem.W.subIn K (.ref C_NotRead) (.ref C_RiverError) = some true)
    (en_NotRead_RiverError : (Value.ref C_NotRead == Value.ref C_RiverError) = false)
    (es_NotRead_NoArcs : PySem.W.subIn K (.ref C_NotRead) (.ref C_NoArcs) = some false)
    (en_NotRead_NoArcs : (Value.ref C_NotRead == Value.ref C_NoArcs) = false)
    : ∃ fd : FuncData, (∀ (s : Shared) (v : Value), BindsTo s fd ⟨[v], []⟩ [("script", v)]) ∧ ∀ base : Heap, K.In base → base.Ns mainGlobals mg → FnOk l.prog w K mg base CX0 4 fa fd ["script"] (spLaw K) := by
  have e := hfa.symm.trans (PySem.W.mg_of X G a_law)
  cases e
  have B : Blt mg := ⟨PySem.W.mg_none_of X G z_len, PySem.W.mg_none_of X G z_range, PySem.W.mg_none_of X G z_isinstance, PySem.W.mg_none_of X G z_int, PySem.W.mg_none_of X G z_bool, PySem.W.mg_none_of X G z_list, PySem.W.mg_none_of X G z_str, PySem.W.mg_none_of X G z_reversed, PySem.W.mg_none_of X G z_min, PySem.W.mg_none_of X G z_max, PySem.W.mg_none_of X G z_abs, PySem.W.mg_none_of X G z_sum, PySem.W.mg_none_of X G z_set, PySem.W.mg_none_of X G z_tuple, PySem.W.mg_none_of X G z_ValueError⟩
  have g_MOST := PySem.W.mg_of X G m_MOST
  have D_is_arcs : Dfn K mg "is_arcs" s_is_arcs ["some"] := ⟨f_is_arcs, _, fun_mk (st := s_is_arcs) l_is_arcs x_is_arcs k_is_arcs, PySem.W.mg_of X G a_is_arcs, (fun_mk (st := s_is_arcs) l_is_arcs x_is_arcs k_is_arcs).binds (ps := ["some"]) fun _ _ _ _ _ _ us hl => match us, hl with | [_], _ => rfl⟩
  have D_arcs_of : Dfn K mg "arcs_of" s_arcs_of ["word"] := ⟨f_arcs_of, _, fun_mk (st := s_arcs_of) l_arcs_of x_arcs_of k_arcs_of, PySem.W.mg_of X G a_arcs_of, (fun_mk (st := s_arcs_of) l_arcs_of x_arcs_of k_arcs_of).binds (ps := ["word"]) fun _ _ _ _ _ _ us hl => match us, hl with | [_], _ => rfl⟩
  have D_law_cell_at : Dfn K mg "_law_cell_at" s_law_cell_at ["script", "k"] := ⟨f_law_cell_at, _, fun_mk (st := s_law_cell_at) l_law_cell_at x_law_cell_at k_law_cell_at, PySem.W.mg_of X G a_law_cell_at, (fun_mk (st := s_law_cell_at) l_law_cell_at x_law_cell_at k_law_cell_at).binds (ps := ["script", "k"]) fun _ _ _ _ _ _ us hl => match us, hl with | [_, _], _ => rfl⟩
  have D_law_whole : Dfn K mg "_law_whole" s_law_whole ["found"] := ⟨f_law_whole, _, fun_mk (st := s_law_whole) l_law_whole x_law_whole k_law_whole, PySem.W.mg_of X G a_law_whole, (fun_mk (st := s_law_whole) l_law_whole x_law_whole k_law_whole).binds (ps := ["found"]) fun _ _ _ _ _ _ us hl => match us, hl with | [_], _ => rfl⟩
  have D_law_numbers : Dfn K mg "_law_numbers" s_law_numbers ["found", "due"] := ⟨f_law_numbers, _, fun_mk (st := s_law_numbers) l_law_numbers x_law_numbers k_law_numbers, PySem.W.mg_of X G a_law_numbers, (fun_mk (st := s_law_numbers) l_law_numbers x_law_numbers k_law_numbers).binds (ps := ["found", "due"]) fun _ _ _ _ _ _ us hl => match us, hl with | [_, _], _ => rfl⟩
  have D_law_arcs : Dfn K mg "_law_arcs" s_law_arcs ["script", "at", "size"] := ⟨f_law_arcs, _, fun_mk (st := s_law_arcs) l_law_arcs x_law_arcs k_law_arcs, PySem.W.mg_of X G a_law_arcs, (fun_mk (st := s_law_arcs) l_law_arcs x_law_arcs k_law_arcs).binds (ps := ["script", "at", "size"]) fun _ _ _ _ _ _ us hl => match us, hl with | [_, _, _], _ => rfl⟩
  have D_law_good : Dfn K mg "_law_good" s_law_good ["some"] := ⟨f_law_good, _, fun_mk (st := s_law_good) l_law_good x_law_good k_law_good, PySem.W.mg_of X G a_law_good, (fun_mk (st := s_law_good) l_law_good x_law_good k_law_good).binds (ps := ["some"]) fun _ _ _ _ _ _ us hl => match us, hl with | [_], _ => rfl⟩
  have D_law_some : Dfn K mg "_law_some" s_law_some ["script"] := ⟨f_law_some, _, fun_mk (st := s_law_some) l_law_some x_law_some k_law_some, PySem.W.mg_of X G a_law_some, (fun_mk (st := s_law_some) l_law_some x_law_some k_law_some).binds (ps := ["script"]) fun _ _ _ _ _ _ us hl => match us, hl with | [_], _ => rfl⟩
  have D_law_text : Dfn K mg "_law_text" s_law_text ["script"] := ⟨f_law_text, _, fun_mk (st := s_law_text) l_law_text x_law_text k_law_text, PySem.W.mg_of X G a_law_text, (fun_mk (st := s_law_text) l_law_text x_law_text k_law_text).binds (ps := ["script"]) fun _ _ _ _ _ _ us hl => match us, hl with | [_], _ => rfl⟩
  have D_law_read : Dfn K mg "_law_read" s_law_read ["text"] := ⟨f_law_read, _, fun_mk (st := s_law_read) l_law_read x_law_read k_law_read, PySem.W.mg_of X G a_law_read, (fun_mk (st := s_law_read) l_law_read x_law_read k_law_read).binds (ps := ["text"]) fun _ _ _ _ _ _ us hl => match us, hl with | [_], _ => rfl⟩
  have g_RiverError := PySem.W.mg_of X G eg_RiverError
  have g_NotRead := PySem.W.mg_of X G eg_NotRead
  have g_NoArcs := PySem.W.mg_of X G eg_NoArcs
  have x_NotRead : ExcF K mg "NotRead" C_NotRead := ⟨g_NotRead, ex_NotRead, ek_NotRead, eb_NotRead, et_NotRead, ⟨e1_NotRead, e2_NotRead, eb_NotRead, ed_NotRead, e3_NotRead, eo1, eo2, e4_NotRead⟩⟩
  have q_NotRead_RiverError := kit_r en_NotRead_RiverError ei_RiverError et_RiverError es_NotRead_RiverError
  have q_NotRead_NotRead := kit_same (K := K) C_NotRead
  have q_NotRead_NoArcs := kit_r en_NotRead_NoArcs ei_NoArcs et_NoArcs es_NotRead_NoArcs
  have q_NotRead_V := kit_t (T := "ValueError") (by decide +kernel) ev_NotRead
  have m_NotRead := PySem.W.exm_ref eb_RiverError ed_RiverError et_RiverError es_NotRead_RiverError
  refine ⟨PySem.W.fnOf "law" "law" (defArgs s_law) (defBody s_law) (defScope s_law) .none kV_law dc_law pm_law an_law cd_law ct_law, fun s v => .of_eq rfl, fun base _ _ => ?_⟩
  have c_law_cell_at := ok_law_cell_at (P := l.prog) (w := w) (K := K) (mg := mg) (base := base) D_law_cell_at B
  have c_law_whole := ok_law_whole (P := l.prog) (w := w) (K := K) (mg := mg) (base := base) D_law_whole B
  have c_law_numbers := ok_law_numbers (P := l.prog) (w := w) (K := K) (mg := mg) (base := base) D_law_numbers B c_law_whole
  have c_law_arcs := ok_law_arcs (P := l.prog) (w := w) (K := K) (mg := mg) (base := base) D_law_arcs B c_law_cell_at
  have c_law_good := ok_law_good (P := l.prog) (w := w) (K := K) (mg := mg) (base := base) D_law_good B
  have c_is_arcs := ok_is_arcs (P := l.prog) (w := w) (K := K) (mg := mg) (base := base) D_is_arcs B g_MOST
  have c_law_some := ok_law_some (P := l.prog) (w := w) (K := K) (mg := mg) (base := base) D_law_some B c_law_cell_at c_law_arcs
  have c_law_text := ok_law_text (P := l.prog) (w := w) (K := K) (mg := mg) (base := base) D_law_text B c_law_cell_at c_law_arcs
  have c_law_read := ok_law_read (P := l.prog) (w := w) (K := K) (mg := mg) (base := base) D_law_read B
  have c_arcs_of := ok_arcs_of (P := l.prog) (w := w) (K := K) (mg := mg) (base := base) D_arcs_of B g_MOST x_NotRead
  exact ok_law (fun_mk (st := s_law) l_law x_law k_law) B c_law_some c_is_arcs c_law_good c_law_text c_law_read c_arcs_of c_law_numbers x_NotRead g_NotRead g_NoArcs g_RiverError q_NotRead_NotRead q_NotRead_V q_NotRead_NoArcs m_NotRead
end Rv
open PySem PySem.W PyProof.Rows
set_option maxHeartbeats 0 in
theorem PySem.Challenge.cw_riverloops_k02_what_is_none_holds : PySem.Challenge.rw_riverloops_k02_what_is_none.Holds := by
  w_on; o_law; k_head; (case hw => w_witness2)
  k_fill
  refine L2.walk_of (l := PySem.Challenge.rw_riverloops_k02_what_is_none) (n := 63) (k := 4) (x := "script") (CX := fun _ => L2.CX0) (sp := fun w => Rv.spLaw _) rfl (by decide) rfl ⟨rfl, by decide, by decide⟩ (fun w h Y => PySem.W.kIn_of Y) ?F (fun _ _ a ns hl _ hS => ⟨a, ns, rfl, hS, hl, fun _ => rfl⟩) (fun _ _ _ _ _ h => h)
  case F =>
    intro w mg fa h KX G hmg
    refine' Rv.all_mk KX G hmg ?a_is_arcs ?l_is_arcs ?x_is_arcs ?k_is_arcs ?a_arcs_of ?l_arcs_of ?x_arcs_of ?k_arcs_of ?a_law_cell_at ?l_law_cell_at ?x_law_cell_at ?k_law_cell_at ?a_law_whole ?l_law_whole ?x_law_whole ?k_law_whole ?a_law_numbers ?l_law_numbers ?x_law_numbers ?k_law_numbers ?a_law_arcs ?l_law_arcs ?x_law_arcs ?k_law_arcs ?a_law_good ?l_law_good ?x_law_good ?k_law_good ?a_law_some ?l_law_some ?x_law_some ?k_law_some ?a_law_text ?l_law_text ?x_law_text ?k_law_text ?a_law_read ?l_law_read ?x_law_read ?k_law_read ?a_law ?l_law ?x_law ?k_law ?m_MOST ?z_len ?z_range ?z_isinstance ?z_int ?z_bool ?z_list ?z_str ?z_reversed ?z_min ?z_max ?z_abs ?z_sum ?z_set ?z_tuple ?z_ValueError ?eg_RiverError ?ek_RiverError ?eb_RiverError ?et_RiverError ?ei_RiverError ?ed_RiverError ?eg_NotRead ?ek_NotRead ?eb_NotRead ?et_NotRead ?ei_NotRead ?ed_NotRead ?eg_NoArcs ?ek_NoArcs ?eb_NoArcs ?et_NoArcs ?ei_NoArcs ?ed_NoArcs ?ex_NotRead ?e1_NotRead ?e2_NotRead ?e3_NotRead ?e4_NotRead ?ev_NotRead ?eo1 ?eo2 ?es_NotRead_RiverError ?en_NotRead_RiverError ?es_NotRead_NoArcs ?en_NotRead_NoArcs
    (case a_is_arcs => k_is); (case l_is_arcs => k_is); (case x_is_arcs => k_is); (case k_is_arcs => k_is); (case a_arcs_of => k_is); (case l_arcs_of => k_is); (case x_arcs_of => k_is); (case k_arcs_of => k_is); (case a_law_cell_at => k_is); (case l_law_cell_at => k_is); (case x_law_cell_at => k_is); (case k_law_cell_at => k_is); (case a_law_whole => k_is); (case l_law_whole => k_is); (case x_law_whole => k_is); (case k_law_whole => k_is); (case a_law_numbers => k_is); (case l_law_numbers => k_is); (case x_law_numbers => k_is); (case k_law_numbers => k_is); (case a_law_arcs => k_is); (case l_law_arcs => k_is); (case x_law_arcs => k_is); (case k_law_arcs => k_is); (case a_law_good => k_is); (case l_law_good => k_is); (case x_law_good => k_is); (case k_law_good => k_is); (case a_law_some => k_is); (case l_law_some => k_is); (case x_law_some => k_is); (case k_law_some => k_is); (case a_law_text => k_is); (case l_law_text => k_is); (case x_law_text => k_is); (case k_law_text => k_is); (case a_law_read => k_is); (case l_law_read => k_is); (case x_law_read => k_is); (case k_law_read => k_is); (case a_law => k_is); (case l_law => k_is); (case x_law => k_is); (case k_law => k_is); (case m_MOST => k_is); (case z_len => k_is); (case z_range => k_is); (case z_isinstance => k_is); (case z_int => k_is); (case z_bool => k_is); (case z_list => k_is); (case z_str => k_is); (case z_reversed => k_is); (case z_min => k_is); (case z_max => k_is); (case z_abs => k_is); (case z_sum => k_is); (case z_set => k_is); (case z_tuple => k_is); (case z_ValueError => k_is); (case eg_RiverError => k_is); (case ek_RiverError => k_is); (case eb_RiverError => k_is); (case et_RiverError => k_is); (case ei_RiverError => k_is); (case ed_RiverError => k_is); (case eg_NotRead => k_is); (case ek_NotRead => k_is); (case eb_NotRead => k_is); (case et_NotRead => k_is); (case ei_NotRead => k_is); (case ed_NotRead => k_is); (case eg_NoArcs => k_is); (case ek_NoArcs => k_is); (case eb_NoArcs => k_is); (case et_NoArcs => k_is); (case ei_NoArcs => k_is); (case ed_NoArcs => k_is); (case ex_NotRead => k_exc); (case e1_NotRead => k_is); (case e2_NotRead => k_is); (case e3_NotRead => k_is); (case e4_NotRead => k_is); (case ev_NotRead => k_is); (case eo1 => k_is); (case eo2 => k_is); (case es_NotRead_RiverError => k_is); (case en_NotRead_RiverError => first | rfl | decide); (case es_NotRead_NoArcs => k_is); (case en_NotRead_NoArcs => first | rfl | decide)
