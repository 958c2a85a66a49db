import PyProof.Rows.All
import Wide.All
import OpenK.AllK
import Wide.FinOn
import PySem.Challenge.RW_riverloops_k08_whole_one_road
import HandS.ForMost
import HandS.IsInst
import HandS.RevRange
import HandS.Style
import HandS.Conv
import HandS.SetFor
import HandS.More
import HandS.Walk
import KE.Datum
import HandS.Codes
set_option Elab.async false
set_option linter.all false
set_option maxRecDepth 100000
set_option maxHeartbeats 4000000

set_option linter.all false
namespace Rm

/-! ## lists of whole numbers that tell arcs -/
def g (s : List Int) (k : Nat) : Int := s.getD k 0
def OkAt (s : List Int) (k : Nat) : Prop := 0 ≤ g s k ∧ g s k < (s.length : Int) ∧ g s k ≠ (k : Int) ∧ g s (g s k).toNat = (k : Int)
def NcI (s : List Int) : Prop := ∀ j k : Nat, j < k → k < s.length → (k : Int) < g s j → g s j < g s k → False
def Good (s : List Int) : Prop := (2 ≤ s.length ∧ s.length ≤ 40) ∧ (∀ k : Nat, k < s.length → OkAt s k) ∧ NcI s
def opens (s : List Int) (k : Nat) : List Nat := (List.range k).filter (fun j => decide ((k : Int) ≤ g s j))
structure Stage (s : List Int) (k : Nat) : Prop where
  ok : ∀ j : Nat, j < k → OkAt s j
  top : ∀ j : Nat, j < k → g s j < (j : Int) → (opens s j).getLast? = some (g s j).toNat

theorem mem_opens {s : List Int} {k j : Nat} : j ∈ opens s k ↔ j < k ∧ (k : Int) ≤ g s j := by
  simp [opens, List.mem_filter, List.mem_range]
theorem opens_sorted (s : List Int) (k : Nat) : (opens s k).Pairwise (· < ·) := List.Pairwise.filter _ List.pairwise_lt_range
theorem opens_len (s : List Int) (k : Nat) : (opens s k).length ≤ k := by
  have h := List.length_filter_le (fun j : Nat => decide ((k : Int) ≤ g s j)) (List.range k)
  rw [List.length_range] at h
  exact h
theorem stage0 (s : List Int) : Stage s 0 := ⟨fun j h => absurd h (Nat.not_lt_zero j), fun j h => absurd h (Nat.not_lt_zero j)⟩
theorem opens0 (s : List Int) : opens s 0 = [] := rfl
/-- within the checked places, partners are one to one -/
theorem okAt_inj {s : List Int} {i j : Nat} (hi : OkAt s i) (e : g s i = (j : Int)) : g s j = (i : Int) := by
  have h := hi.2.2.2
  rw [e] at h
  simpa using h
theorem opens_succ (s : List Int) (k : Nat) : opens s (k + 1) = (List.range k).filter (fun j => decide (((k + 1 : Nat) : Int) ≤ g s j)) ++ (if ((k + 1 : Nat) : Int) ≤ g s k then [k] else []) := by
  unfold opens
  rw [List.range_succ, List.filter_append]
  congr 1
  by_cases h : ((k + 1 : Nat) : Int) ≤ g s k
  · rw [if_pos h]
    exact List.filter_cons_of_pos (p := fun j => decide (((k + 1 : Nat) : Int) ≤ g s j)) (decide_eq_true h)
  · rw [if_neg h]
    exact List.filter_cons_of_neg (p := fun j => decide (((k + 1 : Nat) : Int) ≤ g s j)) (fun z => h (of_decide_eq_true z))
theorem opens_push {s : List Int} {k : Nat} (st : Stage s k) (hk : (k : Int) < g s k) : opens s (k + 1) = opens s k ++ [k] := by
  rw [opens_succ, if_pos (by omega)]
  congr 1
  unfold opens
  apply List.filter_congr
  intro j hj
  rw [List.mem_range] at hj
  have hne : g s j ≠ (k : Int) := fun e => by
    have := okAt_inj (st.ok j hj) e
    omega
  exact decide_eq_decide.mpr (by omega)
theorem filter_ne_last : ∀ (l : List Nat) (t : Nat), (l ++ [t]).Nodup → (l ++ [t]).filter (fun j => decide (j ≠ t)) = l := by
  intro l t h
  rw [List.filter_append]
  have h1 : l.filter (fun j => decide (j ≠ t)) = l := by
    apply List.filter_eq_self.mpr
    intro a ha
    rw [List.nodup_append] at h
    exact decide_eq_true (h.2.2 a ha t (List.mem_singleton.mpr rfl))
  rw [h1]
  simp
theorem nodup_of_sorted {l : List Nat} (h : l.Pairwise (· < ·)) : l.Nodup := h.imp fun h => Nat.ne_of_lt h
theorem opens_pop {s : List Int} {k : Nat} {l : List Nat} {t : Nat} (st : Stage s k) (ok : OkAt s k) (hk : g s k < (k : Int)) (e : opens s k = l ++ [t]) (ht : (t : Int) = g s k) : opens s (k + 1) = l := by
  rw [opens_succ, if_neg (by omega), List.append_nil]
  have h1 : (List.range k).filter (fun j => decide (((k + 1 : Nat) : Int) ≤ g s j)) = (opens s k).filter (fun j => decide (j ≠ t)) := by
    unfold opens
    rw [List.filter_filter]
    apply List.filter_congr
    intro j hj
    rw [List.mem_range] at hj
    have hje : g s j = (k : Int) ↔ j = t := by
      constructor
      · intro q
        have := okAt_inj (st.ok j hj) q
        omega
      · intro q
        subst q
        have := okAt_inj (j := j) ok ht.symm
        exact this
    by_cases q : j = t
    · have := hje.mpr q
      simp [q]
      subst q
      omega
    · have : g s j ≠ (k : Int) := fun z => q (hje.mp z)
      simp [q]
      omega
  rw [h1, e]
  exact filter_ne_last l t (e ▸ nodup_of_sorted (opens_sorted s k))
/-- at a place that leads back something is open -/
theorem opens_ne {s : List Int} {k : Nat} (ok : OkAt s k) (hk : g s k < (k : Int)) : ∃ l t, opens s k = l ++ [t] := by
  have hm : (g s k).toNat ∈ opens s k := by
    rw [mem_opens]
    have h := ok.2.2.2
    have h0 := ok.1
    constructor
    · omega
    · omega
  rcases List.eq_nil_or_concat (opens s k) with e | ⟨l, t, e⟩
  · rw [e] at hm; cases hm
  · exact ⟨l, t, by rw [e]; exact List.concat_eq_append⟩
theorem stage_push {s : List Int} {k : Nat} (st : Stage s k) (ok : OkAt s k) (hk : (k : Int) < g s k) : Stage s (k + 1) := by
  refine ⟨fun j hj => ?_, fun j hj h => ?_⟩
  · by_cases e : j = k
    · subst e; exact ok
    · exact st.ok j (by omega)
  · by_cases e : j = k
    · subst e; omega
    · exact st.top j (by omega) h
theorem stage_pop {s : List Int} {k : Nat} {l : List Nat} {t : Nat} (st : Stage s k) (ok : OkAt s k) (e : opens s k = l ++ [t]) (ht : (t : Int) = g s k) : Stage s (k + 1) := by
  refine ⟨fun j hj => ?_, fun j hj h => ?_⟩
  · by_cases e : j = k
    · subst e; exact ok
    · exact st.ok j (by omega)
  · by_cases q : j = k
    · subst q
      rw [e, List.getLast?_append, ← ht]
      simp
    · exact st.top j (by omega) h
/-- the top is not the partner: two arcs cross -/
theorem stage_cross {s : List Int} {k : Nat} {l : List Nat} {t : Nat} (st : Stage s k) (ok : OkAt s k) (hk : g s k < (k : Int)) (hl : k < s.length) (e : opens s k = l ++ [t]) (ht : (t : Int) ≠ g s k) : ¬ NcI s := by
  intro nc
  have hm : (g s k).toNat ∈ opens s k := by
    rw [mem_opens]
    have h := ok.2.2.2
    have h0 := ok.1
    constructor
    · omega
    · omega
  have htm : t ∈ opens s k := by rw [e]; simp
  rw [mem_opens] at htm
  have hsrt := opens_sorted s k
  rw [e, List.pairwise_append] at hsrt
  rw [e, List.mem_append] at hm
  have h0 := ok.1
  have hlt : (g s k).toNat < t := by
    rcases hm with hm | hm
    · exact hsrt.2.2 _ hm t (by simp)
    · rw [List.mem_singleton] at hm
      omega
  have hne : g s t ≠ (k : Int) := fun q => by
    have := okAt_inj (st.ok t htm.1) q
    omega
  have hp := ok.2.2.2
  exact nc (g s k).toNat t hlt (by omega) (by omega) (by omega)
theorem stage_good {s : List Int} (h : 2 ≤ s.length ∧ s.length ≤ 40) (st : Stage s s.length) : Good s := by
  refine ⟨h, st.ok, fun j k hjk hk h1 h2 => ?_⟩
  have okj := st.ok j (by omega)
  have okk := st.ok k hk
  -- at the place where j's arc ends
  obtain ⟨e0, e1, e2, e3⟩ := okj
  have hm : g s (g s j).toNat < ((g s j).toNat : Int) := by omega
  have ht := st.top (g s j).toNat (by omega) hm
  rw [e3] at ht
  have hkm : k ∈ opens s (g s j).toNat := by
    rw [mem_opens]
    constructor <;> omega
  rcases List.eq_nil_or_concat (opens s (g s j).toNat) with q | ⟨l, t, q⟩
  · rw [q] at hkm; cases hkm
  · rw [List.concat_eq_append] at q
    rw [q, List.getLast?_append] at ht
    simp at ht
    have hsrt := opens_sorted s (g s j).toNat
    rw [q, List.pairwise_append] at hsrt
    rw [q, List.mem_append] at hkm
    rcases hkm with hkm | hkm
    · have := hsrt.2.2 _ hkm t (by simp)
      omega
    · rw [List.mem_singleton] at hkm
      omega
/-- of a good list the top at a place that leads back is its partner -/
theorem good_top {s : List Int} (G : Good s) {k : Nat} (hk : k < s.length) (hb : g s k < (k : Int)) : ∃ (l : List Nat) (t : Nat), opens s k = l ++ [t] ∧ (t : Int) = g s k := by
  obtain ⟨l, t, e⟩ := opens_ne (G.2.1 k hk) hb
  refine ⟨l, t, e, ?_⟩
  have okk := G.2.1 k hk
  have hm : (g s k).toNat ∈ opens s k := by
    rw [mem_opens]
    have h := okk.2.2.2
    have h0 := okk.1
    constructor <;> omega
  have htm : t ∈ opens s k := by rw [e]; simp
  rw [mem_opens] at htm
  have hsrt := opens_sorted s k
  rw [e, List.pairwise_append] at hsrt
  rw [e, List.mem_append] at hm
  have h0 := okk.1
  rcases hm with hm | hm
  · have hlt := hsrt.2.2 _ hm t (by simp)
    have hne : g s t ≠ (k : Int) := fun q => by
      have := okAt_inj (G.2.1 t (by omega)) q
      omega
    have hp := okk.2.2.2
    exact (G.2.2 (g s k).toNat t hlt (by omega) (by omega) (by omega)).elim
  · rw [List.mem_singleton] at hm
    omega
theorem good_stage {s : List Int} (G : Good s) : ∀ k : Nat, k ≤ s.length → Stage s k := fun k hk =>
  ⟨fun j hj => G.2.1 j (by omega), fun j hj h => by
    obtain ⟨l, t, e, ht⟩ := good_top G (show j < s.length by omega) h
    rw [e, List.getLast?_append, ← ht]
    simp⟩
end Rm

set_option linter.all false
namespace Rm
/-! ## arcs by lists of naturals -/
def at' (a : List Nat) (k : Nat) : Nat := a.getD k 0
structure Arcs (m : Nat) (f : Nat → Nat) : Prop where
  lt : ∀ k, k < m → f k < m
  ne : ∀ k, k < m → f k ≠ k
  inv : ∀ k, k < m → f (f k) = k
  nc : ∀ j k, j < k → k < m → k < f j → f j < f k → False
/-- a list of 2 n places that tells n arcs -/
structure ArcsL (n : Nat) (a : List Nat) : Prop where
  len : a.length = 2 * n
  arcs : Arcs (2 * n) (at' a)
abbrev zs (a : List Nat) : List Int := a.map (fun n : Nat => (n : Int))
theorem g_zs (a : List Nat) (k : Nat) : g (zs a) k = ((at' a k : Nat) : Int) := by
  simp only [g, at', zs, List.getD_eq_getElem?_getD, List.getElem?_map]
  cases a[k]? <;> simp
theorem len_zs (a : List Nat) : (zs a).length = a.length := by simp [zs]
theorem arcs_good {n : Nat} {a : List Nat} (h : ArcsL n a) (h1 : 1 ≤ n) (h2 : n ≤ 20) : Good (zs a) := by
  have hl := h.len
  refine ⟨by rw [len_zs]; omega, fun k hk => ?_, fun j k hjk hk h1 h2 => ?_⟩
  · rw [len_zs] at hk
    have a1 := h.arcs.lt k (by omega)
    have a2 := h.arcs.ne k (by omega)
    have a3 := h.arcs.inv k (by omega)
    refine ⟨?_, ?_, ?_, ?_⟩
    · rw [g_zs]; omega
    · rw [g_zs, len_zs]; omega
    · rw [g_zs]; omega
    · rw [g_zs, g_zs, Int.toNat_natCast, a3]
  · rw [len_zs] at hk
    rw [g_zs] at h1
    rw [g_zs, g_zs] at h2
    exact h.arcs.nc j k hjk (by omega) (by omega) (by omega)
/-! ## arcs built with a pile -/
structure Bld (m k : Nat) (fd st : List Nat) : Prop where
  len : fd.length = m
  km : k ≤ m
  srt : st.Pairwise (· < ·)
  slt : ∀ j, j ∈ st → j < k
  cl : ∀ j, j < k → j ∉ st → at' fd j < k ∧ at' fd j ∉ st ∧ at' fd j ≠ j ∧ at' fd (at' fd j) = j
  nc : ∀ i j, i < j → j < k → i ∉ st → j ∉ st → j < at' fd i → at' fd i < at' fd j → False
  cov : ∀ i j, i < k → i ∉ st → j ∈ st → i < j → j < at' fd i → False
theorem bld0 (m : Nat) (fd : List Nat) (h : fd.length = m) : Bld m 0 fd [] :=
  ⟨h, Nat.zero_le _, .nil, fun _ h => (nomatch h), fun _ h => absurd h (Nat.not_lt_zero _), fun _ _ _ h => absurd h (Nat.not_lt_zero _), fun _ _ h => absurd h (Nat.not_lt_zero _)⟩
theorem bld_push {m k : Nat} {fd st : List Nat} (B : Bld m k fd st) (hk : k < m) : Bld m (k + 1) fd (st ++ [k]) := by
  have hm : ∀ j, j ∈ st ++ [k] ↔ j ∈ st ∨ j = k := fun j => by simp
  refine ⟨B.len, hk, ?_, fun j h => ?_, fun j hj hn => ?_, fun i j hij hj hi hjn h1 h2 => ?_, fun i j hi hin hj h1 h2 => ?_⟩
  · rw [List.pairwise_append]
    exact ⟨B.srt, List.pairwise_singleton _ _, fun a ha b hb => by rw [List.mem_singleton] at hb; rw [hb]; exact B.slt a ha⟩
  · rcases (hm j).mp h with h | h
    · have := B.slt j h; omega
    · omega
  · rw [hm] at hn
    obtain ⟨c1, c2, c3, c4⟩ := B.cl j (by omega) (fun z => hn (.inl z))
    refine ⟨by omega, fun z => ?_, c3, c4⟩
    rcases (hm _).mp z with z | z
    · exact c2 z
    · omega
  · rw [hm] at hi hjn
    exact B.nc i j hij (by omega) (fun z => hi (.inl z)) (fun z => hjn (.inl z)) h1 h2
  · rw [hm] at hin
    rcases (hm j).mp hj with hj | hj
    · exact B.cov i j (by omega) (fun z => hin (.inl z)) hj h1 h2
    · have := (B.cl i (by omega) (fun z => hin (.inl z))).1
      omega
theorem at_set {a : List Nat} {k t j : Nat} (h : k < a.length) : at' (a.set k t) j = if j = k then t else at' a j := by
  unfold at'
  rw [List.getD_eq_getElem?_getD, List.getD_eq_getElem?_getD, List.getElem?_set]
  by_cases e : k = j
  · subst e
    simp [h]
  · rw [if_neg e, if_neg (fun z => e z.symm)]
theorem bld_pop {m k t : Nat} {fd l : List Nat} (B : Bld m k fd (l ++ [t])) (hk : k < m) : Bld m (k + 1) ((fd.set k t).set t k) l := by
  have hm : ∀ j, j ∈ l ++ [t] ↔ j ∈ l ∨ j = t := fun j => by simp
  have ht : t < k := B.slt t (by simp)
  have hsr := List.pairwise_append.mp B.srt
  have hlt : ∀ j, j ∈ l → j < t := fun j hj => hsr.2.2 j hj t (by simp)
  have hl := B.len
  have ha : ∀ j, at' ((fd.set k t).set t k) j = if j = t then k else if j = k then t else at' fd j := fun j => by
    rw [at_set (by rw [List.length_set]; omega), at_set (by omega)]
  have old : ∀ j, j < k + 1 → j ∉ l → j = t ∨ j = k ∨ (j < k ∧ j ∉ l ++ [t]) := fun j h1 h2 => by
    by_cases e : j = t
    · exact .inl e
    · by_cases e2 : j = k
      · exact .inr (.inl e2)
      · refine .inr (.inr ⟨by omega, fun z => ?_⟩)
        rcases (hm j).mp z with z | z
        · exact h2 z
        · exact e z
  have hao : ∀ j, j < k → j ∉ l ++ [t] → at' ((fd.set k t).set t k) j = at' fd j := fun j h1 h2 => by
    rw [ha, if_neg (fun z => h2 ((hm j).mpr (.inr z))), if_neg (by omega)]
  have hat : at' ((fd.set k t).set t k) t = k := by rw [ha, if_pos rfl]
  have hak : at' ((fd.set k t).set t k) k = t := by rw [ha, if_neg (by omega), if_pos rfl]
  refine ⟨by rw [List.length_set, List.length_set]; exact hl, hk, hsr.1, fun j h => ?_, fun j hj hn => ?_, fun i j hij hj hi hjn h1 h2 => ?_, fun i j hi hin hj h1 h2 => ?_⟩
  · have := hlt j h; omega
  · rcases old j hj hn with e | e | ⟨e1, e2⟩
    · subst e
      rw [hat]
      refine ⟨by omega, fun z => ?_, by omega, hak⟩
      have := hlt _ z; omega
    · subst e
      rw [hak]
      refine ⟨by omega, fun z => ?_, by omega, hat⟩
      have := hlt _ z; omega
    · obtain ⟨c1, c2, c3, c4⟩ := B.cl j e1 e2
      rw [hao j e1 e2, hao _ c1 c2]
      exact ⟨by omega, fun z => c2 ((hm _).mpr (.inl z)), c3, c4⟩
  · rcases old i (by omega) hi with e | e | ⟨e1, e2⟩
    · subst e
      rw [hat] at h1 h2
      rcases old j hj hjn with f | f | ⟨f1, f2⟩
      · omega
      · omega
      · rw [hao j f1 f2] at h2
        have := (B.cl j f1 f2).1
        omega
    · omega
    · rw [hao i e1 e2] at h1 h2
      have c1 := (B.cl i e1 e2).1
      rcases old j hj hjn with f | f | ⟨f1, f2⟩
      · subst f
        exact B.cov i j e1 e2 (by simp) hij h1
      · omega
      · rw [hao j f1 f2] at h2
        exact B.nc i j hij f1 e2 f2 h1 h2
  · have hjt := hlt j hj
    rcases old i hi hin with e | e | ⟨e1, e2⟩
    · omega
    · omega
    · rw [hao i e1 e2] at h2
      exact B.cov i j e1 e2 (by simp [hj]) h1 h2
theorem bld_arcs {n : Nat} {fd : List Nat} (B : Bld (2 * n) (2 * n) fd []) : ArcsL n fd :=
  ⟨B.len, fun k h => (B.cl k h (fun z => nomatch z)).1, fun k h => (B.cl k h (fun z => nomatch z)).2.2.1, fun k h => (B.cl k h (fun z => nomatch z)).2.2.2,
   fun j k a b c d => B.nc j k a b (fun z => nomatch z) (fun z => nomatch z) c d⟩
end Rm

set_option linter.all false
namespace Rm
/-! ## the word of arcs, by code points -/
def wcs (s : List Int) : List Nat := (List.range s.length).map fun k : Nat => if (k : Int) < g s k then 40 else 41
theorem wcs_len (s : List Int) : (wcs s).length = s.length := by simp [wcs]
theorem wcs_get {s : List Int} {k : Nat} (h : k < s.length) : (wcs s)[k]? = some (if (k : Int) < g s k then 40 else 41) := by
  unfold wcs
  rw [List.getElem?_map, List.getElem?_range h]
  rfl
theorem opens_end {s : List Int} (G : Good s) : opens s s.length = [] := by
  rw [List.eq_nil_iff_forall_not_mem]
  intro j hj
  rw [mem_opens] at hj
  have := (G.2.1 j hj.1).2.1
  omega
theorem g_set {s : List Int} {k j : Nat} {t : Int} (h : k < s.length) : g (s.set k t) j = if j = k then t else g s j := by
  unfold g
  rw [List.getD_eq_getElem?_getD, List.getD_eq_getElem?_getD, List.getElem?_set]
  by_cases e : k = j
  · subst e
    simp [h]
  · rw [if_neg e, if_neg (fun z => e z.symm)]
theorem ext_g {s t : List Int} (hl : s.length = t.length) (h : ∀ k : Nat, k < t.length → g s k = g t k) : s = t := by
  apply List.ext_getElem hl
  intro k h1 h2
  have := h k h2
  simpa [g, List.getD_eq_getElem?_getD, h1, h2] using this
/-- what has been read so far -/
def Rd (s : List Int) (i : Nat) (fd : List Int) : Prop := fd.length = s.length ∧ ∀ j : Nat, j < i → g s j < (i : Int) → g fd j = g s j
theorem rd0 (s : List Int) (fd : List Int) (h : fd.length = s.length) : Rd s 0 fd := ⟨h, fun j hj => absurd hj (Nat.not_lt_zero _)⟩
theorem rd_push {s : List Int} {i : Nat} {fd : List Int} (G : Good s) (hi : i < s.length) (h : (i : Int) < g s i) (R : Rd s i fd) : Rd s (i + 1) fd := by
  refine ⟨R.1, fun j hj hg => ?_⟩
  by_cases e : j = i
  · subst e; omega
  · refine R.2 j (by omega) ?_
    have hne : g s j ≠ (i : Int) := fun z => by
      have := okAt_inj (G.2.1 j (by omega)) z
      omega
    omega
theorem rd_pop {s : List Int} {i t : Nat} {fd : List Int} (G : Good s) (hi : i < s.length) (ht : (t : Int) = g s i) (hlt : g s i < (i : Int)) (R : Rd s i fd) : Rd s (i + 1) ((fd.set i (t : Int)).set t (i : Int)) := by
  have hl := R.1
  have hti : t < i := by omega
  refine ⟨by rw [List.length_set, List.length_set]; exact hl, fun j hj hg => ?_⟩
  rw [g_set (by rw [List.length_set]; omega), g_set (by omega)]
  by_cases e : j = t
  · subst e
    rw [if_pos rfl]
    exact (okAt_inj (G.2.1 i hi) ht.symm).symm
  · rw [if_neg e]
    by_cases e2 : j = i
    · subst e2
      rw [if_pos rfl, ht]
    · rw [if_neg e2]
      refine R.2 j (by omega) ?_
      have hne : g s j ≠ (i : Int) := fun z => by
        have := okAt_inj (G.2.1 j (by omega)) z
        omega
      omega
theorem rd_end {s fd : List Int} (G : Good s) (R : Rd s s.length fd) : fd = s := ext_g R.1 fun k hk => R.2 k hk (G.2.1 k hk).2.1
/-- a good list has an even number of places -/
theorem opens_par {s : List Int} (G : Good s) : ∀ k : Nat, k ≤ s.length → (opens s k).length % 2 = k % 2
  | 0, _ => rfl
  | k + 1, h => by
    have ih := opens_par G k (by omega)
    have st := good_stage G k (by omega)
    have ok := G.2.1 k (by omega)
    by_cases e : (k : Int) < g s k
    · rw [opens_push st e, List.length_append, List.length_singleton]
      omega
    · have e5 : g s k < (k : Int) := by have := ok.2.2.1; omega
      obtain ⟨l, t, eo, ht⟩ := good_top G (show k < s.length by omega) e5
      rw [opens_pop st ok e5 eo ht]
      rw [eo, List.length_append, List.length_singleton] at ih
      omega
theorem good_even {s : List Int} (G : Good s) : s.length % 2 = 0 := by
  have h := opens_par G s.length (Nat.le_refl _)
  rw [opens_end G] at h
  simp at h
  omega
end Rm

set_option linter.all false
namespace Rm
/-! ## lists by functions -/
def mkL (m : Nat) (f : Nat → Nat) : List Nat := (List.range m).map f
theorem mkL_len (m : Nat) (f : Nat → Nat) : (mkL m f).length = m := by simp [mkL]
theorem mkL_at {m : Nat} {f : Nat → Nat} {k : Nat} (h : k < m) : at' (mkL m f) k = f k := by
  simp [at', mkL, List.getD_eq_getElem?_getD, h]
theorem mkL_get {m : Nat} {f : Nat → Nat} {k : Nat} (h : k < m) : (mkL m f)[k]? = some (f k) := by simp [mkL, h]
theorem ext_at {a b : List Nat} (hl : a.length = b.length) (h : ∀ k, k < b.length → at' a k = at' b k) : a = b := by
  apply List.ext_getElem hl
  intro k h1 h2
  have := h k h2
  simpa [at', List.getD_eq_getElem?_getD, h1, h2] using this
theorem Arcs.congr {m : Nat} {f f' : Nat → Nat} (A : Arcs m f) (h : ∀ k, k < m → f' k = f k) : Arcs m f' where
  lt := fun k hk => by rw [h k hk]; exact A.lt k hk
  ne := fun k hk => by rw [h k hk]; exact A.ne k hk
  inv := fun k hk => by rw [h k hk, h _ (A.lt k hk)]; exact A.inv k hk
  nc := fun j k h1 h2 h3 h4 => by
    rw [h j (by omega)] at h3 h4
    rw [h k h2] at h4
    exact A.nc j k h1 h2 h3 h4
theorem mkL_arcs {n : Nat} {f : Nat → Nat} (A : Arcs (2 * n) f) : ArcsL n (mkL (2 * n) f) :=
  ⟨mkL_len _ _, A.congr fun k hk => mkL_at hk⟩
/-! ## turned -/
def phi (m b x : Nat) : Nat := if x < b then x + m - b else x - b
def psi (m b y : Nat) : Nat := if y + b < m then y + b else y + b - m
def rotF (m b : Nat) (f : Nat → Nat) (k : Nat) : Nat := psi m b (f (phi m b k))
theorem phi_lt {m b x : Nat} (hb : b < m) (h : x < m) : phi m b x < m := by unfold phi; split <;> omega
theorem psi_lt {m b x : Nat} (hb : b < m) (h : x < m) : psi m b x < m := by unfold psi; split <;> omega
theorem phi_psi {m b x : Nat} (hb : b < m) (h : x < m) : phi m b (psi m b x) = x := by unfold psi phi; split <;> split <;> omega
theorem psi_phi {m b x : Nat} (hb : b < m) (h : x < m) : psi m b (phi m b x) = x := by unfold phi psi; split <;> split <;> omega
theorem rot_arcs {m b : Nat} {f : Nat → Nat} (A : Arcs m f) (hb : b < m) : Arcs m (rotF m b f) := by
  have hp : ∀ k, k < m → phi m b (rotF m b f k) = f (phi m b k) := fun k hk => phi_psi hb (A.lt _ (phi_lt hb hk))
  refine ⟨fun k hk => psi_lt hb (A.lt _ (phi_lt hb hk)), fun k hk e => ?_, fun k hk => ?_, fun j k hjk hk h1 h2 => ?_⟩
  · have := hp k hk
    rw [e] at this
    exact A.ne _ (phi_lt hb hk) this.symm
  · show psi m b (f (phi m b (rotF m b f k))) = k
    rw [hp k hk, A.inv _ (phi_lt hb hk), psi_phi hb hk]
  · have hj : j < m := by omega
    have pj := hp j hj
    have pk := hp k hk
    have lj := phi_lt hb hj
    have lk := phi_lt hb hk
    have fj := A.lt _ lj
    have fk := A.lt _ lk
    have ij := A.inv _ lj
    have ik := A.inv _ lk
    have lfj : rotF m b f j < m := psi_lt hb (A.lt _ lj)
    have lfk : rotF m b f k < m := psi_lt hb (A.lt _ lk)
    have n1 := A.nc (phi m b j) (phi m b k)
    have n2 := A.nc (phi m b k) (f (phi m b j))
    have n3 := A.nc (f (phi m b j)) (f (phi m b k))
    have n4 := A.nc (f (phi m b k)) (phi m b j)
    rw [ij] at n2 n3
    rw [ik] at n3 n4
    rw [← pj, ← pk] at n1 n2 n3 n4
    rw [← pj] at fj
    rw [← pk] at fk
    generalize rotF m b f j = x at *
    generalize rotF m b f k = y at *
    unfold phi at *
    have : (x < b ∨ b ≤ x) ∧ (y < b ∨ b ≤ y) ∧ (j < b ∨ b ≤ j) ∧ (k < b ∨ b ≤ k) := by omega
    obtain ⟨c1, c2, c3, c4⟩ := this
    rcases c1 with c1 | c1 <;> rcases c2 with c2 | c2 <;> rcases c3 with c3 | c3 <;> rcases c4 with c4 | c4 <;>
      first
        | omega
        | (simp only [c1, c2, c3, c4, if_true, if_false, Nat.not_lt.mpr c1, Nat.not_lt.mpr c2, Nat.not_lt.mpr c3, Nat.not_lt.mpr c4] at n1 n2 n3 n4; first | exact n1 (by omega) (by omega) (by omega) (by omega) | exact n2 (by omega) (by omega) (by omega) (by omega) | exact n3 (by omega) (by omega) (by omega) (by omega) | exact n4 (by omega) (by omega) (by omega) (by omega))
/-! ## mirrored -/
def mirF (m : Nat) (f : Nat → Nat) (k : Nat) : Nat := m - 1 - f (m - 1 - k)
theorem mir_arcs {m : Nat} {f : Nat → Nat} (A : Arcs m f) : Arcs m (mirF m f) := by
  refine ⟨fun k hk => by unfold mirF; omega, fun k hk e => ?_, fun k hk => ?_, fun j k hjk hk h1 h2 => ?_⟩
  · have h1 := A.lt (m - 1 - k) (by omega)
    have h2 := A.ne (m - 1 - k) (by omega)
    unfold mirF at e
    omega
  · have h1 := A.lt (m - 1 - k) (by omega)
    have h3 := A.inv (m - 1 - k) (by omega)
    unfold mirF
    rw [show m - 1 - (m - 1 - f (m - 1 - k)) = f (m - 1 - k) by omega, h3]
    omega
  · have a1 := A.lt (m - 1 - j) (by omega)
    have a2 := A.lt (m - 1 - k) (by omega)
    have a3 := A.inv (m - 1 - j) (by omega)
    have a4 := A.inv (m - 1 - k) (by omega)
    unfold mirF at h1 h2
    refine A.nc (f (m - 1 - k)) (f (m - 1 - j)) (by omega) (by omega) (by omega) (by omega)
/-! ## side by side, covered -/
def sideF (m : Nat) (f f2 : Nat → Nat) (k : Nat) : Nat := if k < m then f k else m + f2 (k - m)
theorem side_arcs {m m2 : Nat} {f f2 : Nat → Nat} (A : Arcs m f) (B : Arcs m2 f2) : Arcs (m + m2) (sideF m f f2) := by
  refine ⟨fun k hk => ?_, fun k hk => ?_, fun k hk => ?_, fun j k hjk hk h1 h2 => ?_⟩
  · unfold sideF
    split
    · have := A.lt k (by omega); omega
    · have := B.lt (k - m) (by omega); omega
  · unfold sideF
    split
    · exact A.ne k (by omega)
    · have := B.ne (k - m) (by omega); omega
  · unfold sideF
    by_cases h : k < m
    · rw [if_pos h, if_pos (A.lt k h), A.inv k h]
    · rw [if_neg h, if_neg (by omega), show m + f2 (k - m) - m = f2 (k - m) by omega, B.inv (k - m) (by omega)]
      omega
  · unfold sideF at h1 h2
    by_cases hj : j < m
    · have a := A.lt j hj
      rw [if_pos hj] at h1 h2
      by_cases hk2 : k < m
      · rw [if_pos hk2] at h2
        exact A.nc j k hjk hk2 h1 h2
      · omega
    · rw [if_neg hj] at h1 h2
      rw [if_neg (by omega)] at h2
      exact B.nc (j - m) (k - m) (by omega) (by omega) (by omega) (by omega)
def overF (m : Nat) (f : Nat → Nat) (k : Nat) : Nat := if k = 0 then m + 1 else if k = m + 1 then 0 else f (k - 1) + 1
theorem over_arcs {m : Nat} {f : Nat → Nat} (A : Arcs m f) : Arcs (m + 2) (overF m f) := by
  have mid : ∀ k, k ≠ 0 → k < m + 1 → overF m f k = f (k - 1) + 1 := fun k h1 h2 => by
    unfold overF
    rw [if_neg h1, if_neg (by omega)]
  have z0 : overF m f 0 = m + 1 := rfl
  have z1 : overF m f (m + 1) = 0 := by unfold overF; rw [if_neg (by omega), if_pos rfl]
  have cs : ∀ k, k < m + 2 → k = 0 ∨ k = m + 1 ∨ (k ≠ 0 ∧ k < m + 1) := fun k h => by omega
  refine ⟨fun k hk => ?_, fun k hk => ?_, fun k hk => ?_, fun j k hjk hk h1 h2 => ?_⟩
  · rcases cs k hk with e | e | ⟨e1, e2⟩
    · subst e; rw [z0]; omega
    · subst e; rw [z1]; omega
    · rw [mid k e1 e2]; have := A.lt (k - 1) (by omega); omega
  · rcases cs k hk with e | e | ⟨e1, e2⟩
    · subst e; rw [z0]; omega
    · subst e; rw [z1]; omega
    · rw [mid k e1 e2]; have := A.ne (k - 1) (by omega); omega
  · rcases cs k hk with e | e | ⟨e1, e2⟩
    · subst e; rw [z0, z1]
    · subst e; rw [z1, z0]
    · have := A.lt (k - 1) (by omega)
      rw [mid k e1 e2, mid _ (by omega) (by omega), show f (k - 1) + 1 - 1 = f (k - 1) by omega, A.inv (k - 1) (by omega)]
      omega
  · have hk0 : k ≠ 0 := by omega
    by_cases hk1 : k = m + 1
    · subst hk1; rw [z1] at h2; omega
    · rw [mid k hk0 (by omega)] at h2
      by_cases hj : j = 0
      · subst hj; rw [z0] at h2; have := A.lt (k - 1) (by omega); omega
      · rw [mid j hj (by omega)] at h1 h2
        exact A.nc (j - 1) (k - 1) (by omega) (by omega) (by omega) (by omega)
/-! ## sums by the remainder -/
theorem mod_add {m : Nat} {by' : Int} {k : Nat} (hk : k < m) : ((k : Int) + by').fmod (m : Int) = ((psi m (by' % (m : Int)).toNat k : Nat) : Int) := by
  have hm : (0 : Int) < m := by omega
  rw [Int.fmod_eq_emod_of_nonneg _ (by omega)]
  have h0 := Int.emod_nonneg by' (show (m : Int) ≠ 0 by omega)
  have h1 := Int.emod_lt_of_pos by' hm
  have e : ((k : Int) + by') % (m : Int) = ((k : Int) + by' % (m : Int)) % (m : Int) := by rw [Int.add_emod, Int.add_emod (k : Int) (by' % (m : Int)), Int.emod_emod]
  rw [e]
  generalize hr : by' % (m : Int) = r at *
  unfold psi
  by_cases c : (k : Int) + r < m
  · rw [Int.emod_eq_of_lt (by omega) c, if_pos (by omega)]
    omega
  · rw [if_neg (by omega)]
    have : ((k : Int) + r) % (m : Int) = ((k : Int) + r - m) % (m : Int) := by
      rw [Int.sub_emod_right]
    rw [this, Int.emod_eq_of_lt (by omega) (by omega)]
    omega
theorem mod_sub {m : Nat} {by' : Int} {k : Nat} (hk : k < m) : ((k : Int) - by').fmod (m : Int) = ((phi m (by' % (m : Int)).toNat k : Nat) : Int) := by
  have hm : (0 : Int) < m := by omega
  rw [Int.fmod_eq_emod_of_nonneg _ (by omega)]
  have h0 := Int.emod_nonneg by' (show (m : Int) ≠ 0 by omega)
  have h1 := Int.emod_lt_of_pos by' hm
  have e : ((k : Int) - by') % (m : Int) = ((k : Int) - by' % (m : Int)) % (m : Int) := by rw [Int.sub_emod, Int.sub_emod (k : Int) (by' % (m : Int)), Int.emod_emod]
  rw [e]
  generalize hr : by' % (m : Int) = r at *
  unfold phi
  by_cases c : r ≤ (k : Int)
  · rw [Int.emod_eq_of_lt (by omega) (by omega), if_neg (by omega)]
    omega
  · rw [if_pos (by omega)]
    have : ((k : Int) - r) % (m : Int) = ((k : Int) - r + m) % (m : Int) := by
      rw [Int.add_emod_right]
    rw [this, Int.emod_eq_of_lt (by omega) (by omega)]
    omega
def rotB (m : Nat) (by' : Int) : Nat := (by' % (m : Int)).toNat
theorem rotB_lt {m : Nat} (by' : Int) (h : 0 < m) : rotB m by' < m := by
  have h0 := Int.emod_nonneg by' (show (m : Int) ≠ 0 by omega)
  have h1 := Int.emod_lt_of_pos by' (show (0 : Int) < m by omega)
  unfold rotB; omega
end Rm

set_option linter.all false
namespace Rm
/-! ## lists without a number twice -/
theorem nodup_len : ∀ (M : Nat) (l : List Nat), l.Nodup → (∀ x, x ∈ l → x < M) → l.length ≤ M
  | 0, l, _, h => by
    cases l with
    | nil => exact Nat.le_refl _
    | cons x r => exact absurd (h x (by simp)) (Nat.not_lt_zero _)
  | M + 1, l, hn, h => by
    by_cases c : M ∈ l
    · have h1 := nodup_len M (l.erase M) (hn.erase M) (fun x hx => by
        have h2 := (List.Nodup.mem_erase_iff hn).mp hx
        have h3 := h x h2.2
        have h4 := h2.1
        omega)
      rw [List.length_erase_of_mem c] at h1
      omega
    · have h1 := nodup_len M l hn (fun x hx => by
        have h3 := h x hx
        have : x ≠ M := fun e => c (e ▸ hx)
        omega)
      omega
theorem nodup_sub_len : ∀ {l k : List Nat}, l.Nodup → (∀ x, x ∈ l → x ∈ k) → l.length ≤ k.length
  | [], _, _, _ => Nat.zero_le _
  | x :: r, k, hn, h => by
    have h2 := List.nodup_cons.mp hn
    have hx := h x (by simp)
    have ih := nodup_sub_len (l := r) (k := k.erase x) h2.2 (fun y hy => (List.mem_erase_of_ne (show y ≠ x from fun e => h2.1 (by rw [← e]; exact hy))).mpr (h y (by simp [hy])))
    rw [List.length_erase_of_mem hx] at ih
    have : 0 < k.length := List.length_pos_of_mem hx
    rw [List.length_cons]
    omega
theorem nodup_full {M : Nat} {l : List Nat} (hn : l.Nodup) (h : ∀ x, x ∈ l → x < M) (hl : M ≤ l.length) {y : Nat} (hy : y < M) : y ∈ l := by
  by_cases c : y ∈ l
  · exact c
  · have h1 := nodup_len M (y :: l) (List.nodup_cons.mpr ⟨c, hn⟩) (fun x hx => by
      rcases List.mem_cons.mp hx with e | e
      · omega
      · exact h x e)
    rw [List.length_cons] at h1
    omega
theorem nodup_snoc2 {l : List Nat} {x y : Nat} (hn : l.Nodup) (hx : x ∉ l) (hy : y ∉ l) (hne : x ≠ y) : (l ++ [x, y]).Nodup := by
  rw [List.nodup_append]
  refine ⟨hn, by simp [hne], fun a ha b hb => ?_⟩
  simp at hb
  rcases hb with rfl | rfl
  · exact fun e => hx (e ▸ ha)
  · exact fun e => hy (e ▸ ha)
theorem eraseIdx_filter : ∀ (l : List Nat) (j k : Nat), l.Nodup → l[j]? = some k → l.eraseIdx j = l.filter (fun x => decide (x ≠ k))
  | [], j, k, _, h => by simp at h
  | x :: r, 0, k, hn, h => by
    have e : x = k := Option.some.inj h
    subst e
    have hx := (List.nodup_cons.mp hn).1
    rw [List.eraseIdx_cons_zero, List.filter_cons_of_neg (by simp)]
    exact (List.filter_eq_self.mpr fun a ha => decide_eq_true (show a ≠ x from fun e => hx (e ▸ ha))).symm
  | x :: r, j + 1, k, hn, h => by
    have h2 := List.nodup_cons.mp hn
    have ih := eraseIdx_filter r j k h2.2 h
    have hk : k ∈ r := List.mem_of_getElem? h
    have hne : x ≠ k := fun e => h2.1 (e ▸ hk)
    rw [List.eraseIdx_cons_succ, List.filter_cons_of_pos (by simp [hne]), ih]
/-! ## roads -/
/-- fixed-point-free turn on the places below M that leaves them below M -/
structure Inv2 (M : Nat) (a : Nat → Nat) : Prop where
  lt : ∀ k, k < M → a k < M
  ne : ∀ k, k < M → a k ≠ k
  inv : ∀ k, k < M → a (a k) = k
theorem Arcs.inv2 {M : Nat} {a : Nat → Nat} (A : Arcs M a) : Inv2 M a := ⟨A.lt, A.ne, A.inv⟩
def walk (a b : Nat → Nat) : Nat → List Nat → Nat → List Nat → List Nat
  | 0, _, _, road => road
  | f + 1, s, x, road => if x ∈ s ++ road then road else walk a b f s (b (a x)) (road ++ [x, a x])
def stepR (a b : Nat → Nat) (M : Nat) (s0 : List Nat) (F : List (List Nat)) (x : Nat) : List (List Nat) :=
  if x ∈ s0 ++ F.flatten then F else F ++ [walk a b M (s0 ++ F.flatten) x []]
def goR (a b : Nat → Nat) (M : Nat) (s0 : List Nat) (i : Nat) : List (List Nat) := (List.range i).foldl (stepR a b M s0) []
def roadsM (a b : Nat → Nat) (M : Nat) : List (List Nat) := goR a b M [] M
theorem goR_zero (a b : Nat → Nat) (M : Nat) (s0 : List Nat) : goR a b M s0 0 = [] := rfl
theorem goR_succ (a b : Nat → Nat) (M : Nat) (s0 : List Nat) (i : Nat) : goR a b M s0 (i + 1) = stepR a b M s0 (goR a b M s0 i) i := by
  unfold goR
  rw [List.range_succ, List.foldl_append]
  rfl
/-- what is seen: no place twice, all below M, with a place its arc's other end -/
structure Seen (a : Nat → Nat) (M : Nat) (l : List Nat) : Prop where
  nd : l.Nodup
  lt : ∀ x, x ∈ l → x < M
  cl : ∀ x, x ∈ l → a x ∈ l
theorem Seen.push {a : Nat → Nat} {M : Nat} {l : List Nat} (S : Seen a M l) (A : Inv2 M a) {x : Nat} (hx : x < M) (hn : x ∉ l) : a x ∉ l ∧ Seen a M (l ++ [x, a x]) := by
  have h2 : a x ∉ l := fun h => hn (by
    have := S.cl _ h
    rw [A.inv x hx] at this
    exact this)
  refine ⟨h2, nodup_snoc2 S.nd hn h2 (fun e => A.ne x hx e.symm), fun y hy => ?_, fun y hy => ?_⟩
  · rcases List.mem_append.mp hy with h | h
    · exact S.lt y h
    · simp at h
      rcases h with rfl | rfl
      · exact hx
      · exact A.lt x hx
  · rcases List.mem_append.mp hy with h | h
    · exact List.mem_append.mpr (.inl (S.cl y h))
    · simp at h
      rcases h with rfl | rfl
      · simp
      · rw [A.inv x hx]; simp
theorem walk_stop {a b : Nat → Nat} {f : Nat} {s road : List Nat} {x : Nat} (h : x ∈ s ++ road) : walk a b f s x road = road := by
  cases f with
  | zero => rfl
  | succ f => exact if_pos h
theorem walk_go {a b : Nat → Nat} {f : Nat} {s road : List Nat} {x : Nat} (h : x ∉ s ++ road) : walk a b (f + 1) s x road = walk a b f s (b (a x)) (road ++ [x, a x]) := if_neg h
/-- the fuel does not run out -/
theorem fuel_pos {a : Nat → Nat} {M f : Nat} {s road : List Nat} {x : Nat} (S : Seen a M (s ++ road)) (hx : x < M) (hn : x ∉ s ++ road) (hf : M ≤ f + (s ++ road).length) : ∃ f', f = f' + 1 := by
  cases f with
  | zero => exact absurd (nodup_full S.nd S.lt (by omega) hx) hn
  | succ f => exact ⟨f, rfl⟩
theorem walk_seen {a b : Nat → Nat} {M : Nat} (A : Inv2 M a) (hb : ∀ k, k < M → b k < M) : ∀ (f : Nat) (s road : List Nat) (x : Nat), Seen a M (s ++ road) → x < M → Seen a M (s ++ walk a b f s x road)
  | 0, _, _, _, S, _ => S
  | f + 1, s, road, x, S, hx => by
    by_cases h : x ∈ s ++ road
    · rw [walk_stop h]; exact S
    · rw [walk_go h]
      refine walk_seen A hb f s (road ++ [x, a x]) (b (a x)) ?_ (hb _ (A.lt x hx))
      rw [← List.append_assoc]
      exact (S.push A hx h).2
theorem walk_pre {a b : Nat → Nat} : ∀ (f : Nat) (s road : List Nat) (x : Nat), ∃ r, walk a b f s x road = road ++ r
  | 0, _, road, _ => ⟨[], (List.append_nil road).symm⟩
  | f + 1, s, road, x => by
    by_cases h : x ∈ s ++ road
    · rw [walk_stop h]; exact ⟨[], (List.append_nil road).symm⟩
    · rw [walk_go h]
      obtain ⟨r, e⟩ := walk_pre f s (road ++ [x, a x]) (b (a x))
      exact ⟨[x, a x] ++ r, by rw [e, List.append_assoc]⟩
theorem walk_first {a b : Nat → Nat} {M : Nat} {s : List Nat} {x : Nat} (hM : 0 < M) (h : x ∉ s) : ∃ r, walk a b M s x [] = x :: a x :: r := by
  obtain ⟨f, rfl⟩ : ∃ f, M = f + 1 := ⟨M - 1, by omega⟩
  rw [walk_go (by simpa using h)]
  obtain ⟨r, e⟩ := walk_pre f s ([] ++ [x, a x]) (b (a x))
  exact ⟨r, by rw [e]; rfl⟩
theorem flatten_snoc (F : List (List Nat)) (r : List Nat) : (F ++ [r]).flatten = F.flatten ++ r := by simp
theorem goR_seen {a b : Nat → Nat} {M : Nat} {s0 : List Nat} (A : Inv2 M a) (hb : ∀ k, k < M → b k < M) (S0 : Seen a M s0) : ∀ i, i ≤ M → Seen a M (s0 ++ (goR a b M s0 i).flatten)
  | 0, _ => by rw [goR_zero]; simpa using S0
  | i + 1, h => by
    have ih := goR_seen A hb S0 i (by omega)
    rw [goR_succ]
    unfold stepR
    split
    · exact ih
    · rw [flatten_snoc, ← List.append_assoc]
      exact walk_seen A hb M _ [] i (by rw [List.append_nil]; exact ih) (by omega)
theorem goR_mem {a b : Nat → Nat} {M : Nat} {s0 : List Nat} : ∀ i, i ≤ M → ∀ x, x < i → x ∈ s0 ++ (goR a b M s0 i).flatten
  | 0, _, x, hx => absurd hx (Nat.not_lt_zero _)
  | i + 1, h, x, hx => by
    have ih := goR_mem (a := a) (b := b) (M := M) (s0 := s0) i (by omega) x
    rw [goR_succ]
    unfold stepR
    split
    · rename_i hm
      by_cases e : x = i
      · rw [e]; exact hm
      · exact ih (by omega)
    · rename_i hm
      rw [flatten_snoc, ← List.append_assoc]
      by_cases e : x = i
      · subst e
        obtain ⟨r, er⟩ := walk_first (a := a) (b := b) (M := M) (show 0 < M by omega) hm
        rw [er]
        simp
      · exact List.mem_append.mpr (.inl (ih (by omega)))
/-- places that are seen are passed over -/
theorem goR_skip {a b : Nat → Nat} {M : Nat} {s0 : List Nat} {i : Nat} : ∀ j, i ≤ j → (∀ x, i ≤ x → x < j → x ∈ s0 ++ (goR a b M s0 i).flatten) → goR a b M s0 j = goR a b M s0 i
  | 0, h, _ => by
    have : i = 0 := by omega
    rw [this]
  | j + 1, h, hx => by
    by_cases e : i = j + 1
    · rw [e]
    · have ih := goR_skip (a := a) (b := b) (M := M) (s0 := s0) (i := i) j (by omega) (fun x h1 h2 => hx x h1 (by omega))
      rw [goR_succ, ih]
      unfold stepR
      rw [if_pos (hx j (by omega) (by omega))]
/-- what is left, in its order -/
def leftL (M : Nat) (s : List Nat) : List Nat := (List.range M).filter (fun x => decide (x ∉ s))
theorem mem_left {M : Nat} {s : List Nat} {x : Nat} : x ∈ leftL M s ↔ x < M ∧ x ∉ s := by simp [leftL]
theorem left_nodup (M : Nat) (s : List Nat) : (leftL M s).Nodup := List.Pairwise.filter _ List.nodup_range
theorem left_len (M : Nat) (s : List Nat) : (leftL M s).length ≤ M := by
  have h := List.length_filter_le (fun x : Nat => decide (x ∉ s)) (List.range M)
  rw [List.length_range] at h
  exact h
theorem left_drop {M : Nat} {s : List Nat} {x : Nat} : (leftL M s).filter (fun y => decide (y ≠ x)) = leftL M (s ++ [x]) := by
  unfold leftL
  rw [List.filter_filter]
  apply List.filter_congr
  intro y _
  simp [and_comm]
theorem left_head {M : Nat} {s : List Nat} {x : Nat} {r : List Nat} (h : leftL M s = x :: r) : x < M ∧ x ∉ s ∧ ∀ y, y < x → y ∈ s := by
  have h1 : x ∈ leftL M s := by rw [h]; simp
  rw [mem_left] at h1
  refine ⟨h1.1, h1.2, fun y hy => ?_⟩
  by_cases c : y ∈ s
  · exact c
  · have h2 : y ∈ leftL M s := mem_left.mpr ⟨by omega, c⟩
    have hs : (leftL M s).Pairwise (· < ·) := List.Pairwise.filter _ List.pairwise_lt_range
    rw [h] at h2 hs
    rcases List.mem_cons.mp h2 with e | e
    · omega
    · have := (List.pairwise_cons.mp hs).1 y e
      omega
theorem left_nil {M : Nat} {s : List Nat} (h : leftL M s = []) : ∀ y, y < M → y ∈ s := fun y hy => by
  by_cases c : y ∈ s
  · exact c
  · have h2 : y ∈ leftL M s := mem_left.mpr ⟨hy, c⟩
    rw [h] at h2
    cases h2
end Rm
namespace Rm
theorem goR_len {a b : Nat → Nat} {M : Nat} {s0 : List Nat} : ∀ i, i ≤ M → (goR a b M s0 i).length ≤ i
  | 0, _ => Nat.le_refl _
  | i + 1, h => by
    have ih := goR_len (a := a) (b := b) (M := M) (s0 := s0) i (by omega)
    rw [goR_succ]
    unfold stepR
    split
    · omega
    · rw [List.length_append, List.length_singleton]; omega
end Rm
namespace Rm
theorem left_lt {M : Nat} {s r : List Nat} {x : Nat} (hx : x < M) (hn : x ∉ s) (hr : x ∈ r) : (leftL M (s ++ r)).length < (leftL M s).length := by
  have hsub : ∀ y, y ∈ x :: leftL M (s ++ r) → y ∈ leftL M s := fun y hy => by
    rcases List.mem_cons.mp hy with e | e
    · rw [e]; exact mem_left.mpr ⟨hx, hn⟩
    · have h2 := mem_left.mp e
      exact mem_left.mpr ⟨h2.1, fun z => h2.2 (List.mem_append.mpr (.inl z))⟩
  have hnd : (x :: leftL M (s ++ r)).Nodup := List.nodup_cons.mpr ⟨fun h => (mem_left.mp h).2 (List.mem_append.mpr (.inr hr)), left_nodup _ _⟩
  have := nodup_sub_len hnd hsub
  rw [List.length_cons] at this
  omega
end Rm
namespace Rm
theorem roads_ne {a b : Nat → Nat} {M : Nat} (h : 0 < M) : roadsM a b M ≠ [] := fun e => by
  have := goR_mem (a := a) (b := b) (M := M) (s0 := []) M (Nat.le_refl _) 0 h
  unfold roadsM at e
  rw [e] at this
  simp at this
theorem road_len {a b : Nat → Nat} {M : Nat} (A : Inv2 M a) (hb : ∀ k, k < M → b k < M) {r : List Nat} (hr : r ∈ roadsM a b M) : r.length ≤ M := by
  have S := goR_seen (s0 := []) A hb ⟨.nil, by simp, by simp⟩ M (Nat.le_refl _)
  rw [List.nil_append] at S
  have h1 : ∀ x, x ∈ r → x < M := fun x hx => S.lt x (List.mem_flatten.mpr ⟨r, hr, hx⟩)
  have h2 : r.Nodup := (List.sublist_flatten_of_mem hr).nodup S.nd
  exact nodup_len M r h2 h1
end Rm

set_option linter.all false
namespace Rm
/-! ## what is joined, and how many parts there are -/
inductive Conn (R : Nat → Nat → Prop) : Nat → Nat → Prop
  | refl (x : Nat) : Conn R x x
  | step {x y z : Nat} : R x y → Conn R y z → Conn R x z
  | back {x y z : Nat} : R y x → Conn R y z → Conn R x z
theorem Conn.trans {R : Nat → Nat → Prop} {x y z : Nat} (h : Conn R x y) (k : Conn R y z) : Conn R x z := by
  induction h with
  | refl x => exact k
  | step r _ ih => exact .step r (ih k)
  | back r _ ih => exact .back r (ih k)
theorem Conn.one {R : Nat → Nat → Prop} {x y : Nat} (h : R x y) : Conn R x y := .step h (.refl y)
theorem Conn.symm {R : Nat → Nat → Prop} {x y : Nat} (h : Conn R x y) : Conn R y x := by
  induction h with
  | refl x => exact .refl x
  | step r _ ih => exact ih.trans (.back r (.refl _))
  | back r _ ih => exact ih.trans (.step r (.refl _))
theorem Conn.mono {R R' : Nat → Nat → Prop} {x y : Nat} (h : Conn R x y) (k : ∀ u v, R u v → Conn R' u v) : Conn R' x y := by
  induction h with
  | refl x => exact .refl x
  | step r _ ih => exact (k _ _ r).trans ih
  | back r _ ih => exact (k _ _ r).symm.trans ih
/-- a set that no step leaves -/
theorem Conn.stays {R : Nat → Nat → Prop} {C : Nat → Prop} {x y : Nat} (h : Conn R x y) (k : ∀ u v, C u → (R u v ∨ R v u) → C v) (hx : C x) : C y := by
  induction h with
  | refl x => exact hx
  | step r _ ih => exact ih (k _ _ hx (.inl r))
  | back r _ ih => exact ih (k _ _ hx (.inr r))
def Comp (V : Nat → Prop) (R : Nat → Nat → Prop) (c : Nat) : Prop :=
  ∃ f : Nat → Nat, (∀ v, V v → f v < c) ∧ (∀ i, i < c → ∃ v, V v ∧ f v = i) ∧ ∀ u v, V u → V v → (f u = f v ↔ Conn R u v)
/-- one to one into fewer is not -/
theorem inj_le {c d : Nat} (h : Nat → Nat) (hl : ∀ i, i < c → h i < d) (hi : ∀ i j, i < c → j < c → h i = h j → i = j) : c ≤ d := by
  have hn : ((List.range c).map h).Nodup := by
    rw [List.Nodup, List.pairwise_map]
    refine List.Pairwise.imp_of_mem ?_ List.pairwise_lt_range
    intro a b ha hb hab e
    rw [List.mem_range] at ha hb
    have := hi a b ha hb e
    omega
  have h2 := nodup_len d _ hn (fun x hx => by
    obtain ⟨i, hi2, rfl⟩ := List.mem_map.mp hx
    exact hl i (List.mem_range.mp hi2))
  rw [List.length_map, List.length_range] at h2
  exact h2
theorem Comp.le {V : Nat → Prop} {R : Nat → Nat → Prop} {c d : Nat} (h : Comp V R c) (k : Comp V R d) : c ≤ d := by
  obtain ⟨f, f1, f2, f3⟩ := h
  obtain ⟨g, g1, g2, g3⟩ := k
  have hr : ∀ i, ∃ v, i < c → V v ∧ f v = i := fun i => by
    by_cases q : i < c
    · obtain ⟨v, hv⟩ := f2 i q
      exact ⟨v, fun _ => hv⟩
    · exact ⟨0, fun z => absurd z q⟩
  have hch : ∃ r : Nat → Nat, ∀ i, i < c → V (r i) ∧ f (r i) = i := ⟨fun i => Classical.choose (hr i), fun i => Classical.choose_spec (hr i)⟩
  obtain ⟨r, hr⟩ := hch
  refine inj_le (fun i => g (r i)) (fun i hi => g1 _ (hr i hi).1) (fun i j hi hj e => ?_)
  have h1 := (g3 _ _ (hr i hi).1 (hr j hj).1).mp e
  have h2 := (f3 _ _ (hr i hi).1 (hr j hj).1).mpr h1
  rw [(hr i hi).2, (hr j hj).2] at h2
  exact h2
theorem Comp.unique {V : Nat → Prop} {R : Nat → Nat → Prop} {c d : Nat} (h : Comp V R c) (k : Comp V R d) : c = d := Nat.le_antisymm (h.le k) (k.le h)
/-- parts by a list of them -/
theorem comp_of_list {V : Nat → Prop} {R : Nat → Nat → Prop} (L : List (List Nat)) (nd : L.flatten.Nodup) (hV : ∀ v, V v ↔ v ∈ L.flatten) (ne : ∀ r, r ∈ L → r ≠ [])
    (cl : ∀ r, r ∈ L → ∀ x y, x ∈ r → (R x y ∨ R y x) → y ∈ r) (cn : ∀ r, r ∈ L → ∀ x y, x ∈ r → y ∈ r → Conn R x y) : Comp V R L.length := by
  have dis : ∀ i j x, ∀ (hi : i < L.length) (hj : j < L.length), x ∈ L[i] → x ∈ L[j] → i = j := by
    have h2 := (List.pairwise_flatten.mp nd).2
    intro i j x hi hj h1 h3
    rcases Nat.lt_trichotomy i j with c | c | c
    · exact absurd rfl (List.pairwise_iff_getElem.mp h2 i j hi hj c x h1 x h3)
    · exact c
    · exact absurd rfl (List.pairwise_iff_getElem.mp h2 j i hj hi c x h3 x h1)
  have at_ : ∀ v, V v → ∃ i, ∃ hi : i < L.length, v ∈ L[i] := fun v hv => by
    obtain ⟨r, hr, hvr⟩ := List.mem_flatten.mp ((hV v).mp hv)
    obtain ⟨i, hi, e⟩ := List.mem_iff_getElem.mp hr
    exact ⟨i, hi, by rw [e]; exact hvr⟩
  have hex : ∃ f : Nat → Nat, ∀ v, V v → ∃ hi : f v < L.length, v ∈ L[f v] := by
    have : ∀ v, ∃ i, V v → ∃ hi : i < L.length, v ∈ L[i] := fun v => by
      by_cases q : V v
      · obtain ⟨i, h⟩ := at_ v q
        exact ⟨i, fun _ => h⟩
      · exact ⟨0, fun z => absurd z q⟩
    exact ⟨fun v => Classical.choose (this v), fun v => Classical.choose_spec (this v)⟩
  obtain ⟨f, hf⟩ := hex
  refine ⟨f, fun v hv => (hf v hv).1, fun i hi => ?_, fun u v hu hv => ⟨fun e => ?_, fun h => ?_⟩⟩
  · have hne := ne L[i] (List.getElem_mem hi)
    obtain ⟨x, r, e⟩ : ∃ x r, L[i] = x :: r := by
      cases h : L[i] with
      | nil => exact absurd h hne
      | cons x r => exact ⟨x, r, rfl⟩
    have hx : x ∈ L[i] := by rw [e]; simp
    have hv : V x := (hV x).mpr (List.mem_flatten.mpr ⟨_, List.getElem_mem hi, hx⟩)
    obtain ⟨h1, h2⟩ := hf x hv
    exact ⟨x, hv, dis _ _ x h1 hi h2 hx⟩
  · obtain ⟨h1, h2⟩ := hf u hu
    obtain ⟨h3, h4⟩ := hf v hv
    have h5 : v ∈ L[f u] := by simpa [e] using h4
    exact cn _ (List.getElem_mem h1) u v h2 h5
  · obtain ⟨h1, h2⟩ := hf u hu
    obtain ⟨h3, h4⟩ := hf v hv
    have h5 : v ∈ L[f u] := h.stays (C := fun x => x ∈ L[f u]) (fun x y hx hr => cl _ (List.getElem_mem h1) x y hx hr) h2
    exact dis _ _ v h1 h3 h5 h4
theorem conn_map {V : Nat → Prop} {R R' : Nat → Nat → Prop} (φ : Nat → Nat) (hR : ∀ x y, V x → (R x y ∨ R y x) → V y ∧ Conn R' (φ x) (φ y)) {u v : Nat} (h : Conn R u v) (hu : V u) : V v ∧ Conn R' (φ u) (φ v) := by
  induction h with
  | refl x => exact ⟨hu, .refl _⟩
  | step r _ ih =>
    have h1 := hR _ _ hu (.inl r)
    have h2 := ih h1.1
    exact ⟨h2.1, h1.2.trans h2.2⟩
  | back r _ ih =>
    have h1 := hR _ _ hu (.inr r)
    have h2 := ih h1.1
    exact ⟨h2.1, h1.2.trans h2.2⟩
theorem comp_map {V V' : Nat → Prop} {R R' : Nat → Nat → Prop} {c : Nat} (φ ψ : Nat → Nat) (hφ : ∀ v, V v → V' (φ v)) (hψ : ∀ w, V' w → V (ψ w)) (h1 : ∀ v, V v → ψ (φ v) = v) (h2 : ∀ w, V' w → φ (ψ w) = w)
    (hR : ∀ x y, V x → (R x y ∨ R y x) → V y ∧ Conn R' (φ x) (φ y)) (hR' : ∀ x y, V' x → (R' x y ∨ R' y x) → V' y ∧ Conn R (ψ x) (ψ y)) (h : Comp V R c) : Comp V' R' c := by
  obtain ⟨f, f1, f2, f3⟩ := h
  refine ⟨fun w => f (ψ w), fun v hv => f1 _ (hψ v hv), fun i hi => ?_, fun u v hu hv => ⟨fun e => ?_, fun h => ?_⟩⟩
  · obtain ⟨v, hv, e⟩ := f2 i hi
    exact ⟨φ v, hφ v hv, by show f (ψ (φ v)) = i; rw [h1 v hv]; exact e⟩
  · have q := (f3 _ _ (hψ u hu) (hψ v hv)).mp e
    have q2 := (conn_map φ hR q (hψ u hu)).2
    rw [h2 u hu, h2 v hv] at q2
    exact q2
  · exact (f3 _ _ (hψ u hu) (hψ v hv)).mpr (conn_map ψ hR' h hu).2
/-- two sets with no step between them -/
theorem comp_add {V1 V2 : Nat → Prop} {R : Nat → Nat → Prop} {c1 c2 : Nat} (h1 : Comp V1 R c1) (h2 : Comp V2 R c2) (dis : ∀ v, V1 v → V2 v → False) (cl : ∀ x y, V1 x → (R x y ∨ R y x) → V1 y) : Comp (fun v => V1 v ∨ V2 v) R (c1 + c2) := by
  obtain ⟨f, f1, f2, f3⟩ := h1
  obtain ⟨g, g1, g2, g3⟩ := h2
  have hex : ∃ k : Nat → Nat, (∀ v, V1 v → k v = f v) ∧ ∀ v, ¬ V1 v → k v = c1 + g v :=
    ⟨fun v => @ite Nat (V1 v) (Classical.propDecidable _) (f v) (c1 + g v), fun v h => if_pos h, fun v h => if_neg h⟩
  obtain ⟨k, k1, k2⟩ := hex
  have n2 : ∀ v, V2 v → ¬ V1 v := fun v h z => dis v z h
  refine ⟨k, fun v hv => ?_, fun i hi => ?_, fun u v hu hv => ?_⟩
  · rcases hv with h | h
    · rw [k1 v h]; have := f1 v h; omega
    · rw [k2 v (n2 v h)]; have := g1 v h; omega
  · by_cases q : i < c1
    · obtain ⟨v, hv, e⟩ := f2 i q
      exact ⟨v, .inl hv, by rw [k1 v hv]; exact e⟩
    · obtain ⟨v, hv, e⟩ := g2 (i - c1) (by omega)
      exact ⟨v, .inr hv, by rw [k2 v (n2 v hv)]; omega⟩
  · have sep : ∀ u v, V1 u → V2 v → ¬ Conn R u v := fun u v a b h => dis v (h.stays cl a) b
    rcases hu with hu | hu <;> rcases hv with hv | hv
    · rw [k1 u hu, k1 v hv]; exact f3 u v hu hv
    · rw [k1 u hu, k2 v (n2 v hv)]
      have := f1 u hu
      exact ⟨fun e => by omega, fun h => absurd h (sep u v hu hv)⟩
    · rw [k2 u (n2 u hu), k1 v hv]
      have := f1 v hv
      exact ⟨fun e => by omega, fun h => absurd h.symm (sep v u hv hu)⟩
    · rw [k2 u (n2 u hu), k2 v (n2 v hv)]
      refine ⟨fun e => (g3 u v hu hv).mp (by omega), fun h => ?_⟩
      have := (g3 u v hu hv).mpr h
      omega
theorem Comp.congr {V V' : Nat → Prop} {R R' : Nat → Nat → Prop} {c : Nat} (h : Comp V R c) (hV : ∀ v, V v ↔ V' v) (hR : ∀ u v, V u → V v → (Conn R u v ↔ Conn R' u v)) : Comp V' R' c := by
  obtain ⟨f, f1, f2, f3⟩ := h
  exact ⟨f, fun v hv => f1 v ((hV v).mpr hv), fun i hi => by obtain ⟨v, hv, e⟩ := f2 i hi; exact ⟨v, (hV v).mp hv, e⟩, fun u v hu hv => (f3 u v ((hV u).mpr hu) ((hV v).mpr hv)).trans (hR u v ((hV u).mpr hu) ((hV v).mpr hv))⟩
/-! ## roads are the parts -/
def R2 (a b : Nat → Nat) (M : Nat) : Nat → Nat → Prop := fun x y => x < M ∧ (a x = y ∨ b x = y)
structure RoadInv (a b : Nat → Nat) (M x0 : Nat) (road : List Nat) (x : Nat) : Prop where
  cn : ∀ y, y ∈ road → Conn (R2 a b M) x0 y
  cx : Conn (R2 a b M) x0 x
  br : (road = [] ∧ x = x0) ∨ (x0 ∈ road ∧ ∃ L, L ∈ road ∧ b L = x ∧ ∀ y, y ∈ road → y ≠ x0 → y ≠ L → b y ∈ road ∧ b y ≠ L)
theorem walk_class {a b : Nat → Nat} {M x0 : Nat} (A : Inv2 M a) (B : Inv2 M b) {s : List Nat} (hsb : ∀ y, y ∈ s → b y ∈ s) (hx0 : x0 < M) (h0 : x0 ∉ s) : ∀ (f : Nat) (road : List Nat) (x : Nat), Seen a M (s ++ road) → x < M → RoadInv a b M x0 road x → M ≤ f + (s ++ road).length →
    (∀ y, y ∈ walk a b f s x road → Conn (R2 a b M) x0 y ∧ b y ∈ walk a b f s x road) ∧ x0 ∈ walk a b f s x road := by
  have stop : ∀ (road : List Nat) (x : Nat), Seen a M (s ++ road) → x < M → RoadInv a b M x0 road x → x ∈ s ++ road → (∀ y, y ∈ road → Conn (R2 a b M) x0 y ∧ b y ∈ road) ∧ x0 ∈ road := by
    intro road x S hx I hm
    rcases I.br with ⟨e1, e2⟩ | ⟨h1, L, hL, hbL, hy⟩
    · subst e1 e2
      rw [List.append_nil] at hm
      exact absurd hm h0
    · have hLM : L < M := S.lt L (by simp [hL])
      have hLs : L ∉ s := fun z => (List.nodup_append.mp S.nd).2.2 L z L hL rfl
      have hbx : b x = L := by rw [← hbL]; exact B.inv L hLM
      have hxs : x ∉ s := fun z => hLs (by rw [← hbx]; exact hsb x z)
      have hxr : x ∈ road := by
        rcases List.mem_append.mp hm with z | z
        · exact absurd z hxs
        · exact z
      have hxL : x ≠ L := by rw [← hbL]; exact B.ne L hLM
      have hx0 : x = x0 := by
        by_cases q : x = x0
        · exact q
        · exact absurd hbx (hy x hxr q hxL).2
      refine ⟨fun y hyr => ⟨I.cn y hyr, ?_⟩, h1⟩
      by_cases q1 : y = x0
      · rw [q1, ← hx0, hbx]; exact hL
      · by_cases q2 : y = L
        · rw [q2, hbL]; exact hxr
        · exact (hy y hyr q1 q2).1
  intro f
  induction f with
  | zero =>
    intro road x S hx I hf
    exact stop road x S hx I (nodup_full S.nd S.lt (by omega) hx)
  | succ f ih =>
    intro road x S hx I hf
    by_cases hm : x ∈ s ++ road
    · rw [walk_stop hm]
      exact stop road x S hx I hm
    · rw [walk_go hm]
      have hp := S.push A hx hm
      have hax := A.lt x hx
      have c1 : Conn (R2 a b M) x (a x) := .one ⟨hx, .inl rfl⟩
      have c2 : Conn (R2 a b M) (a x) (b (a x)) := .one ⟨hax, .inr rfl⟩
      refine ih (road ++ [x, a x]) (b (a x)) (by rw [← List.append_assoc]; exact hp.2) (B.lt _ hax) ⟨fun y hy => ?_, (I.cx.trans c1).trans c2, .inr ⟨?_, a x, by simp, rfl, fun y hy q1 q2 => ?_⟩⟩ (by simp at hf ⊢; omega)
      · rcases List.mem_append.mp hy with z | z
        · exact I.cn y z
        · simp at z
          rcases z with rfl | rfl
          · exact I.cx
          · exact I.cx.trans c1
      · rcases I.br with ⟨e1, e2⟩ | ⟨h1, _⟩
        · rw [e2]; simp
        · simp [h1]
      · have nr : ∀ z, z ∈ road → z ≠ a x := fun z hz e => hp.1 (by rw [← e]; simp [hz])
        rcases List.mem_append.mp hy with z | z
        · rcases I.br with ⟨e1, e2⟩ | ⟨h1, L, hL, hbL, hyy⟩
          · rw [e1] at z; cases z
          · by_cases q3 : y = L
            · rw [q3, hbL]
              exact ⟨by simp, fun e => A.ne x hx e.symm⟩
            · have h4 := hyy y z q1 q3
              exact ⟨by simp [h4.1], nr _ h4.1⟩
        · simp at z
          rcases z with rfl | rfl
          · rcases I.br with ⟨e1, e2⟩ | ⟨h1, L, hL, hbL, hyy⟩
            · exact absurd e2 q1
            · have hLM : L < M := S.lt L (by simp [hL])
              have : b y = L := by rw [← hbL]; exact B.inv L hLM
              rw [this]
              exact ⟨by simp [hL], nr L hL⟩
          · exact absurd rfl q2
structure GoInv (a b : Nat → Nat) (M : Nat) (s0 : List Nat) (F : List (List Nat)) : Prop where
  seen : Seen a M (s0 ++ F.flatten)
  bcl : ∀ y, y ∈ s0 ++ F.flatten → b y ∈ s0 ++ F.flatten
  each : ∀ r, r ∈ F → r ≠ [] ∧ (∀ x, x ∈ r → a x ∈ r ∧ b x ∈ r) ∧ ∀ x y, x ∈ r → y ∈ r → Conn (R2 a b M) x y
theorem go_inv {a b : Nat → Nat} {M : Nat} (A : Inv2 M a) (B : Inv2 M b) {s0 : List Nat} (S0 : Seen a M s0) (b0 : ∀ y, y ∈ s0 → b y ∈ s0) : ∀ i, i ≤ M → GoInv a b M s0 (goR a b M s0 i)
  | 0, _ => ⟨by rw [goR_zero]; simpa using S0, fun y hy => by rw [goR_zero] at hy ⊢; simp at hy ⊢; exact b0 y hy, fun r hr => by rw [goR_zero] at hr; cases hr⟩
  | i + 1, h => by
    have I := go_inv A B S0 b0 i (by omega)
    rw [goR_succ]
    unfold stepR
    split
    · exact I
    · rename_i hm
      generalize goR a b M s0 i = F at *
      have w := walk_class A B (s := s0 ++ F.flatten) I.bcl (show i < M by omega) hm M [] i (by rw [List.append_nil]; exact I.seen) (by omega) ⟨fun y hy => (nomatch hy), .refl _, .inl ⟨rfl, rfl⟩⟩ (by omega)
      have ws := walk_seen A B.lt M (s0 ++ F.flatten) [] i (by rw [List.append_nil]; exact I.seen) (by omega)
      generalize walk a b M (s0 ++ F.flatten) i [] = R at *
      have hnd := List.nodup_append.mp ws.nd
      refine ⟨by rw [flatten_snoc, ← List.append_assoc]; exact ws, fun y hy => ?_, fun r hr => ?_⟩
      · rw [flatten_snoc, ← List.append_assoc] at hy ⊢
        rcases List.mem_append.mp hy with z | z
        · exact List.mem_append.mpr (.inl (I.bcl y z))
        · exact List.mem_append.mpr (.inr (w.1 y z).2)
      · rcases List.mem_append.mp hr with z | z
        · exact I.each r z
        · simp at z
          subst z
          refine ⟨fun e => (by rw [e] at w; cases w.2), fun x hx => ⟨?_, (w.1 x hx).2⟩, fun x y hx hy => (w.1 x hx).1.symm.trans (w.1 y hy).1⟩
          have h1 := ws.cl x (List.mem_append.mpr (.inr hx))
          rcases List.mem_append.mp h1 with z | z
          · have h2 := I.seen.cl _ z
            rw [A.inv x (ws.lt x (List.mem_append.mpr (.inr hx)))] at h2
            exact absurd rfl (hnd.2.2 x h2 x hx)
          · exact z
theorem comp_goR {a b : Nat → Nat} {M : Nat} (A : Inv2 M a) (B : Inv2 M b) {s0 : List Nat} (S0 : Seen a M s0) (b0 : ∀ y, y ∈ s0 → b y ∈ s0) : Comp (fun v => v < M ∧ v ∉ s0) (R2 a b M) (goR a b M s0 M).length := by
  have I := go_inv A B S0 b0 M (Nat.le_refl _)
  have hm := goR_mem (a := a) (b := b) (M := M) (s0 := s0) M (Nat.le_refl _)
  generalize goR a b M s0 M = F at *
  have hnd := List.nodup_append.mp I.seen.nd
  refine comp_of_list F hnd.2.1 (fun v => ⟨fun h => ?_, fun h => ?_⟩) (fun r hr => (I.each r hr).1) (fun r hr x y hx hxy => ?_) (fun r hr => (I.each r hr).2.2)
  · rcases List.mem_append.mp (hm v h.1) with z | z
    · exact absurd z h.2
    · exact z
  · exact ⟨I.seen.lt v (List.mem_append.mpr (.inr h)), fun z => hnd.2.2 v z v h rfl⟩
  · have hE := (I.each r hr).2.1 x hx
    have hxM : x < M := I.seen.lt x (List.mem_append.mpr (.inr (List.mem_flatten.mpr ⟨r, hr, hx⟩)))
    rcases hxy with ⟨_, e | e⟩ | ⟨hy, e | e⟩
    · rw [← e]; exact hE.1
    · rw [← e]; exact hE.2
    · rw [← e, A.inv y hy] at hE; exact hE.1
    · rw [← e, B.inv y hy] at hE; exact hE.2
theorem comp_roads {a b : Nat → Nat} {M : Nat} (A : Inv2 M a) (B : Inv2 M b) : Comp (fun v => v < M) (R2 a b M) (roadsM a b M).length := by
  have h := comp_goR A B (s0 := []) ⟨.nil, by simp, by simp⟩ (by simp)
  exact h.congr (fun v => by simp) (fun u v _ _ => Iff.rfl)
theorem R2_symm {a b : Nat → Nat} {M : Nat} (A : Inv2 M a) (B : Inv2 M b) {x y : Nat} (hx : x < M) (h : R2 a b M x y ∨ R2 a b M y x) : y < M ∧ (a x = y ∨ b x = y) := by
  rcases h with ⟨_, e | e⟩ | ⟨hy, e | e⟩
  · exact ⟨by rw [← e]; exact A.lt x hx, .inl e⟩
  · exact ⟨by rw [← e]; exact B.lt x hx, .inr e⟩
  · exact ⟨hy, .inl (by rw [← e]; exact A.inv y hy)⟩
  · exact ⟨hy, .inr (by rw [← e]; exact B.inv y hy)⟩
/-- no more roads than arcs -/
theorem roads_le {a b : Nat → Nat} {n : Nat} (A : Inv2 (2 * n) a) (B : Inv2 (2 * n) b) : (roadsM a b (2 * n)).length ≤ n := by
  have I := go_inv A B (s0 := []) ⟨.nil, by simp, by simp⟩ (by simp) (2 * n) (Nat.le_refl _)
  unfold roadsM
  generalize goR a b (2 * n) [] (2 * n) = F at *
  have h2 : ∀ r, r ∈ F → 2 ≤ r.length := fun r hr => by
    have hE := I.each r hr
    match r, hE, hr with
    | [], hE, _ => exact absurd rfl hE.1
    | [x], hE, hr =>
      have h3 := (hE.2.1 x (by simp)).1
      simp at h3
      exact absurd h3 (A.ne x (I.seen.lt x (by simp; exact ⟨[x], hr, by simp⟩)))
    | x :: y :: r, _, _ => simp
  have h3 := nodup_len (2 * n) _ I.seen.nd I.seen.lt
  rw [List.nil_append] at h3
  have h4 : ∀ F : List (List Nat), (∀ r, r ∈ F → 2 ≤ r.length) → 2 * F.length ≤ F.flatten.length := by
    intro F
    induction F with
    | nil => intro _; exact Nat.le_refl _
    | cons r F ih =>
      intro h
      have h5 := h r (by simp)
      have h6 := ih (fun r hr => h r (by simp [hr]))
      rw [List.flatten_cons, List.length_append, List.length_cons]
      omega
  have := h4 F h2
  omega
end Rm

set_option linter.all false
namespace Rm
/-! ## how the number of roads goes -/
theorem cnt_map {a b a' b' : Nat → Nat} {M : Nat} (A : Inv2 M a) (B : Inv2 M b) (A' : Inv2 M a') (B' : Inv2 M b') (φ ψ : Nat → Nat) (hφ : ∀ v, v < M → φ v < M) (hψ : ∀ v, v < M → ψ v < M) (h1 : ∀ v, v < M → ψ (φ v) = v) (h2 : ∀ v, v < M → φ (ψ v) = v)
    (ha : ∀ v, v < M → a' (φ v) = φ (a v)) (hb : ∀ v, v < M → b' (φ v) = φ (b v)) : (roadsM a' b' M).length = (roadsM a b M).length := by
  refine (comp_roads A' B').unique (comp_map φ ψ hφ hψ h1 h2 (fun x y hx h => ?_) (fun x y hx h => ?_) (comp_roads A B))
  · obtain ⟨hy, e⟩ := R2_symm A B hx h
    refine ⟨hy, .one ⟨hφ x hx, ?_⟩⟩
    rw [ha x hx, hb x hx]
    rcases e with e | e <;> rw [e]
    · exact .inl rfl
    · exact .inr rfl
  · obtain ⟨hy, e⟩ := R2_symm A' B' hx h
    have hx' := hψ x hx
    have e1 := ha (ψ x) hx'
    have e2 := hb (ψ x) hx'
    rw [h2 x hx] at e1 e2
    refine ⟨hy, .one ⟨hx', ?_⟩⟩
    rcases e with e | e
    · left; rw [← e, e1, h1 _ (A.lt _ hx')]
    · right; rw [← e, e2, h1 _ (B.lt _ hx')]
theorem cnt_swap {a b : Nat → Nat} {M : Nat} (A : Inv2 M a) (B : Inv2 M b) : (roadsM b a M).length = (roadsM a b M).length := by
  refine (comp_roads B A).unique ((comp_roads A B).congr (fun _ => Iff.rfl) fun u v _ _ => ⟨fun h => h.mono fun x y r => .one ⟨r.1, r.2.symm⟩, fun h => h.mono fun x y r => .one ⟨r.1, r.2.symm⟩⟩)
theorem Inv2.congr {M : Nat} {f f' : Nat → Nat} (A : Inv2 M f) (h : ∀ k, k < M → f' k = f k) : Inv2 M f' :=
  ⟨fun k hk => by rw [h k hk]; exact A.lt k hk, fun k hk => by rw [h k hk]; exact A.ne k hk, fun k hk => by rw [h k hk, h _ (A.lt k hk)]; exact A.inv k hk⟩
theorem cnt_rot {m r : Nat} {a b a' b' : Nat → Nat} (A : Arcs m a) (B : Arcs m b) (hr : r < m) (ha : ∀ k, k < m → a' k = rotF m r a k) (hb : ∀ k, k < m → b' k = rotF m r b k) : (roadsM a' b' m).length = (roadsM a b m).length :=
  cnt_map A.inv2 B.inv2 ((rot_arcs A hr).inv2.congr ha) ((rot_arcs B hr).inv2.congr hb) (psi m r) (phi m r) (fun v h => psi_lt hr h) (fun v h => phi_lt hr h) (fun v h => phi_psi hr h) (fun v h => psi_phi hr h)
    (fun v h => by rw [ha _ (psi_lt hr h)]; unfold rotF; rw [phi_psi hr h]) (fun v h => by rw [hb _ (psi_lt hr h)]; unfold rotF; rw [phi_psi hr h])
theorem cnt_mir {m : Nat} {a b a' b' : Nat → Nat} (A : Arcs m a) (B : Arcs m b) (ha : ∀ k, k < m → a' k = mirF m a k) (hb : ∀ k, k < m → b' k = mirF m b k) : (roadsM a' b' m).length = (roadsM a b m).length :=
  cnt_map A.inv2 B.inv2 ((mir_arcs A).inv2.congr ha) ((mir_arcs B).inv2.congr hb) (fun k => m - 1 - k) (fun k => m - 1 - k) (fun v h => by (try dsimp only); omega) (fun v h => by (try dsimp only); omega) (fun v h => by (try dsimp only); omega) (fun v h => by (try dsimp only); omega)
    (fun v h => by (try dsimp only); rw [ha _ (by omega)]; unfold mirF; rw [show m - 1 - (m - 1 - v) = v by omega]) (fun v h => by (try dsimp only); rw [hb _ (by omega)]; unfold mirF; rw [show m - 1 - (m - 1 - v) = v by omega])
theorem cnt_side {m m2 : Nat} {a b a2 b2 a' b' : Nat → Nat} (A : Arcs m a) (B : Arcs m b) (A2 : Arcs m2 a2) (B2 : Arcs m2 b2) (ha : ∀ k, k < m + m2 → a' k = sideF m a a2 k) (hb : ∀ k, k < m + m2 → b' k = sideF m b b2 k) :
    (roadsM a' b' (m + m2)).length = (roadsM a b m).length + (roadsM a2 b2 m2).length := by
  have IA := (side_arcs A A2).inv2.congr ha
  have IB := (side_arcs B B2).inv2.congr hb
  have lo : ∀ k, k < m → a' k = a k ∧ b' k = b k := fun k h => by
    rw [ha k (by omega), hb k (by omega)]
    unfold sideF
    rw [if_pos h, if_pos h]
    exact ⟨rfl, rfl⟩
  have hi : ∀ k, k < m2 → a' (m + k) = m + a2 k ∧ b' (m + k) = m + b2 k := fun k h => by
    rw [ha (m + k) (by omega), hb (m + k) (by omega)]
    unfold sideF
    rw [if_neg (by omega), if_neg (by omega), show m + k - m = k by omega]
    exact ⟨rfl, rfl⟩
  have c1 : Comp (fun v => v < m) (R2 a' b' (m + m2)) (roadsM a b m).length := by
    refine comp_map (V := fun v => v < m) (fun v => v) (fun v => v) (fun _ h => h) (fun _ h => h) (fun _ _ => rfl) (fun _ _ => rfl) (fun x y hx h => ?_) (fun x y hx h => ?_) (comp_roads A.inv2 B.inv2)
    · obtain ⟨hy, e⟩ := R2_symm A.inv2 B.inv2 hx h
      refine ⟨hy, .one ⟨by (try dsimp only); omega, ?_⟩⟩
      rw [(lo x hx).1, (lo x hx).2]
      exact e
    · obtain ⟨hy, e⟩ := R2_symm IA IB (by (try dsimp only at hx); omega) h
      rw [(lo x hx).1, (lo x hx).2] at e
      have : y < m := by
        rcases e with e | e <;> rw [← e]
        · exact A.lt x hx
        · exact B.lt x hx
      exact ⟨this, .one ⟨hx, e⟩⟩
  have c2 : Comp (fun v => m ≤ v ∧ v < m + m2) (R2 a' b' (m + m2)) (roadsM a2 b2 m2).length := by
    refine comp_map (V := fun v => v < m2) (fun v => m + v) (fun v => v - m) (fun _ h => ⟨by omega, by omega⟩) (fun _ h => by (try dsimp only at h ⊢); omega) (fun _ _ => by (try dsimp only); omega) (fun _ h => by (try dsimp only at h ⊢); omega) (fun x y hx h => ?_) (fun x y hx h => ?_) (comp_roads A2.inv2 B2.inv2)
    · obtain ⟨hy, e⟩ := R2_symm A2.inv2 B2.inv2 hx h
      refine ⟨hy, .one ⟨by (try dsimp only); omega, ?_⟩⟩
      rw [(hi x hx).1, (hi x hx).2]
      rcases e with e | e <;> rw [e]
      · exact .inl rfl
      · exact .inr rfl
    · (try dsimp only at hx)
      obtain ⟨hy, e⟩ := R2_symm IA IB hx.2 h
      have h1 := hi (x - m) (by omega)
      rw [show m + (x - m) = x by omega] at h1
      rw [h1.1, h1.2] at e
      have k1 := A2.lt (x - m) (by omega)
      have k2 := B2.lt (x - m) (by omega)
      refine ⟨by (try dsimp only); omega, .one ⟨by omega, ?_⟩⟩
      rcases e with e | e
      · left; omega
      · right; omega
  refine (comp_roads IA IB).unique (Comp.congr (comp_add c1 c2 (fun v h1 h2 => by (try dsimp only at h1 h2); omega) (fun x y hx h => ?_)) (fun v => by omega) (fun _ _ _ _ => Iff.rfl))
  obtain ⟨hy, e⟩ := R2_symm IA IB (by omega) h
  rw [(lo x hx).1, (lo x hx).2] at e
  rcases e with e | e <;> rw [← e]
  · exact A.lt x hx
  · exact B.lt x hx
theorem cnt_over {m : Nat} {a b a' b' : Nat → Nat} (A : Arcs m a) (B : Arcs m b) (ha : ∀ k, k < m + 2 → a' k = overF m a k) (hb : ∀ k, k < m + 2 → b' k = overF m b k) : (roadsM a' b' (m + 2)).length = (roadsM a b m).length + 1 := by
  have IA := (over_arcs A).inv2.congr ha
  have IB := (over_arcs B).inv2.congr hb
  have mid : ∀ k, k < m → a' (k + 1) = a k + 1 ∧ b' (k + 1) = b k + 1 := fun k h => by
    rw [ha _ (by omega), hb _ (by omega)]
    unfold overF
    rw [if_neg (by omega), if_neg (by omega), if_neg (by omega), if_neg (by omega)]
    exact ⟨rfl, rfl⟩
  have z0 : a' 0 = m + 1 ∧ b' 0 = m + 1 := by
    rw [ha _ (by omega), hb _ (by omega)]
    exact ⟨rfl, rfl⟩
  have z1 : a' (m + 1) = 0 ∧ b' (m + 1) = 0 := by
    rw [ha _ (by omega), hb _ (by omega)]
    unfold overF
    rw [if_neg (by omega), if_pos rfl, if_neg (by omega), if_pos rfl]
    exact ⟨rfl, rfl⟩
  have c1 : Comp (fun v => 1 ≤ v ∧ v < m + 1) (R2 a' b' (m + 2)) (roadsM a b m).length := by
    refine comp_map (V := fun v => v < m) (fun v => v + 1) (fun v => v - 1) (fun _ h => ⟨by omega, by omega⟩) (fun _ h => by (try dsimp only at h ⊢); omega) (fun _ _ => by (try dsimp only); omega) (fun _ h => by (try dsimp only at h ⊢); omega) (fun x y hx h => ?_) (fun x y hx h => ?_) (comp_roads A.inv2 B.inv2)
    · obtain ⟨hy, e⟩ := R2_symm A.inv2 B.inv2 hx h
      refine ⟨hy, .one ⟨by (try dsimp only at hx ⊢); omega, ?_⟩⟩
      rw [(mid x hx).1, (mid x hx).2]
      rcases e with e | e <;> rw [e]
      · exact .inl rfl
      · exact .inr rfl
    · (try dsimp only at hx)
      obtain ⟨hy, e⟩ := R2_symm IA IB (by omega) h
      have h1 := mid (x - 1) (by omega)
      rw [show x - 1 + 1 = x by omega] at h1
      rw [h1.1, h1.2] at e
      have k1 := A.lt (x - 1) (by omega)
      have k2 := B.lt (x - 1) (by omega)
      refine ⟨by (try dsimp only); omega, .one ⟨by omega, ?_⟩⟩
      rcases e with e | e
      · left; omega
      · right; omega
  have c2 : Comp (fun v => v = 0 ∨ v = m + 1) (R2 a' b' (m + 2)) 1 := by
    have h := comp_of_list (V := fun v => v = 0 ∨ v = m + 1) (R := R2 a' b' (m + 2)) [[0, m + 1]] (by simp) (fun v => by simp) (by simp) (fun r hr x y hx h => ?_) (fun r hr x y hx hy => ?_)
    · exact h
    · simp at hr
      subst hr
      simp at hx ⊢
      obtain ⟨hy, e⟩ := R2_symm IA IB (by omega) h
      rcases hx with rfl | rfl
      · rw [z0.1, z0.2] at e; omega
      · rw [z1.1, z1.2] at e; omega
    · simp at hr
      subst hr
      simp at hx hy
      have k : Conn (R2 a' b' (m + 2)) 0 (m + 1) := .one ⟨by omega, .inl z0.1⟩
      rcases hx with rfl | rfl <;> rcases hy with rfl | rfl
      · exact .refl _
      · exact k
      · exact k.symm
      · exact .refl _
  refine (comp_roads IA IB).unique (Comp.congr (comp_add c1 c2 (fun v h1 h2 => by (try dsimp only at h1 h2); omega) (fun x y hx h => ?_)) (fun v => by omega) (fun _ _ _ _ => Iff.rfl))
  (try dsimp only at hx)
  obtain ⟨hy, e⟩ := R2_symm IA IB (by omega) h
  have h1 := mid (x - 1) (by omega)
  rw [show x - 1 + 1 = x by omega] at h1
  rw [h1.1, h1.2] at e
  have k1 := A.lt (x - 1) (by omega)
  have k2 := B.lt (x - 1) (by omega)
  (try dsimp only)
  omega
/-! ## straight -/
def strF (m k : Nat) : Nat := m - 1 - k
theorem str_arcs (n : Nat) : Arcs (2 * n) (strF (2 * n)) := by
  refine ⟨fun k h => by unfold strF; omega, fun k h => by unfold strF; omega, fun k h => by unfold strF; omega, fun j k h1 h2 h3 h4 => by unfold strF at h3 h4; omega⟩
/-- ties from an upper end to its lower one are roads by themselves -/
theorem alone_le {a b : Nat → Nat} {n : Nat} (A : Inv2 (2 * n) a) (B : Inv2 (2 * n) b) (hb : ∀ k, k < 2 * n → b k = strF (2 * n) k) (l : List Nat) (hn : l.Nodup) (hl : ∀ k, k ∈ l → k < n ∧ a k = 2 * n - 1 - k) : l.length ≤ (roadsM a b (2 * n)).length := by
  obtain ⟨f, f1, f2, f3⟩ := comp_roads A B
  have hnd : (l.map f).Nodup := by
    rw [List.Nodup, List.pairwise_map]
    refine List.Pairwise.imp_of_mem ?_ hn
    intro x y hx hy hne e
    obtain ⟨h1, h2⟩ := hl x hx
    obtain ⟨h3, h4⟩ := hl y hy
    have hc := (f3 x y (by omega) (by omega)).mp e
    have hs := hc.stays (C := fun z => z = x ∨ z = 2 * n - 1 - x) (fun u v hu hr => by
      obtain ⟨hv, e9⟩ := R2_symm A B (by omega) hr
      rw [hb u (by omega)] at e9
      unfold strF at e9
      have e5 := A.inv x (by omega)
      rw [h2] at e5
      rcases hu with rfl | rfl
      · rw [h2] at e9; omega
      · rw [e5] at e9; omega) (.inl rfl)
    (try dsimp only at hs)
    omega
  have := nodup_len _ _ hnd (fun z hz => by
    obtain ⟨x, hx, rfl⟩ := List.mem_map.mp hz
    exact f1 x (by have := (hl x hx).1; omega))
  rw [List.length_map] at this
  exact this
end Rm

set_option linter.all false
namespace Rm
/-! ## one road -/
def up (p k : Nat) : Nat := if k < p then k else k + 2
def dwn (p k : Nat) : Nat := if k < p then k else k - 2
theorem up_cases (p k : Nat) : (k < p ∧ up p k = k) ∨ (p ≤ k ∧ up p k = k + 2) := by unfold up; split <;> omega
theorem dwn_cases (p k : Nat) : (k < p ∧ dwn p k = k) ∨ (p ≤ k ∧ dwn p k = k - 2) := by unfold dwn; split <;> omega
def remF (p : Nat) (a : Nat → Nat) (k : Nat) : Nat := dwn p (a (up p k))
theorem rem_up {m p k : Nat} {a : Nat → Nat} (A : Arcs (m + 2) a) (hp : p + 1 < m + 2) (e : a p = p + 1) (hk : k < m) : remF p a k < m ∧ up p (remF p a k) = a (up p k) := by
  have hu := up_cases p k
  have e1 := A.inv p (by omega)
  rw [e] at e1
  have hl := A.lt (up p k) (by omega)
  have hi := A.inv (up p k) (by omega)
  have n1 : a (up p k) ≠ p := fun z => by rw [z, e] at hi; omega
  have n2 : a (up p k) ≠ p + 1 := fun z => by rw [z, e1] at hi; omega
  unfold remF
  have hd := dwn_cases p (a (up p k))
  have hv := up_cases p (dwn p (a (up p k)))
  omega
theorem rem_arcs {m p : Nat} {a : Nat → Nat} (A : Arcs (m + 2) a) (hp : p + 1 < m + 2) (e : a p = p + 1) : Arcs m (remF p a) := by
  refine ⟨fun k hk => (rem_up A hp e hk).1, fun k hk z => ?_, fun k hk => ?_, fun j k hjk hk h1 h2 => ?_⟩
  · have h := (rem_up A hp e hk).2
    rw [z] at h
    exact A.ne _ (by have := up_cases p k; omega) h.symm
  · have h := rem_up A hp e hk
    have h2 := (rem_up A hp e h.1).2
    rw [h.2, A.inv _ (by have := up_cases p k; omega)] at h2
    have u1 := up_cases p k
    have u2 := up_cases p (remF p a (remF p a k))
    omega
  · have h := rem_up A hp e hk
    have h' := rem_up A hp e (show j < m by omega)
    have u1 := up_cases p k
    have u2 := up_cases p j
    have u3 := up_cases p (remF p a k)
    have u4 := up_cases p (remF p a j)
    refine A.nc (up p j) (up p k) (by omega) (by omega) ?_ ?_
    · rw [← h'.2]; omega
    · rw [← h.2, ← h'.2]; omega
/-- an arc beside -/
theorem near_arc {m : Nat} {a : Nat → Nat} (A : Arcs m a) : ∀ (d k : Nat), k < m → k < a k → a k - k ≤ d + 1 → ∃ p, p + 1 < m ∧ a p = p + 1
  | 0, k, hk, h1, h2 => ⟨k, by have := A.lt k hk; omega, by omega⟩
  | d + 1, k, hk, h1, h2 => by
    by_cases c : a k = k + 1
    · exact ⟨k, by have := A.lt k hk; omega, c⟩
    · have l1 := A.lt k hk
      have hk1 : k + 1 < m := by omega
      have i1 := A.inv (k + 1) hk1
      have n1 := A.ne (k + 1) hk1
      have i0 := A.inv k hk
      have l2 := A.lt (k + 1) hk1
      have nk : a (k + 1) ≠ k := fun z => by rw [z] at i1; exact c i1
      have nk2 : a (k + 1) ≠ a k := fun z => by rw [z, i0] at i1; omega
      by_cases h : k + 1 < a (k + 1)
      · have := A.nc k (k + 1) (by omega) hk1 (by omega)
        have h5 : ¬ a k < a (k + 1) := this
        exact near_arc A d (k + 1) hk1 h (by omega)
      · exfalso
        exact A.nc (a (k + 1)) k (by omega) hk (by rw [i1]; omega) (by rw [i1]; omega)
theorem near_some {m : Nat} {a : Nat → Nat} (A : Arcs m a) (hm : 0 < m) : ∃ p, p + 1 < m ∧ a p = p + 1 := by
  have := A.ne 0 hm
  exact near_arc A (a 0) 0 hm (by omega) (by omega)
/-- seen from a gap -/
structure Vis (m p x y nx ny : Nat) (b : Nat → Nat) : Prop where
  xl : x < m
  yl : y < m
  xy : x < y
  e : b x = y
  w : (x < p ∧ p ≤ y ∧ nx = p ∧ ny = p + 1 ∧ ∀ k, x < k → k < p → b k < p) ∨ (y + 1 = p ∧ nx = p + 1 ∧ ny = p ∧ ∀ k, k < p → b k < p) ∨ (p = 0 ∧ x = 0 ∧ nx = p + 1 ∧ ny = p)
def joinF (p X nx Y ny : Nat) (b : Nat → Nat) (k : Nat) : Nat := if k = X then nx else if k = nx then X else if k = Y then ny else if k = ny then Y else up p (b (dwn p k))
theorem join_old {m p x y nx ny : Nat} {b : Nat → Nat} (B : Arcs m b) (V : Vis m p x y nx ny b) (hp : p ≤ m) {k : Nat} (hk : k < m + 2) (h1 : k ≠ up p x) (h2 : k ≠ nx) (h3 : k ≠ up p y) (h4 : k ≠ ny) :
    ∃ k' z, k' < m ∧ b k' = z ∧ b z = k' ∧ z < m ∧ z ≠ k' ∧ ((k' < p ∧ k = k') ∨ (p ≤ k' ∧ k = k' + 2)) ∧ ((z < p ∧ joinF p (up p x) nx (up p y) ny b k = z) ∨ (p ≤ z ∧ joinF p (up p x) nx (up p y) ny b k = z + 2)) ∧ k' ≠ x ∧ k' ≠ y ∧ z ≠ x ∧ z ≠ y := by
  have hn : (nx = p ∧ ny = p + 1) ∨ (nx = p + 1 ∧ ny = p) := by have := V.w; omega
  have hd := dwn_cases p k
  have ux := up_cases p x
  have uy := up_cases p y
  have hx := V.xl
  have hy := V.yl
  have e1 := V.e
  have e2 := B.inv x hx
  rw [e1] at e2
  have hk' : dwn p k < m := by omega
  have l1 := B.lt _ hk'
  have i1 := B.inv _ hk'
  refine ⟨dwn p k, b (dwn p k), hk', rfl, i1, l1, B.ne _ hk', by omega, ?_, by omega, by omega, fun z => ?_, fun z => ?_⟩
  · unfold joinF
    rw [if_neg h1, if_neg h2, if_neg h3, if_neg h4]
    have := up_cases p (b (dwn p k))
    omega
  · rw [z, e1] at i1; omega
  · rw [z, e2] at i1; omega
theorem join_arcs {m p x y nx ny : Nat} {b : Nat → Nat} (B : Arcs m b) (V : Vis m p x y nx ny b) (hp : p ≤ m) : Arcs (m + 2) (joinF p (up p x) nx (up p y) ny b) := by
  have hn : (nx = p ∧ ny = p + 1) ∨ (nx = p + 1 ∧ ny = p) := by have := V.w; omega
  have ux := up_cases p x
  have uy := up_cases p y
  have hx := V.xl
  have hy := V.yl
  have hxy := V.xy
  have f1 : joinF p (up p x) nx (up p y) ny b (up p x) = nx := by unfold joinF; rw [if_pos rfl]
  have f2 : joinF p (up p x) nx (up p y) ny b nx = up p x := by unfold joinF; rw [if_neg (by omega), if_pos rfl]
  have f3 : joinF p (up p x) nx (up p y) ny b (up p y) = ny := by unfold joinF; rw [if_neg (by omega), if_neg (by omega), if_pos rfl]
  have f4 : joinF p (up p x) nx (up p y) ny b ny = up p y := by unfold joinF; rw [if_neg (by omega), if_neg (by omega), if_neg (by omega), if_pos rfl]
  have old := fun k hk h1 h2 h3 h4 => join_old B V hp (k := k) hk h1 h2 h3 h4
  have w := V.w
  have e1 := V.e
  have e2 := B.inv x hx
  rw [e1] at e2
  have nc1 := fun j => B.nc j x
  have nc2 := fun j => B.nc x j
  have nc3 := B.nc
  generalize up p x = X at *
  generalize up p y = Y at *
  generalize hF : joinF p X nx Y ny b = F at *
  have cs : (X = x ∧ Y = y + 2 ∧ nx = p ∧ ny = p + 1 ∧ x < p ∧ p ≤ y ∧ ∀ k, x < k → k < p → b k < p) ∨ (X = x ∧ Y = y ∧ nx = p + 1 ∧ ny = p ∧ y + 1 = p ∧ ∀ k, k < p → b k < p) ∨ (p = 0 ∧ x = 0 ∧ X = 2 ∧ Y = y + 2 ∧ nx = 1 ∧ ny = 0) := by
    rcases w with ⟨a1, a2, a3, a4, a5⟩ | ⟨a1, a2, a3, a4⟩ | ⟨a1, a2, a3, a4⟩
    · exact .inl ⟨by omega, by omega, a3, a4, a1, a2, a5⟩
    · exact .inr (.inl ⟨by omega, by omega, a2, a3, a1, a4⟩)
    · exact .inr (.inr ⟨a1, a2, by omega, by omega, by omega, by omega⟩)
  clear w hn ux uy V hF
  have all : ∀ k, k = X ∨ k = nx ∨ k = Y ∨ k = ny ∨ (k ≠ X ∧ k ≠ nx ∧ k ≠ Y ∧ k ≠ ny) := fun k => by omega
  have hX : X < m + 2 ∧ Y < m + 2 ∧ nx < m + 2 ∧ ny < m + 2 ∧ X ≠ nx ∧ Y ≠ ny := by rcases cs with c | c | c <;> omega
  obtain ⟨l1, l2, l3, l4, l5, l6⟩ := hX
  have oldn : ∀ k, k < m + 2 → k ≠ X → k ≠ nx → k ≠ Y → k ≠ ny → F k < m + 2 ∧ F k ≠ k ∧ F k ≠ X ∧ F k ≠ nx ∧ F k ≠ Y ∧ F k ≠ ny ∧ F (F k) = k := fun k hk a1 a2 a3 a4 => by
    obtain ⟨k', z, q1, q2, q3, q4, q5, q6, q7, q8, q9, q10, q11⟩ := old k hk a1 a2 a3 a4
    have hz : F k < m + 2 ∧ F k ≠ k ∧ F k ≠ X ∧ F k ≠ nx ∧ F k ≠ Y ∧ F k ≠ ny := by
      clear old all nc1 nc2 nc3
      rcases cs with ⟨rfl, rfl, rfl, rfl, c1, c2, c3⟩ | ⟨rfl, rfl, rfl, rfl, rfl, c3⟩ | ⟨rfl, rfl, rfl, rfl, rfl, rfl⟩
      · clear c3; rcases q7 with ⟨_, h⟩ | ⟨_, h⟩ <;> rcases q6 with ⟨_, h'⟩ | ⟨_, h'⟩ <;> omega
      · clear c3; rcases q7 with ⟨_, h⟩ | ⟨_, h⟩ <;> rcases q6 with ⟨_, h'⟩ | ⟨_, h'⟩ <;> omega
      · rcases q7 with ⟨_, h⟩ | ⟨_, h⟩ <;> rcases q6 with ⟨_, h'⟩ | ⟨_, h'⟩ <;> omega
    obtain ⟨z1, z2, z3, z4, z5, z6⟩ := hz
    refine ⟨z1, z2, z3, z4, z5, z6, ?_⟩
    obtain ⟨k2, y2, r1, r2, r3, r4, r5, r6, r7, r8⟩ := old (F k) z1 z3 z4 z5 z6
    have hkz : k2 = z := by
      clear old all nc1 nc2 nc3 cs
      rcases q7 with ⟨_, h⟩ | ⟨_, h⟩ <;> rcases r6 with ⟨_, h'⟩ | ⟨_, h'⟩ <;> omega
    subst hkz
    have : y2 = k' := by rw [← r2, q3]
    subst this
    clear old all nc1 nc2 nc3 cs
    rcases q6 with ⟨_, h⟩ | ⟨_, h⟩ <;> rcases r7 with ⟨_, h'⟩ | ⟨_, h'⟩ <;> omega
  refine ⟨fun k hk => ?_, fun k hk => ?_, fun k hk => ?_, fun j k hjk hk h1 h2 => ?_⟩
  · rcases all k with h | h | h | h | ⟨a1, a2, a3, a4⟩
    · rw [h, f1]; exact l3
    · rw [h, f2]; exact l1
    · rw [h, f3]; exact l4
    · rw [h, f4]; exact l2
    · exact (oldn k hk a1 a2 a3 a4).1
  · rcases all k with h | h | h | h | ⟨a1, a2, a3, a4⟩
    · rw [h, f1]; exact fun z => l5 z.symm
    · rw [h, f2]; exact l5
    · rw [h, f3]; exact fun z => l6 z.symm
    · rw [h, f4]; exact l6
    · exact (oldn k hk a1 a2 a3 a4).2.1
  · rcases all k with h | h | h | h | ⟨a1, a2, a3, a4⟩
    · rw [h, f1, f2]
    · rw [h, f2, f1]
    · rw [h, f3, f4]
    · rw [h, f4, f3]
    · exact (oldn k hk a1 a2 a3 a4).2.2.2.2.2.2
  · have hj : j < m + 2 := by omega
    -- an old one and a new one
    have new : ∀ k, k = X ∨ k = nx ∨ k = Y ∨ k = ny → k < F k → (k = X ∧ F k = nx) ∨ (k = nx ∧ F k = X) ∨ (k = Y ∧ F k = ny) ∨ (k = ny ∧ F k = Y) := fun k h _ => by
      rcases h with h | h | h | h
      · exact .inl ⟨h, by rw [h, f1]⟩
      · exact .inr (.inl ⟨h, by rw [h, f2]⟩)
      · exact .inr (.inr (.inl ⟨h, by rw [h, f3]⟩))
      · exact .inr (.inr (.inr ⟨h, by rw [h, f4]⟩))
    have facts : ∀ k, k < m + 2 → k ≠ X → k ≠ nx → k ≠ Y → k ≠ ny → ∃ k' z, k' < m ∧ b k' = z ∧ z < m ∧ ((k' < p ∧ k = k') ∨ (p ≤ k' ∧ k = k' + 2)) ∧ ((z < p ∧ F k = z) ∨ (p ≤ z ∧ F k = z + 2)) ∧ k' ≠ x ∧ k' ≠ y ∧ z ≠ x ∧ z ≠ y ∧ ¬ (k' < x ∧ x < z ∧ z < y) ∧ ¬ (x < k' ∧ k' < y ∧ y < z) ∧ b z = k' := fun k hk a1 a2 a3 a4 => by
      obtain ⟨k', z, q1, q2, q3, q4, q5, q6, q7, q8, q9, q10, q11⟩ := old k hk a1 a2 a3 a4
      refine ⟨k', z, q1, q2, q4, q6, q7, q8, q9, q10, q11, fun ⟨g1, g2, g3⟩ => ?_, fun ⟨g1, g2, g3⟩ => ?_, q3⟩
      · exact nc1 k' g1 hx (by rw [q2]; exact g2) (by rw [q2, e1]; exact g3)
      · exact nc2 k' g1 q1 (by rw [e1]; exact g2) (by rw [q2, e1]; exact g3)
    by_cases nj : j = X ∨ j = nx ∨ j = Y ∨ j = ny
    · have Nj := new j nj (by omega)
      by_cases nk : k = X ∨ k = nx ∨ k = Y ∨ k = ny
      · have Nk := new k nk (by omega)
        clear old oldn facts new nc1 nc2 nc3 all
        rcases cs with ⟨d1, d2, d3, d4, c1, c2, c3⟩ | ⟨d1, d2, d3, d4, d5, c3⟩ | ⟨d1, d2, d3, d4, d5, d6⟩ <;> omega
      · obtain ⟨k', z, q1, q2, q3, q4, q5, q6, q7, q8, q9, q10, q11, q12⟩ := facts k hk (by omega) (by omega) (by omega) (by omega)
        clear old oldn facts new nc1 nc2 nc3 all
        rcases cs with ⟨d1, d2, d3, d4, c1, c2, c3⟩ | ⟨d1, d2, d3, d4, d5, c3⟩ | ⟨d1, d2, d3, d4, d5, d6⟩
        · have c4 : ¬ (x < k' ∧ k' < p ∧ p ≤ z) := fun ⟨g1, g2, g3⟩ => by have := c3 k' g1 g2; omega
          clear c3
          omega
        · have c4 : ¬ (k' < y + 1 ∧ y + 1 ≤ z) := fun ⟨g1, g2⟩ => by have := c3 k' (by omega); omega
          clear c3
          omega
        · omega
    · obtain ⟨j', zj, t1, t2, t3, t4, t5, t6, t7, t8, t9, t10, t11, t12⟩ := facts j hj (by omega) (by omega) (by omega) (by omega)
      by_cases nk : k = X ∨ k = nx ∨ k = Y ∨ k = ny
      · have Nk := new k nk (by omega)
        clear old oldn facts new nc1 nc2 nc3 all
        rcases cs with ⟨d1, d2, d3, d4, c1, c2, c3⟩ | ⟨d1, d2, d3, d4, d5, c3⟩ | ⟨d1, d2, d3, d4, d5, d6⟩
        · have c4 : ¬ (x < j' ∧ j' < p ∧ p ≤ zj) := fun ⟨g1, g2, g3⟩ => by have := c3 j' g1 g2; omega
          have c5 : ¬ (x < zj ∧ zj < p ∧ p ≤ j') := fun ⟨g1, g2, g3⟩ => by have := c3 zj g1 g2; omega
          clear c3
          omega
        · have c4 : ¬ (j' < y + 1 ∧ y + 1 ≤ zj) := fun ⟨g1, g2⟩ => by have := c3 j' (by omega); omega
          have c5 : ¬ (zj < y + 1 ∧ y + 1 ≤ j') := fun ⟨g1, g2⟩ => by have := c3 zj (by omega); omega
          clear c3
          omega
        · omega
      · obtain ⟨k', z, q1, q2, q3, q4, q5, q6, q7, q8, q9, q10, q11, q12⟩ := facts k hk (by omega) (by omega) (by omega) (by omega)
        exact nc3 j' k' (by clear old oldn facts new nc1 nc2 nc3 all cs t10 t11 q10 q11 q5 t5; omega) q1 (by rw [t2]; clear old oldn facts new nc1 nc2 nc3 all cs t10 t11 q10 q11 q5 t4; omega) (by rw [t2, q2]; clear old oldn facts new nc1 nc2 nc3 all cs t10 t11 q10 q11 q4 t4; omega)
/-- all is joined -/
def AllC (a b : Nat → Nat) (m : Nat) : Prop := ∀ u v, u < m → v < m → Conn (R2 a b m) u v
theorem all_one {a b : Nat → Nat} {m : Nat} (A : Inv2 m a) (B : Inv2 m b) (h : AllC a b m) (hm : 0 < m) : (roadsM a b m).length = 1 :=
  (comp_roads A B).unique ⟨fun _ => 0, fun _ _ => Nat.zero_lt_one, fun i hi => ⟨0, hm, by show 0 = i; omega⟩, fun u v hu hv => ⟨fun _ => h u v hu hv, fun _ => rfl⟩⟩
theorem join_all {m p x y nx ny : Nat} {a b r F : Nat → Nat} (A : Arcs (m + 2) a) (B : Arcs m b) (V : Vis m p x y nx ny b) (hp : p ≤ m) (e : a p = p + 1) (hr : ∀ k, k < m → r k = remF p a k) (hF : ∀ k, k < m + 2 → F k = joinF p (up p x) nx (up p y) ny b k)
    (h : AllC r b m) : AllC a F (m + 2) := by
  have hn : (nx = p ∧ ny = p + 1) ∨ (nx = p + 1 ∧ ny = p) := by have := V.w; omega
  have ux := up_cases p x
  have uy := up_cases p y
  have hx := V.xl
  have hy := V.yl
  have hxy := V.xy
  have e1 := V.e
  have e2 := B.inv x hx
  rw [e1] at e2
  have JA := join_arcs B V hp
  have FI : Inv2 (m + 2) F := (JA.congr hF).inv2
  have RA : Arcs m r := (rem_arcs A (by omega) e).congr hr
  have ep := A.inv p (by omega)
  rw [e] at ep
  have f1 : F (up p x) = nx := by rw [hF _ (by omega)]; unfold joinF; rw [if_pos rfl]
  have f3 : F (up p y) = ny := by rw [hF _ (by omega)]; unfold joinF; rw [if_neg (by omega), if_neg (by omega), if_pos rfl]
  have cF : ∀ u, u < m + 2 → Conn (R2 a F (m + 2)) u (F u) := fun u hu => .one ⟨hu, .inr rfl⟩
  have cA : ∀ u, u < m + 2 → Conn (R2 a F (m + 2)) u (a u) := fun u hu => .one ⟨hu, .inl rfl⟩
  have n12 : Conn (R2 a F (m + 2)) nx ny := by
    rcases hn with ⟨q1, q2⟩ | ⟨q1, q2⟩
    · rw [q1, q2, ← e]; exact cA p (by omega)
    · rw [q1, q2, ← e]; exact (cA p (by omega)).symm
  have xy : Conn (R2 a F (m + 2)) (up p x) (up p y) := by
    have h1 := cF (up p x) (by omega)
    have h3 := cF (up p y) (by omega)
    rw [f1] at h1
    rw [f3] at h3
    exact (h1.trans n12).trans h3.symm
  have cU : ∀ u, u < m → Conn (R2 a F (m + 2)) (up p x) (up p u) := fun u hu => by
    refine (conn_map (V := fun v => v < m) (up p) (fun s t hs hst => ?_) (h x u hx hu) hx).2
    obtain ⟨ht, q⟩ := R2_symm RA.inv2 B.inv2 hs hst
    refine ⟨ht, ?_⟩
    have us := up_cases p s
    rcases q with q | q
    · rw [← q, hr s hs, (rem_up A (by omega) e hs).2]
      exact cA _ (by omega)
    · by_cases c1 : s = x
      · have : t = y := by rw [← q, c1, e1]
        rw [c1, this]; exact xy
      · by_cases c2 : s = y
        · have : t = x := by rw [← q, c2, e2]
          rw [c2, this]; exact xy.symm
        · have hus : F (up p s) = up p t := by
            rw [hF _ (by omega)]
            unfold joinF
            rw [if_neg (by omega), if_neg (by omega), if_neg (by omega), if_neg (by omega)]
            have : dwn p (up p s) = s := by have := dwn_cases p (up p s); omega
            rw [this, q]
          rw [← hus]
          exact cF _ (by omega)
  have cAll : ∀ u, u < m + 2 → Conn (R2 a F (m + 2)) (up p x) u := fun u hu => by
    have cx : Conn (R2 a F (m + 2)) (up p x) nx := by rw [← f1]; exact cF _ (by omega)
    by_cases c1 : u = nx
    · rw [c1]; exact cx
    · by_cases c2 : u = ny
      · rw [c2]; exact cx.trans n12
      · have h1 : dwn p u < m := by have := dwn_cases p u; omega
        have h2 : up p (dwn p u) = u := by have := dwn_cases p u; have := up_cases p (dwn p u); omega
        have := cU _ h1
        rw [h2] at this
        exact this
  exact fun u v hu hv => (cAll u hu).symm.trans (cAll v hv)
end Rm

namespace Rv
open PySem PySem.Spec PyProof.Rows L2
open Rm (zs at')
def topS (i : Nat) : Stmt := PySem.Challenge.pw_riverloops_k08_whole_one_road.main.body.getD i (.Pass ⟨0, 0, 0, 0⟩)
structure Blt (mg : Str → Option Value) : Prop where
  len_ : mg "len" = none
  range_ : mg "range" = none
  isinstance_ : mg "isinstance" = none
  int_ : mg "int" = none
  bool_ : mg "bool" = none
  list_ : mg "list" = none
  str_ : mg "str" = none
  reversed_ : mg "reversed" = none
  min_ : mg "min" = none
  max_ : mg "max" = none
  abs_ : mg "abs" = none
  sum_ : mg "sum" = none
  set_ : mg "set" = none
  tuple_ : mg "tuple" = none
/-! ### common words of the walks -/
theorem hu64 {A : Around} {k : Nat} (hr : Room k A) : A.units + 64 < cLine := hr.units
/-- a def of the text: where it stands, what name it has -/
structure Dfn (K : PySem.W.Frag) (mg : Str → Option Value) (x : Str) (st : Stmt) (ps : List Str) : Prop where
  ex : ∃ (f : Addr) (fd : FuncData), Fun K x x st f fd ∧ mg x = some (.ref f) ∧ Binds K fd ps []
/-- a def that may be called by its name, and what it is worth; nothing leaves it -/
structure Cal (P : Program) (w : World) (K : PySem.W.Frag) (mg : Str → Option Value) (base : Heap) (k : Nat) (x : Str) (sp : Sp) : Prop where
  ex : ∃ (f : Addr) (fd : FuncData) (ps : List Str), FnOk P w K mg base CX0 k f fd ps sp ∧ mg x = some (.ref f) ∧ PySem.W.keepIn K (.ref f) = true ∧ Binds K fd ps []
theorem pe_c {X : Cx} {x : Str} {p pos : Pos} {e : Expr} {es : List Expr} {t : TA} {sp : Sp} {j k : Nat} (c : Cal X.prog X.w X.K X.mg X.base k x sp) (hr : Room j X.A) (hk : k ≤ j) (hg : Gl X x) (ha : PA X (e :: es) t)
    (hdb : (x == ("__debug__" : Str)) = false := by decide) (he : starEach (e :: es) X.env = (false, eval e X.env) :: starEach es X.env := by rfl) (hpl : (backTo pos (starEach es X.env)).any (·.1) = false := by rfl) :
    PE X (.Call (.Name x p) (e :: es) [] pos) (tCall sp [] E0 t) := by
  obtain ⟨f, fd, ps, F, hm, kp, b⟩ := c.ex
  exact pe_call F (hr.mono hk) hg hm kp b .nil pass0 ha hdb he hpl
section
variable {P : Program} {w : World} {K : PySem.W.Frag} {mg : Str → Option Value} {base : Heap}
theorem Dfn.cal {x : Str} {st : Stmt} {N ps : List Str} {k : Nat} {sp : Sp} (D : Dfn K mg x st ps) (S : FnScope N ps (defScope st)) (len : ∀ vs H Q E, sp vs H Q E → vs.length = ps.length)
    (hbody : ∀ (f : Addr) (cdv : Value) (A : Around) (outer : List Env) (s : Shared) (H : Hp) (vs : List V) (Q : VK) (E : XK), Room k (A.deeper (envOfC x (defScope st) s.heap.objs.size f cdv)) → sp vs H Q E →
      ∃ t, PSs (cxOf CX0 P w K mg base N x (defScope st) f cdv A outer s H E).nox (defBody st) t ∧ t { nx := fun _ H' => Q .non H', rt := Q } (start N vs) H) : Cal P w K mg base (k + 1) x sp := by
  obtain ⟨f, fd, F, hm, b⟩ := D.ex
  exact ⟨f, fd, ps, F.ok S len (fun cdv A outer s H vs Q E hr h => hbody f cdv A outer s H vs Q E hr h), hm, F.kp, b⟩
theorem cal_imp {x : Str} {k : Nat} {sp sp' : Sp} (c : Cal P w K mg base k x sp) (h : ∀ vs H Q E, sp' vs H Q E → sp vs H Q E) : Cal P w K mg base k x sp' := by
  obtain ⟨f, fd, ps, F, a, b, d⟩ := c.ex
  exact ⟨f, fd, ps, F.imp h, a, b, d⟩
theorem cal_mono {x : Str} {j k : Nat} {sp : Sp} (c : Cal P w K mg base j x sp) (h : j ≤ k) : Cal P w K mg base k x sp := by
  obtain ⟨f, fd, ps, F, a, b, d⟩ := c.ex
  exact ⟨f, fd, ps, F.mono h, a, b, d⟩
end
/-! heaps -/
theorem same_new {H : Hp} {p : Addr} {o : HO} (h : H p = none) : Same H (upd H p o) := fun b x e => by
  rw [upd_ne (ne_of_none e h)]
  exact e
/-- a store to an object that H did not hold -/
theorem same_upd {H H' : Hp} {p : Addr} {o : HO} (sm : Same H H') (h : H p = none) : Same H (upd H' p o) := fun b x e => by
  rw [upd_ne (ne_of_none e h)]
  exact sm b x e
theorem sqL {K : PySem.W.Frag} {H : Hp} {p : Addr} {xs : List V} (h : H p = some (.lst xs)) : SqL K H p xs := .inl (.inl h)
theorem sqT {K : PySem.W.Frag} {H : Hp} {p : Addr} {xs : List V} (h : H p = some (.tup xs)) : SqT K H p xs := .inl (.inl h)
theorem small63 {n : Nat} (h : n ≤ 100000) : n < sizeLine := Nat.lt_of_le_of_lt h (by decide)
theorem small63' {n : Nat} (h : n ≤ 100000) : n ≤ sizeLine := Nat.le_of_lt (small63 h)
/-! lists -/
abbrev vi (s : List Int) : List V := s.map V.int
abbrev vn (a : List Nat) : List V := vi (zs a)
theorem vi_get {s : List Int} {k : Nat} (h : k < s.length) : (vi s)[k]? = some (.int (Rm.g s k)) := by
  rw [List.getElem?_map, List.getElem?_eq_getElem h]
  simp [Rm.g, List.getD_eq_getElem?_getD, h]
theorem vi_at {s : List Int} {k : Nat} {z : Int} (h : k < s.length) (e : z = (k : Int)) : atI (vi s) z = some (.int (Rm.g s k)) := at_of e (vi_get h)
theorem vi_append (s t : List Int) : vi s ++ vi t = vi (s ++ t) := (List.map_append).symm
theorem zs_append (s t : List Nat) : zs s ++ zs t = zs (s ++ t) := (List.map_append).symm
theorem vn_push (s : List Nat) (k : Nat) : vn s ++ [V.int (k : Int)] = vn (s ++ [k]) := by simp [vn, vi, zs]
theorem vn_last (s : List Nat) (k : Nat) : (vn (s ++ [k]))[(vn (s ++ [k])).length - 1]? = some (.int (k : Int)) := by simp [vn, vi, zs]
theorem vn_drop (s : List Nat) (k : Nat) : (vn (s ++ [k])).dropLast = vn s := by simp [vn, vi, zs]
theorem vn_len (s : List Nat) : (vn s).length = s.length := by simp [vn, vi, zs]
/-! tests that are decided -/
theorem dn {p : Prop} [Decidable p] (h : ¬ decide p = true) : ¬ p := fun z => h (decide_eq_true z)
theorem nd {p : Prop} [Decidable p] (h : ¬ (!decide p) = true) : p := by
  by_cases q : p
  · exact q
  · rw [decide_eq_false q] at h; exact absurd rfl h
theorem nt {p : Prop} [Decidable p] (h : (!decide p) = true) : ¬ p := fun z => by
  rw [decide_eq_true z] at h; exact nomatch h
theorem ixN_nat {n k : Nat} (h : k < n) : ixN n (k : Int) = some k := by
  unfold ixN
  rw [if_pos (by omega), if_pos (by omega), Int.toNat_natCast]
theorem ixN_of {n k : Nat} {z : Int} (e : z = (k : Int)) (h : k < n) : ixN n z = some k := by rw [e]; exact ixN_nat h
theorem vn_set (s : List Nat) (k t : Nat) : (vn s).set k (V.int (t : Int)) = vn (s.set k t) := by simp [vn, vi, zs, List.map_set]
theorem vi_set (s : List Int) (k : Nat) (t : Int) : (vi s).set k (V.int t) = vi (s.set k t) := by simp [vi, List.map_set]
theorem rep1 {α : Type} (x : α) : ∀ n : Nat, (List.replicate n [x]).flatten = List.replicate n x
  | 0 => rfl
  | n + 1 => by rw [List.replicate_succ, List.flatten_cons, rep1 x n, List.replicate_succ]; rfl
theorem vn_rep (n : Nat) : List.replicate n (V.int 0) = vn (List.replicate n 0) := by simp [vn, vi, zs]
theorem zs_g (a : List Nat) (k : Nat) : Rm.g (zs a) k = ((at' a k : Nat) : Int) := by
  simp only [Rm.g, at', zs, List.getD_eq_getElem?_getD, List.getElem?_map]
  cases a[k]? <;> simp
theorem vn_at {a : List Nat} {k : Nat} {z : Int} (h : k < a.length) (e : z = (k : Int)) : atI (vn a) z = some (.int ((at' a k : Nat) : Int)) := by
  have := vi_at (s := zs a) (by simpa using h) e
  rw [zs_g] at this
  exact this
theorem vn_get {a : List Nat} {k : Nat} (h : k < a.length) : (vn a)[k]? = some (.int ((at' a k : Nat) : Int)) := by
  have := vi_get (s := zs a) (k := k) (by simpa using h)
  rw [zs_g] at this
  exact this
/-! texts by their signs -/
def tx (cs : List Nat) : Str := ⟨cs.toArray⟩
theorem tx_len (cs : List Nat) : (tx cs).length = cs.length := by simp [tx, Str.length]
theorem tx_lp : (("(" : String) : Str) = tx [40] := by decide +kernel
theorem tx_rp : ((")" : String) : Str) = tx [41] := by decide +kernel
theorem tx_nil : (("" : String) : Str) = tx [] := by decide +kernel
theorem tx_app (a b : List Nat) : tx a ++ tx b = tx (a ++ b) := by
  show Str.append (tx a) (tx b) = _
  simp [tx, Str.append]
theorem tx_inj {a b : List Nat} (h : tx a = tx b) : a = b := by
  have := congrArg (fun s : Str => s.cps.toList) h
  simpa [tx] using this
theorem tx_join : ∀ l : List Nat, Str.join (tx []) (l.map fun c => tx [c]) = tx l
  | [] => rfl
  | [c] => rfl
  | c :: d :: r => by
    have h := tx_join (d :: r)
    show tx [c] ++ tx [] ++ Str.join (tx []) ((d :: r).map fun c => tx [c]) = _
    rw [h, tx_app, tx_app]
    rfl
theorem tx_get {cs : List Nat} {k c : Nat} (h : cs[k]? = some c) : (tx cs).cps[k]? = some c := by simpa [tx] using h
/-! lists of ints as data -/
theorem dp_vi {K : PySem.W.Frag} {H : Hp} : ∀ s : List Int, DpAll K H (vi s) (s.map PyData.int)
  | [] => .nil
  | x :: r => .cons (.int x) (dp_vi r)
theorem rEq_ints {K : PySem.W.Frag} {H : Hp} {a b : Addr} {s t : List Int} {Q : VK} (ha : SqL K H a (vi s)) (hb : SqL K H b (vi t)) (q : Q (.bl (decide (s = t))) H) : rEqD K (.ref a) (.ref b) H Q := by
  refine ⟨_, _, .lst ha (dp_vi s), .lst hb (dp_vi t), PySem.W.ke_shaped_ints s, PySem.W.ke_shaped_ints t, ?_⟩
  rw [PyData.eqv, PySem.W.ked_eqvAll]
  exact q
theorem rNe_ints {K : PySem.W.Frag} {H : Hp} {a b : Addr} {s t : List Int} {Q : VK} (ha : SqL K H a (vi s)) (hb : SqL K H b (vi t)) (q : Q (.bl (!decide (s = t))) H) : rNeD K (.ref a) (.ref b) H Q := by
  refine ⟨_, _, .lst ha (dp_vi s), .lst hb (dp_vi t), PySem.W.ke_shaped_ints s, PySem.W.ke_shaped_ints t, ?_⟩
  rw [PyData.eqv, PySem.W.ked_eqvAll]
  exact q
/-! ways that meet: G is found at the first use -/
theorem joinC {α : Type} {C G : α → Prop} {goal : Prop} (h : (∀ x, C x → G x) → goal) (hG : ∀ x, C x → G x) : goal := h hG
def rLenK (K : PySem.W.Frag) : List V → Hp → VK → Prop := fun xs H Q => ∃ p ys, xs = [.ref p] ∧ (SqL K H p ys ∨ SqT K H p ys) ∧ Q (.int ((ys.length : Nat) : Int)) H
/-! a chain of three comparisons as a test -/
def tChain3 (r r' r'' : R2) (ta tb tc td : TE) : TE := fun σ H Q => ta σ H fun x H1 => tb σ H1 fun y H2 => r x y H2 fun z H3 => ∃ k, z = .bl k ∧ (if k = true then tc σ H3 fun u H4 => r' y u H4 fun z' H5 => ∃ k', z' = .bl k' ∧ (if k' = true then td σ H5 fun v H6 => r'' u v H6 Q else Q (.bl false) H5) else Q (.bl false) H3)
theorem pt_chain3 {X : Cx} {a b c d : Expr} {pos : Pos} {ta tb tc td : TE} {op op' op'' : CmpOp} {r r' r'' : R2} (ho : OpR X (compareOp op) r) (ho' : OpR X (compareOp op') r') (ho'' : OpR X (compareOp op'') r'') (ha : PE X a ta) (hb : PE X b tb) (hc : PE X c tc) (hd : PE X d td)
    (hm : lastMarks [op, op', op''] [b, c, d] = false := by with_unfolding_all rfl) : PT X (.Compare a [op, op', op''] [b, c, d] pos) (tTest (tChain3 r r' r'' ta tb tc td)) := by
  refine ⟨fun pins s σ H Q I h => ?_⟩
  refine isTrue_chain (thn (ha.run pins s σ H _ I h) fun v s1 ⟨x, H1, I1, r1, q1⟩ => test_link (thn (hb.run pins s1 σ H1 _ I1 q1) fun u s2 ⟨y, H2, I2, r2, q2⟩ =>
    thn (ho pins s2 σ H2 x y v u _ I2 r1 r2 q2) fun d1 s3 ⟨z, H3, I3, r3, k, e, q3⟩ => ?_)) hm
  subst e
  cases r3
  refine wpAny_truthy_bool ?_
  cases k with
  | false =>
    obtain ⟨k', e', q'⟩ := q3
    cases e'
    exact ite_ff ⟨H3, I3, q'⟩
  | true =>
    refine ite_tt (test_link (thn (hc.run pins s3 σ H3 _ I3 q3) fun w' s4 ⟨z', H4, I4, r4, q4⟩ =>
      thn (ho' pins s4 σ H4 y z' u w' _ I4 r2 r4 q4) fun d2 s5 ⟨z5, H5, I5, r5, k5, e5, q5⟩ => ?_))
    subst e5
    cases r5
    refine wpAny_truthy_bool ?_
    cases k5 with
    | false =>
      obtain ⟨k', e', q'⟩ := q5
      cases e'
      exact ite_ff ⟨H5, I5, q'⟩
    | true =>
      refine ite_tt (test_last (thn (hd.run pins s5 σ H5 _ I5 q5) fun w6 s6 ⟨z6, H6, I6, r6, q6⟩ => thn (ho'' pins s6 σ H6 z' z6 w' w6 _ I6 r4 r6 q6) fun d3 s7 ⟨z7, H7, I7, r7, k7, e7, q7⟩ => ?_))
      subst e7
      cases r7
      exact wpAny_truthy_bool ⟨H7, I7, q7⟩
/-! a new list is handed back, all else stays -/
def NewL (H : Hp) (Q : VK) (l : List Nat) : Prop := ∀ H' p, Same H H' → H p = none → H' p = some (.lst (vn l)) → Q (.ref p) H'
theorem vn_take (l : List Nat) (i : Nat) (c : Nat) (h : l[i]? = some c) : vn (l.take i) ++ [V.int (c : Int)] = vn (l.take (i + 1)) := by
  rw [vn_push, List.take_add_one, h]
  rfl
theorem vn_full {l : List Nat} {m : Nat} (h : l.length = m) : l.take m = l := List.take_of_length_le (by omega)
theorem size_of {z : Int} (m : Int) (h : 0 < m) (h20 : m ≤ 20) : ∃ n : Nat, 1 + z.fmod m = (n : Int) ∧ 1 ≤ n ∧ (n : Int) ≤ m := by
  have h0 := Int.fmod_nonneg_of_pos z h
  have h1 := Int.fmod_lt_of_pos z h
  exact ⟨(1 + z.fmod m).toNat, by omega, by omega, by omega⟩
/-! nested data -/
theorem dEq {K : PySem.W.Frag} {H : Hp} {α : Type} [DecidableEq α] [PySem.W.Datum α] {x y : V} {c d : α} {Q : VK} (hx : Dp K H x (PySem.W.Datum.toD c)) (hy : Dp K H y (PySem.W.Datum.toD d))
    (sx : SeqAt.shaped (PySem.W.Datum.toD c) = true) (sy : SeqAt.shaped (PySem.W.Datum.toD d) = true) (q : Q (.bl (decide (c = d))) H) : rEqD K x y H Q := ⟨_, _, hx, hy, sx, sy, by rw [PySem.W.Datum.eqv]; exact q⟩
theorem dNe {K : PySem.W.Frag} {H : Hp} {α : Type} [DecidableEq α] [PySem.W.Datum α] {x y : V} {c d : α} {Q : VK} (hx : Dp K H x (PySem.W.Datum.toD c)) (hy : Dp K H y (PySem.W.Datum.toD d))
    (sx : SeqAt.shaped (PySem.W.Datum.toD c) = true) (sy : SeqAt.shaped (PySem.W.Datum.toD d) = true) (q : Q (.bl (!decide (c = d))) H) : rNeD K x y H Q := ⟨_, _, hx, hy, sx, sy, by rw [PySem.W.Datum.eqv]; exact q⟩
/-- a list of lists of ints: the addresses and what they hold -/
def AllL (K : PySem.W.Frag) (H : Hp) : List V → List (List Int) → Prop
  | [], [] => True
  | .ref p :: r, s :: t => SqL K H p (vi s) ∧ AllL K H r t
  | _, _ => False
theorem AllL.dp {K : PySem.W.Frag} {H : Hp} : ∀ {xs : List V} {ss : List (List Int)}, AllL K H xs ss → DpAll K H xs (ss.map PySem.W.Datum.toD)
  | [], [], _ => .nil
  | [], _ :: _, h => h.elim
  | .ref p :: r, s :: t, h => .cons (.lst h.1 (dp_vi s)) (AllL.dp h.2)
  | .ref _ :: _, [], h => by cases h
  | .non :: _, _, h => by cases h
  | .bl _ :: _, _, h => by cases h
  | .int _ :: _, _, h => by cases h
  | .str _ :: _, _, h => by cases h
  | .byt _ :: _, _, h => by cases h
  | .flt _ :: _, _, h => by cases h
  | .ty _ :: _, _, h => by cases h
theorem AllL.same {K : PySem.W.Frag} {H H' : Hp} (sm : Same H H') : ∀ {xs : List V} {ss : List (List Int)}, AllL K H xs ss → AllL K H' xs ss
  | [], [], _ => True.intro
  | [], _ :: _, h => h.elim
  | .ref p :: r, s :: t, h => ⟨sm.seq h.1, AllL.same sm h.2⟩
  | .ref _ :: _, [], h => by cases h
  | .non :: _, _, h => by cases h
  | .bl _ :: _, _, h => by cases h
  | .int _ :: _, _, h => by cases h
  | .str _ :: _, _, h => by cases h
  | .byt _ :: _, _, h => by cases h
  | .flt _ :: _, _, h => by cases h
  | .ty _ :: _, _, h => by cases h
theorem canLayAll_ll : ∀ ss : List (List Int), PyData.canLayAll0 (ss.map PySem.W.Datum.toD) = true
  | [] => rfl
  | s :: r => by
    rw [List.map_cons, PyData.canLayAll0, canLayAll_ll r, Bool.and_true]
    show PyData.canLay0 (.list (s.map PyData.int)) = true
    rw [PyData.canLay0]
    exact PySem.W.ke_canLayAll0 s
theorem depthAll_ll : ∀ ss : List (List Int), PyData.depthAll (ss.map PySem.W.Datum.toD) ≤ 1
  | [] => Nat.zero_le _
  | s :: r => by
    rw [List.map_cons, PyData.depthAll]
    refine Nat.max_le.mpr ⟨?_, depthAll_ll r⟩
    show PyData.depth (.list (s.map PyData.int)) ≤ 1
    rw [PyData.depth, PySem.W.ke_depthAll]
    exact Nat.le_refl _
theorem shaped_ll (ss : List (List Int)) : SeqAt.shaped (PySem.W.Datum.toD ss) = true := by
  show (PyData.canLay0 (.list (ss.map PySem.W.Datum.toD)) && decide (PyData.depth (.list (ss.map PySem.W.Datum.toD)) ≤ 64)) = true
  rw [PyData.canLay0, canLayAll_ll, Bool.true_and, decide_eq_true_eq, PyData.depth]
  have := depthAll_ll ss
  omega
theorem rEq_ll {K : PySem.W.Frag} {H : Hp} {a b : Addr} {xs ys : List V} {s t : List (List Int)} {Q : VK} (ha : SqL K H a xs) (hb : SqL K H b ys) (hs : AllL K H xs s) (ht : AllL K H ys t) (q : Q (.bl (decide (s = t))) H) : rEqD K (.ref a) (.ref b) H Q :=
  dEq (.lst ha hs.dp) (.lst hb ht.dp) (shaped_ll s) (shaped_ll t) q
theorem rNe_ll {K : PySem.W.Frag} {H : Hp} {a b : Addr} {xs ys : List V} {s t : List (List Int)} {Q : VK} (ha : SqL K H a xs) (hb : SqL K H b ys) (hs : AllL K H xs s) (ht : AllL K H ys t) (q : Q (.bl (!decide (s = t))) H) : rNeD K (.ref a) (.ref b) H Q :=
  dNe (.lst ha hs.dp) (.lst hb ht.dp) (shaped_ll s) (shaped_ll t) q
def spLaw (K : PySem.W.Frag) : Sp := fun vs H Q _ => ∃ (a : Addr) (ns : List Int), vs = [.ref a] ∧ SqL K H a (vi ns) ∧ ns.length ≤ 63 ∧ ∀ H', Q (.bl true) H'
/-! all but some stay -/
def Sx (X : List Addr) (H H' : Hp) : Prop := ∀ b o, b ∉ X → H b = some o → H' b = some o
theorem Sx.refl (X : List Addr) (H : Hp) : Sx X H H := fun _ _ _ h => h
theorem Sx.trans {X : List Addr} {H H1 H2 : Hp} (s : Sx X H H1) (t : Sx X H1 H2) : Sx X H H2 := fun b o hb h => t b o hb (s b o hb h)
theorem Sx.of {X : List Addr} {H H' : Hp} (s : Same H H') : Sx X H H' := fun b o _ h => s b o h
theorem Sx.upd {X : List Addr} {H H' : Hp} {p : Addr} {o : HO} (s : Sx X H H') (hp : p ∈ X) : Sx X H (upd H' p o) := fun b u hb h => by
  rw [upd_ne (fun e => hb (by rw [e]; exact hp))]
  exact s b u hb h
theorem Sx.same {X : List Addr} {H0 H H' : Hp} (s : Sx X H H') (h0 : Same H0 H) (hX : ∀ x, x ∈ X → H0 x = none) : Same H0 H' := fun b o h => s b o (fun hb => by rw [hX b hb] at h; cases h) (h0 b o h)
/-! lists of lists -/
abbrev vr (rs : List Addr) : List V := rs.map V.ref
def HL (H : Hp) (rs : List Addr) (F : List (List Nat)) : Prop := rs.length = F.length ∧ ∀ (i : Nat) (r : Addr) (l : List Nat), rs[i]? = some r → F[i]? = some l → H r = some (.lst (vn l))
theorem HL.nil (H : Hp) : HL H [] [] := ⟨rfl, fun i r l h => by simp at h⟩
theorem HL.same {H H' : Hp} {rs : List Addr} {F : List (List Nat)} (h : HL H rs F) (s : Same H H') : HL H' rs F := ⟨h.1, fun i r l h1 h2 => s _ _ (h.2 i r l h1 h2)⟩
theorem HL.sx {X : List Addr} {H H' : Hp} {rs : List Addr} {F : List (List Nat)} (h : HL H rs F) (s : Sx X H H') (hX : ∀ x, x ∈ X → x ∉ rs) : HL H' rs F :=
  ⟨h.1, fun i r l h1 h2 => s _ _ (fun hm => hX r hm (List.mem_of_getElem? h1)) (h.2 i r l h1 h2)⟩
theorem HL.snoc {H : Hp} {rs : List Addr} {F : List (List Nat)} {r : Addr} {l : List Nat} (h : HL H rs F) (hr : H r = some (.lst (vn l))) : HL H (rs ++ [r]) (F ++ [l]) := by
  refine ⟨by simp [h.1], fun i r' l' h1 h2 => ?_⟩
  by_cases c : i < rs.length
  · rw [List.getElem?_append_left c] at h1
    rw [List.getElem?_append_left (by rw [← h.1]; exact c)] at h2
    exact h.2 i r' l' h1 h2
  · by_cases e : i = rs.length
    · subst e
      rw [List.getElem?_append_right (Nat.le_refl _)] at h1
      rw [List.getElem?_append_right (by rw [h.1]; exact Nat.le_refl _), h.1] at h2
      simp at h1 h2
      rw [← h1, ← h2]
      exact hr
    · rw [List.getElem?_eq_none (by simp; omega)] at h1
      cases h1
theorem HL.allL {K : PySem.W.Frag} {H : Hp} : ∀ {rs : List Addr} {F : List (List Nat)}, HL H rs F → AllL K H (vr rs) (F.map zs)
  | [], [], _ => True.intro
  | [], _ :: _, h => by cases h.1
  | _ :: _, [], h => by cases h.1
  | r :: rs, l :: F, h => ⟨sqL (h.2 0 r l rfl rfl), HL.allL ⟨by have := h.1; simp at this; exact this, fun i r' l' h1 h2 => h.2 (i + 1) r' l' h1 h2⟩⟩
def NewLL (H : Hp) (Q : VK) (F : List (List Nat)) : Prop := ∀ H' p rs, Same H H' → H p = none → H' p = some (.lst (vr rs)) → HL H' rs F → rs.Nodup → p ∉ rs → (∀ r, r ∈ rs → H r = none) → Q (.ref p) H'
/-! a dict as a set of places -/
def kvsOf (l : List Nat) : List (Key × V) := l.map fun k : Nat => (Sum.inl (k : Int), V.bl true)
theorem kvs_len (l : List Nat) : (kvsOf l).length = l.length := List.length_map _
theorem kvs_get : ∀ (l : List Nat) (k : Nat), (valV (kvsOf l) (Sum.inl (k : Int) : Key)).isSome = decide (k ∈ l)
  | [], k => by simp [kvsOf, valV]
  | x :: r, k => by
    show (valV (((Sum.inl (x : Int) : Key), V.bl true) :: kvsOf r) (Sum.inl (k : Int) : Key)).isSome = _
    by_cases e : x = k
    · subst e
      rw [valV_pos rfl]
      simp
    · rw [valV_neg (fun z => e (by have := Sum.inl.inj z; omega)), kvs_get r k]
      simp [show ¬ k = x from fun z => e z.symm]
theorem kvs_put {l : List Nat} {k : Nat} (h : k ∉ l) : putK (kvsOf l) (Sum.inl (k : Int) : Key) (V.bl true) = kvsOf (l ++ [k]) := by
  rw [putK_new]
  · simp [kvsOf]
  · have h2 := kvs_get l k
    rw [decide_eq_false h] at h2
    cases e : valV (kvsOf l) (Sum.inl (k : Int) : Key) with
    | none => rfl
    | some v => rw [e] at h2; cases h2
theorem in_vn (l : List Nat) (k : Nat) : inV (.int (k : Int)) (vn l) = decide (k ∈ l) := by
  unfold inV
  induction l with
  | nil => rfl
  | cons x r ih =>
    show (eqV (.int (x : Int)) (.int (k : Int)) || (vn r).any fun y => eqV y (.int (k : Int))) = _
    rw [ih]
    have e : eqV (.int (x : Int)) (.int (k : Int)) = decide (k = x) := by
      show ((x : Int) == (k : Int)) = _
      by_cases c : k = x
      · subst c; simp
      · rw [decide_eq_false c, beq_eq_false_iff_ne.mpr (fun z => c (by omega))]
    rw [e]
    simp
theorem flat_vn (l : List Nat) : (vn l).all flatV = true := by
  rw [List.all_eq_true]
  intro v hv
  simp [vn, vi, zs] at hv
  obtain ⟨x, _, rfl⟩ := hv
  rfl
theorem rgV_vn (M : Nat) : rgV 0 (M : Int) = vn (List.range M) := by
  unfold rgV
  rw [show ((M : Int) - 0).toNat = M by omega]
  simp [vn, vi, zs]
theorem zs_erase : ∀ (L : List Nat) (j : Nat), (zs L).eraseIdx j = zs (L.eraseIdx j)
  | [], _ => rfl
  | _ :: _, 0 => rfl
  | x :: r, j + 1 => by
    show (x : Int) :: (zs r).eraseIdx j = (x : Int) :: zs (r.eraseIdx j)
    rw [zs_erase r j]
/-- the place of a number in a list without repeats, and the list without it -/
theorem rem_ok {L : List Nat} {x : Nat} (hn : L.Nodup) (hx : x ∈ L) : ∃ j : Nat, (zs L)[j]? = some (x : Int) ∧ (∀ m : Nat, m < j → (zs L)[m]? ≠ some (x : Int)) ∧ (zs L).eraseIdx j = zs (L.filter fun y => decide (y ≠ x)) := by
  obtain ⟨j, hj⟩ := List.mem_iff_getElem?.mp hx
  have hjl := (List.getElem?_eq_some_iff.mp hj).1
  refine ⟨j, by simp [zs, hj], fun m hm h => ?_, ?_⟩
  · have hml : m < L.length := by omega
    have h2 : L[m]? = some x := by
      simp [zs] at h
      obtain ⟨y, h3, h4⟩ := h
      rw [h3]
      congr 1
      omega
    have := nd_ix hn h2 hj
    omega
  · rw [← Rm.eraseIdx_filter L j x hn hj]
    exact zs_erase L j
theorem cut1 (xs : List V) : cutV xs (some 1) none = xs.drop 1 := by
  unfold cutV
  rw [show HT.sIx xs.length 0 (some 1) = min 1 xs.length from HT.sIx_nat xs.length 0 1, HT.sIx_none]
  cases xs with
  | nil => rfl
  | cons x r =>
    rw [show min 1 (x :: r).length = 1 by
      rw [List.length_cons]
      omega]
    show (List.take ((x :: r).length - 1) r) = r
    rw [List.length_cons, Nat.add_sub_cancel]
    exact List.take_length
theorem fdiv2 (n : Nat) : ((2 * n : Nat) : Int).fdiv 2 = (n : Int) := by
  rw [Int.fdiv_eq_ediv_of_nonneg _ (by decide)]
  omega
/-! objects of one make at some addresses -/
def HG {α : Type} (c : α → HO) (H : Hp) (rs : List Addr) (F : List α) : Prop := rs.length = F.length ∧ ∀ (i : Nat) (r : Addr) (l : α), rs[i]? = some r → F[i]? = some l → H r = some (c l)
section
variable {α : Type} {c : α → HO} {H H' : Hp} {rs : List Addr} {F : List α}
theorem HG.nil (c : α → HO) (H : Hp) : HG c H [] [] := ⟨rfl, fun i r l h => by simp at h⟩
theorem HG.same (h : HG c H rs F) (s : Same H H') : HG c H' rs F := ⟨h.1, fun i r l h1 h2 => s _ _ (h.2 i r l h1 h2)⟩
theorem HG.sx {X : List Addr} (h : HG c H rs F) (s : Sx X H H') (hX : ∀ x, x ∈ X → x ∉ rs) : HG c H' rs F :=
  ⟨h.1, fun i r l h1 h2 => s _ _ (fun hm => hX r hm (List.mem_of_getElem? h1)) (h.2 i r l h1 h2)⟩
theorem HG.snoc {r : Addr} {l : α} (h : HG c H rs F) (hr : H r = some (c l)) : HG c H (rs ++ [r]) (F ++ [l]) := by
  refine ⟨by simp [h.1], fun i r' l' h1 h2 => ?_⟩
  by_cases q : i < rs.length
  · rw [List.getElem?_append_left q] at h1
    rw [List.getElem?_append_left (by rw [← h.1]; exact q)] at h2
    exact h.2 i r' l' h1 h2
  · by_cases e : i = rs.length
    · subst e
      rw [List.getElem?_append_right (Nat.le_refl _)] at h1
      rw [List.getElem?_append_right (by rw [h.1]; exact Nat.le_refl _), h.1] at h2
      simp at h1 h2
      rw [← h1, ← h2]
      exact hr
    · rw [List.getElem?_eq_none (by simp; omega)] at h1
      cases h1
theorem HG.at (h : HG c H rs F) {i : Nat} (hi : i < F.length) : ∃ r, rs[i]? = some r ∧ H r = some (c F[i]) := by
  have : i < rs.length := by rw [h.1]; exact hi
  exact ⟨rs[i], List.getElem?_eq_getElem this, h.2 i _ _ (List.getElem?_eq_getElem this) (List.getElem?_eq_getElem hi)⟩
theorem HG.mem (h : HG c H rs F) {r : Addr} (hr : r ∈ rs) : ∃ l, H r = some (c l) := by
  obtain ⟨i, hi⟩ := List.mem_iff_getElem?.mp hr
  have h1 := (List.getElem?_eq_some_iff.mp hi).1
  have h2 : i < F.length := by rw [← h.1]; exact h1
  exact ⟨_, h.2 i r _ hi (List.getElem?_eq_getElem h2)⟩
end
theorem HL.hg {H : Hp} {rs : List Addr} {F : List (List Nat)} (h : HL H rs F) : HG (fun l => .lst (vn l)) H rs F := h

end Rv

namespace Rv
open PySem PySem.Spec PyProof.Rows L2
open Rm (zs at')
/-! ### is_arcs -/
abbrev s_is_arcs : Stmt := topS 6
theorem sc_is_arcs : FnScope ["some", "open_ones", "k"] ["some"] (defScope s_is_arcs) := ⟨rfl, rfl, rfl, by decide +kernel, rfl, by decide +kernel, by decide +kernel⟩
def spIsArcs (K : PySem.W.Frag) : Sp := fun vs H Q _ => ∃ (a : Addr) (s : List Int), vs = [.ref a] ∧ SqL K H a (vi s) ∧ s.length ≤ 1000 ∧ ∀ b H', Same H H' → (b = true ↔ Rm.Good s) → Q (.bl b) H'
section
variable {P : Program} {w : World} {K : PySem.W.Frag} {mg : Str → Option Value} {base : Heap}
theorem ok_is_arcs {tM : Tok} (D : Dfn K mg "is_arcs" s_is_arcs ["some"]) (B : Blt mg) (g_MOST : mg "MOST" = some (.int 20 tM)) : Cal P w K mg base 1 "is_arcs" (spIsArcs K) := by
  refine D.cal sc_is_arcs (fun vs H Q E h => ?_) (fun f cdv A outer s0 H vs Q E hr h => ?_)
  · obtain ⟨a, s, rfl, _⟩ := h
    rfl
  · obtain ⟨a, s, rfl, hS, hlen, q⟩ := h
    refine ⟨_, (pss_cons (ps_if (PW.pt (pw_or (pt_cmpR op_lt (pe_callB call_len_seq (by rfl) B.len_ PySem.boot_len (pa_cons (pv 0) pa_nil)) pe_int (nomark _)) (pw_or1 (pt_cmpR op_gt (pe_callB call_len_seq (by rfl) B.len_ PySem.boot_len (pa_cons (pv 0) pa_nil)) (pe_op op_mul pe_int (pe_glob (v := .int 20) (by rfl) g_MOST ⟨_, rfl⟩)) (nomark _)))))
        (pss_one (ps_ret pe_bl))
        pss_nil)
      (pss_cons (ps_set (i := 1) sc_is_arcs.nd rfl (.inl rfl) (pe_lst pa_nil))
      (pss_cons (ps_for PassesOwn.never rfl (pi_range1 (by rfl) B.range_ (pa_cons (pe_callB call_len_seq (by rfl) B.len_ PySem.boot_len (pa_cons (pv 0) pa_nil)) pa_nil)) (pg_name (i := 2) sc_is_arcs.nd rfl (.inl rfl))
        (pss_cons (ps_if (PW.pt (pw_or (pt_not (pt_chain op_le op_lt pe_int (pe_ix ix_list (pv 0) (pv 2) (fun _ _ => rfl)) (pe_callB call_len_seq (by rfl) B.len_ PySem.boot_len (pa_cons (pv 0) pa_nil)))) (pw_or (pt_cmpR op_eq (pe_ix ix_list (pv 0) (pv 2) (fun _ _ => rfl)) (pv 2) (nomark _)) (pw_or1 (pt_cmpR op_ne (pe_ix ix_list (pv 0) (pe_ix ix_list (pv 0) (pv 2) (fun _ _ => rfl)) (fun _ _ => rfl)) (pv 2) (nomark _))))))
          (pss_one (ps_ret pe_bl))
          pss_nil)
        (pss_one (ps_if (pt_cmpR op_gt (pe_ix ix_list (pv 0) (pv 2) (fun _ _ => rfl)) (pv 2) (nomark _))
          (pss_one (ps_expr (pe_bm PySem.F.plainAttrs_list PySem.F.slot_list_append PySem.F.type_list_append mt_append (pv 1) (pa_cons (pv 2) pa_nil))))
          (pss_one (ps_if (pt_cmpR op_ne (pe_bm0 PySem.F.plainAttrs_list PySem.F.slot_list_pop PySem.F.type_list_pop mt_pop (pv 1)) (pe_ix ix_list (pv 0) (pv 2) (fun _ _ => rfl)) (nomark _))
            (pss_one (ps_ret pe_bl))
            pss_nil))))))
      (pss_one (ps_ret pe_bl))))), ?_⟩
    refine ⟨.ref a, rfl, a, _, rfl, .inl hS, _, _, rfl, rfl, _, rfl, ite2 (fun e => ?_) (fun e => ?_)⟩
    · have e := of_decide_eq_true e
      rw [List.length_map] at e
      refine iteT (q false H (Same.refl H) ⟨fun z => (nomatch z), fun G => ?_⟩)
      have := G.1.1
      omega
    have e1 := of_decide_eq_false (Bool.eq_false_iff.mpr e)
    rw [List.length_map] at e1
    refine ⟨.ref a, rfl, a, _, rfl, .inl hS, _, _, rfl, rfl, .inl ⟨by decide, by decide⟩, _, _, rfl, rfl, _, rfl, ite2 (fun e => ?_) (fun e => ?_)⟩
    · have e := of_decide_eq_true e
      rw [List.length_map] at e
      refine q false H (Same.refl H) ⟨fun z => (nomatch z), fun G => ?_⟩
      have := G.1.2
      omega
    have e2 := of_decide_eq_false (Bool.eq_false_iff.mpr e)
    rw [List.length_map] at e2
    have hL : 2 ≤ s.length ∧ s.length ≤ 40 := by omega
    refine ⟨Nat.zero_le _, fun p np => ?_⟩
    refine ⟨.ref a, rfl, a, _, rfl, .inl ((same_new np).seq hS), _, rfl, by rw [List.length_map]; omega, by rw [List.length_map]; omega, ?_⟩
    rw [show ((vi s).length : Int).toNat = s.length by rw [List.length_map]; omega]
    refine for_range (lo := 0) (n := s.length) (fun i σ H' => ∃ y2, σ = [some (.ref a), some (.ref p), y2] ∧ Same H H' ∧ H' p = some (.lst (vn (Rm.opens s i))) ∧ Rm.Stage s i) ⟨none, rfl, same_new np, upd_same, Rm.stage0 s⟩ (fun i σ H' hi hP => ?_) (fun σ H' hP => ?_)
    · obtain ⟨y2, rfl, sm, hp, st⟩ := hP
      have hS' := sm.seq hS
      rw [Int.zero_add]
      have iv : atI (vi s) (i : Int) = some (.int (Rm.g s i)) := vi_at hi rfl
      have bad : ¬ Rm.OkAt s i → Q (.bl false) H' := fun h => q false H' sm ⟨fun z => (nomatch z), fun G => absurd (G.2.1 i hi) h⟩
      -- 0 <= some[k] < len(some)
      refine ⟨.ref a, rfl, .int i, rfl, a, _, _, _, rfl, rfl, hS', iv, _, _, rfl, rfl, _, rfl, ite2 (fun e1 => ?_) (fun e1 => ?_)⟩
      case refine_2 =>
        exact ⟨_, rfl, iteT (bad fun ok => e1 (decide_eq_true ok.1))⟩
      have e1 := of_decide_eq_true e1
      refine ⟨.ref a, rfl, a, _, rfl, .inl hS', _, _, rfl, rfl, _, rfl, ?_⟩
      show if (!decide (Rm.g s i < ((vi s).length : Int))) = true then _ else _
      rw [List.length_map]
      refine ite2 (fun e2 => ?_) (fun e2 => ?_)
      · refine iteT (bad fun ok => ?_)
        have := ok.2.1
        rw [decide_eq_true this] at e2
        exact nomatch e2
      have e2 : Rm.g s i < (s.length : Int) := by
        rcases Bool.eq_false_or_eq_true (decide (Rm.g s i < (s.length : Int))) with z | z
        · exact of_decide_eq_true z
        · rw [z] at e2; exact absurd rfl e2
      -- some[k] == k
      refine ⟨.ref a, rfl, .int i, rfl, a, _, _, _, rfl, rfl, hS', iv, .int i, rfl, rfl, _, rfl, ite2 (fun e3 => ?_) (fun e3 => ?_)⟩
      · exact iteT (bad fun ok => ok.2.2.1 (V.int.inj (of_decide_eq_true e3)))
      have e3 : Rm.g s i ≠ (i : Int) := fun z => e3 (decide_eq_true (congrArg V.int z))
      -- some[some[k]] != k
      have iv2 : atI (vi s) (Rm.g s i) = some (.int (Rm.g s (Rm.g s i).toNat)) := vi_at (by omega) (by omega)
      refine ⟨.ref a, rfl, .ref a, rfl, .int i, rfl, a, _, _, _, rfl, rfl, hS', iv, a, _, _, _, rfl, rfl, hS', iv2, .int i, rfl, rfl, _, rfl, ite2 (fun e4 => ?_) (fun e4 => ?_)⟩
      · refine bad fun ok => ?_
        rw [ok.2.2.2, decide_eq_true rfl] at e4
        exact nomatch e4
      have e4 : Rm.g s (Rm.g s i).toNat = (i : Int) := by
        rcases Bool.eq_false_or_eq_true (decide (V.int (Rm.g s (Rm.g s i).toNat) = V.int (i : Int))) with z | z
        · exact V.int.inj (of_decide_eq_true z)
        · rw [z] at e4; exact absurd rfl e4
      have ok : Rm.OkAt s i := ⟨e1, e2, e3, e4⟩
      -- some[k] > k
      refine ⟨.ref a, rfl, .int i, rfl, a, _, _, _, rfl, rfl, hS', iv, .int i, rfl, _, _, rfl, rfl, _, rfl, ite2 (fun e5 => ?_) (fun e5 => ?_)⟩
      · have e5 := of_decide_eq_true e5
        refine ⟨.ref p, rfl, .inl ⟨rfl, _, sqL hp⟩, .int i, rfl, p, _, _, rfl, rfl, hp, ?_, ?_⟩
        · rw [vn_len]
          exact small63 (by have := Rm.opens_len s i; omega)
        · refine ⟨_, rfl, same_upd sm np, ?_, Rm.stage_push st ok e5⟩
          rw [upd_same, vn_push, Rm.opens_push st e5]
      · have e5 : Rm.g s i < (i : Int) := by
          have : ¬ (i : Int) < Rm.g s i := fun z => e5 (decide_eq_true z)
          omega
        obtain ⟨l, t, eo⟩ := Rm.opens_ne ok e5
        rw [eo] at hp
        refine ⟨.ref p, rfl, .inl ⟨rfl, _, sqL hp⟩, p, _, _, rfl, rfl, hp, vn_last l t, ?_⟩
        have sm2 := same_upd (o := .lst (vn l)) sm np
        rw [vn_drop]
        refine ⟨.ref a, rfl, .int i, rfl, a, _, _, _, rfl, rfl, sm2.seq hS, iv, rfl, _, rfl, ite2 (fun e6 => ?_) (fun e6 => ?_)⟩
        · have e6 : (t : Int) ≠ Rm.g s i := fun z => by
            rw [z, decide_eq_true rfl] at e6
            exact nomatch e6
          exact q false _ sm2 ⟨fun z => (nomatch z), fun G => absurd G.2.2 (Rm.stage_cross st ok e5 hi eo e6)⟩
        · have e6 : (t : Int) = Rm.g s i := by
            rcases Bool.eq_false_or_eq_true (decide (V.int (t : Int) = V.int (Rm.g s i))) with z | z
            · exact V.int.inj (of_decide_eq_true z)
            · rw [z] at e6; exact absurd rfl e6
          refine ⟨_, rfl, sm2, ?_, Rm.stage_pop st ok eo e6⟩
          rw [upd_same, Rm.opens_pop st ok e5 eo e6]
    · obtain ⟨y2, rfl, sm, hp, st⟩ := hP
      exact q true H' sm ⟨fun _ => Rm.stage_good hL st, fun _ => rfl⟩
end

end Rv

namespace Rv
open PySem PySem.Spec PyProof.Rows L2
open Rm (zs at')
/-! ### ask, of arcs -/
abbrev s_ask : Stmt := topS 7
theorem sc_ask : FnScope ["arcs"] ["arcs"] (defScope s_ask) := ⟨rfl, rfl, rfl, by decide +kernel, rfl, by decide +kernel, by decide +kernel⟩
def spAsk (K : PySem.W.Frag) : Sp := fun vs H Q _ => ∃ (a : Addr) (s : List Int), vs = [.ref a] ∧ SqL K H a (vi s) ∧ Rm.Good s ∧ ∀ H', Same H H' → Q .non H'
section
variable {P : Program} {w : World} {K : PySem.W.Frag} {mg : Str → Option Value} {base : Heap}
theorem ok_ask (D : Dfn K mg "ask" s_ask ["arcs"]) (c_is_arcs : Cal P w K mg base 1 "is_arcs" (spIsArcs K)) : Cal P w K mg base 2 "ask" (spAsk K) := by
  refine D.cal sc_ask (fun vs H Q E h => ?_) (fun f cdv A outer s0 H vs Q E hr h => ?_)
  · obtain ⟨a, s, rfl, _⟩ := h
    rfl
  · obtain ⟨a, s, rfl, hS, G, q⟩ := h
    refine ⟨_, (pss_one (ps_if (pt_not (pt_val (pe_c c_is_arcs hr (by omega) (by rfl) (pa_cons (pv 0) pa_nil))))
        (pss_one (ps_never))
        pss_nil)), ?_⟩
    refine ⟨.ref a, rfl, a, s, rfl, hS, by have := G.1; omega, fun b H' sm hb => ⟨b, rfl, ?_⟩⟩
    rw [hb.mpr G]
    exact iteF (q H' sm)
end

end Rv

namespace Rv
open PySem PySem.Spec PyProof.Rows L2
open Rm (zs at')
/-! ### _law_cell_at -/
abbrev s_law_cell_at : Stmt := topS 16
theorem sc_law_cell_at : FnScope ["script", "k"] ["script", "k"] (defScope s_law_cell_at) := ⟨rfl, rfl, rfl, by decide +kernel, rfl, by decide +kernel, by decide +kernel⟩
def spCell (K : PySem.W.Frag) : Sp := fun vs H Q _ => ∃ (a : Addr) (ns : List Int) (k : Int), vs = [.ref a, .int k] ∧ SqL K H a (vi ns) ∧ 0 ≤ k ∧ ∀ c : Int, Q (.int c) H
section
variable {P : Program} {w : World} {K : PySem.W.Frag} {mg : Str → Option Value} {base : Heap}
theorem ok_law_cell_at (D : Dfn K mg "_law_cell_at" s_law_cell_at ["script", "k"]) (B : Blt mg) : Cal P w K mg base 1 "_law_cell_at" (spCell K) := by
  refine D.cal sc_law_cell_at (fun vs H Q E h => ?_) (fun f cdv A outer s0 H vs Q E hr h => ?_)
  · obtain ⟨a, ns, k, rfl, _⟩ := h
    rfl
  · obtain ⟨a, ns, k, rfl, hS, h0, q⟩ := h
    refine ⟨_, (pss_cons (ps_if (pt_cmpR op_lt (pv 1) (pe_callB call_len_seq (by rfl) B.len_ PySem.boot_len (pa_cons (pv 0) pa_nil)) (nomark _))
        (pss_one (ps_ret (pe_ix ix_list (pv 0) (pv 1) (fun _ _ => rfl))))
        pss_nil)
      (pss_one (ps_ret pe_int))), ?_⟩
    refine ⟨.int k, rfl, .ref a, rfl, a, _, rfl, .inl hS, _, _, rfl, rfl, _, rfl, ite2 (fun e => ?_) (fun e => ?_)⟩
    · have e := of_decide_eq_true e
      rw [List.length_map] at e
      exact ⟨.ref a, rfl, .int k, rfl, a, _, _, _, rfl, rfl, hS, vi_at (k := k.toNat) (by omega) (by omega), q _⟩
    · exact q 0
end

end Rv

namespace Rv
open PySem PySem.Spec PyProof.Rows L2
open Rm (zs at')
/-! ### _law_whole -/
abbrev s_law_whole : Stmt := topS 17
theorem sc_law_whole : FnScope ["found"] ["found"] (defScope s_law_whole) := ⟨rfl, rfl, rfl, by decide +kernel, rfl, by decide +kernel, by decide +kernel⟩
theorem tyInt {K : PySem.W.Frag} {H : Hp} (i : Int) : TyX K H (.int i) (.type "int") := .base (.int i)
def spWhole : Sp := fun vs H Q _ => ∃ i : Int, vs = [.int i] ∧ Q (.bl true) H
section
variable {P : Program} {w : World} {K : PySem.W.Frag} {mg : Str → Option Value} {base : Heap}
theorem ok_law_whole (D : Dfn K mg "_law_whole" s_law_whole ["found"]) (B : Blt mg) : Cal P w K mg base 1 "_law_whole" spWhole := by
  refine D.cal sc_law_whole (fun vs H Q E h => ?_) (fun f cdv A outer s0 H vs Q E hr h => ?_)
  · obtain ⟨i, rfl, _⟩ := h
    rfl
  · obtain ⟨i, rfl, q⟩ := h
    refine ⟨_, (pss_one (ps_ret (pe_and (pe_callB call_isi (by rfl) B.isinstance_ (by decide +kernel) (pa_cons (pv 0) (pa_cons (pe_bltn (v := .ty "int") (by rfl) B.int_ (by decide +kernel) rfl) pa_nil))) (pe_one (pe_not (pe_callB call_isi (by rfl) B.isinstance_ (by decide +kernel) (pa_cons (pv 0) (pa_cons (pe_bltn (v := .ty "bool") (by rfl) B.bool_ (by decide +kernel) rfl) pa_nil)))))))), ?_⟩
    refine ⟨.int i, rfl, _, _, _, _, true, rfl, .ty "int", tyInt i, kit_ty (by decide +kernel), true, rfl, iteT ?_⟩
    exact ⟨.int i, rfl, _, _, _, _, false, rfl, .ty "bool", tyInt i, kit_ty (by decide +kernel), false, rfl, q⟩
end

end Rv

namespace Rv
open PySem PySem.Spec PyProof.Rows L2
open Rm (zs at')
/-! ### _law_numbers -/
abbrev s_law_numbers : Stmt := topS 18
theorem sc_law_numbers : FnScope ["found", "due", "x"] ["found", "due"] (defScope s_law_numbers) := ⟨rfl, rfl, rfl, by decide +kernel, rfl, by decide +kernel, by decide +kernel⟩
theorem tyLst {K : PySem.W.Frag} {H : Hp} {p : Addr} {xs : List V} (h : H p = some (.lst xs)) : TyX K H (.ref p) (.type "list") := .base (.lst h)
def spNumbers (K : PySem.W.Frag) : Sp := fun vs H Q _ => ∃ (p b : Addr) (s t : List Int), vs = [.ref p, .ref b] ∧ H p = some (.lst (vi s)) ∧ SqL K H b (vi t) ∧ (s = t → Q (.bl true) H) ∧ (s ≠ t → Q (.bl false) H)
section
variable {P : Program} {w : World} {K : PySem.W.Frag} {mg : Str → Option Value} {base : Heap}
theorem ok_law_numbers (D : Dfn K mg "_law_numbers" s_law_numbers ["found", "due"]) (B : Blt mg) (c_law_whole : Cal P w K mg base 1 "_law_whole" spWhole) : Cal P w K mg base 2 "_law_numbers" (spNumbers K) := by
  refine D.cal sc_law_numbers (fun vs H Q E h => ?_) (fun f cdv A outer s0 H vs Q E hr h => ?_)
  · obtain ⟨p, b, s, t, rfl, _⟩ := h
    rfl
  · obtain ⟨p, b, s, t, rfl, hP, hT, q1, q2⟩ := h
    refine ⟨_, (pss_cons (ps_if (PW.pt (pw_or (pt_not (pt_val (pe_callB call_isi (by rfl) B.isinstance_ (by decide +kernel) (pa_cons (pv 0) (pa_cons (pe_bltn (v := .ty "list") (by rfl) B.list_ (by decide +kernel) rfl) pa_nil))))) (pw_or1 (pt_cmpR op_ne (pe_callB call_len_seq (by rfl) B.len_ PySem.boot_len (pa_cons (pv 0) pa_nil)) (pe_callB call_len_seq (by rfl) B.len_ PySem.boot_len (pa_cons (pv 1) pa_nil)) (nomark _)))))
        (pss_one (ps_ret pe_bl))
        pss_nil)
      (pss_cons (ps_for PassesOwn.never rfl (pi_list (pv 0)) (pg_name (i := 2) sc_law_numbers.nd rfl (.inl rfl))
        (pss_one (ps_if (pt_not (pt_val (pe_c c_law_whole hr (by omega) (by rfl) (pa_cons (pv 2) pa_nil))))
          (pss_one (ps_ret pe_bl))
          pss_nil)))
      (pss_one (ps_ret (pe_cmpR (op_eqD (hu64 hr)) (pv 0) (pv 1) (nomark _)))))), ?_⟩
    refine ⟨.ref p, rfl, _, _, _, _, true, rfl, .ty "list", tyLst hP, kit_ty (by decide +kernel), true, rfl, iteF ?_⟩
    refine ⟨.ref p, rfl, p, _, rfl, .inl (sqL hP), .ref b, rfl, b, _, rfl, .inl hT, rfl, _, rfl, ite2 (fun e => ?_) (fun e => ?_)⟩
    · refine q2 fun z => ?_
      rw [z, decide_eq_true rfl] at e
      exact nomatch e
    refine ⟨.ref p, rfl, p, rfl, ⟨_, sqL hP⟩, for_list (xs := vi s) (fun i σ H' => H' = H ∧ ∃ y2, σ = [some (.ref p), some (.ref b), y2]) ⟨rfl, none, rfl⟩ (fun i σ H' _ h => ?_) (fun i v σ H' hi h => ?_) (fun σ H' h => ?_)⟩
    · rw [h.1]
      exact sqL hP
    · obtain ⟨rfl, y2, rfl⟩ := h
      have hi' : i < s.length := by
        have := (List.getElem?_eq_some_iff.mp hi).1
        simpa using this
      rw [vi_get hi'] at hi
      cases hi
      exact ⟨_, rfl, _, rfl, true, rfl, iteF ⟨rfl, _, rfl⟩⟩
    · obtain ⟨rfl, y2, rfl⟩ := h
      refine ⟨.ref p, rfl, .ref b, rfl, rEq_ints (sqL hP) hT ?_⟩
      by_cases z : s = t
      · rw [decide_eq_true z]; exact q1 z
      · rw [decide_eq_false z]; exact q2 z
end

end Rv

namespace Rv
open PySem PySem.Spec PyProof.Rows L2
open Rm (zs at')
/-! ### _law_arcs -/
abbrev s_law_arcs : Stmt := topS 19
theorem sc_law_arcs : FnScope ["script", "at", "size", "found", "ahead", "k", "cell", "other"] ["script", "at", "size"] (defScope s_law_arcs) := ⟨rfl, rfl, rfl, by decide +kernel, rfl, by decide +kernel, by decide +kernel⟩
def spLawArcs (K : PySem.W.Frag) : Sp := fun vs H Q _ => ∃ (a : Addr) (ns : List Int) (at0 : Int) (n : Nat), vs = [.ref a, .int at0, .int (n : Int)] ∧ SqL K H a (vi ns) ∧ 0 ≤ at0 ∧ 1 ≤ n ∧ n ≤ 20 ∧
  ∀ H' p fd, Rm.ArcsL n fd → Same H H' → H p = none → H' p = some (.lst (vn fd)) → Q (.ref p) H'
theorem pick4 (c : Int) (x y : Int) : ∃ z : Int, atI [V.int x, V.int y, V.int 0, V.int 1] ((c.fdiv 4).fmod 4) = some (.int z) := by
  have h0 := Int.fmod_nonneg_of_pos (c.fdiv 4) (show (0 : Int) < 4 by decide)
  have h1 := Int.fmod_lt_of_pos (c.fdiv 4) (show (0 : Int) < 4 by decide)
  generalize (c.fdiv 4).fmod 4 = r at h0 h1
  have : r = 0 ∨ r = 1 ∨ r = 2 ∨ r = 3 := by omega
  rcases this with rfl | rfl | rfl | rfl
  · exact ⟨x, rfl⟩
  · exact ⟨y, rfl⟩
  · exact ⟨0, rfl⟩
  · exact ⟨1, rfl⟩
section
variable {P : Program} {w : World} {K : PySem.W.Frag} {mg : Str → Option Value} {base : Heap}
theorem ok_law_arcs (D : Dfn K mg "_law_arcs" s_law_arcs ["script", "at", "size"]) (B : Blt mg) (c_law_cell_at : Cal P w K mg base 1 "_law_cell_at" (spCell K)) : Cal P w K mg base 2 "_law_arcs" (spLawArcs K) := by
  refine D.cal sc_law_arcs (fun vs H Q E h => ?_) (fun f cdv A outer s0 H vs Q E hr h => ?_)
  · obtain ⟨a, ns, at0, n, rfl, _⟩ := h
    rfl
  · obtain ⟨a, ns, at0, n, rfl, hS, h0, h1, h20, q⟩ := h
    refine ⟨_, (pss_cons (ps_set (i := 3) sc_law_arcs.nd rfl (.inl rfl) (pe_op op_rep (pe_lst (pa_cons pe_int pa_nil)) (pe_op op_mul pe_int (pv 2))))
      (pss_cons (ps_set (i := 4) sc_law_arcs.nd rfl (.inl rfl) (pe_lst pa_nil))
      (pss_cons (ps_for PassesOwn.never rfl (pi_range1 (by rfl) B.range_ (pa_cons (pe_op op_mul pe_int (pv 2)) pa_nil)) (pg_name (i := 5) sc_law_arcs.nd rfl (.inl rfl))
        (pss_cons (ps_set (i := 6) sc_law_arcs.nd rfl (.inl rfl) (pe_c c_law_cell_at hr (by omega) (by rfl) (pa_cons (pv 0) (pa_cons (pe_op op_add (pv 1) (pv 5)) pa_nil))))
        (C8.pss_cut (ps_if (pt_cmpR op_gt (pe_op op_add (pv 1) (pv 5)) pe_int (nomark _))
          (pss_one (ps_set (i := 6) sc_law_arcs.nd rfl (.inl rfl) (pe_op op_fdivN (pe_c c_law_cell_at hr (by omega) (by rfl) (pa_cons (pv 0) (pa_cons (pe_op op_sub (pe_op op_add (pv 1) (pv 5)) pe_int) pa_nil))) pe_int)))
          pss_nil)
        (pss_one (ps_if (PW.pt (pw_and (pt_cmpR op_lt (pe_callB call_len_seq (by rfl) B.len_ PySem.boot_len (pa_cons (pv 4) pa_nil)) (pe_op op_sub (pe_op op_mul pe_int (pv 2)) (pv 5)) (nomark _)) (pw_and1 (PW.pt (pw_or (pt_cmpR op_eq (pe_callB call_len_seq (by rfl) B.len_ PySem.boot_len (pa_cons (pv 4) pa_nil)) pe_int (nomark _)) (pw_or1 (pt_cmpR op_eq (pe_op op_modN (pe_ix ix_list (pe_lst (pa_cons (pv 6) (pa_cons (pe_op op_fdivN (pv 6) pe_int) (pa_cons pe_int (pa_cons pe_int pa_nil))))) (pe_op op_modN (pe_op op_fdivN (pv 6) pe_int) pe_int) (fun _ _ => rfl)) pe_int) pe_int (nomark _))))))))
          (pss_one (ps_expr (pe_bm PySem.F.plainAttrs_list PySem.F.slot_list_append PySem.F.type_list_append mt_append (pv 4) (pa_cons (pv 5) pa_nil))))
          (pss_cons (ps_set (i := 7) sc_law_arcs.nd rfl (.inl rfl) (pe_bm0 PySem.F.plainAttrs_list PySem.F.slot_list_pop PySem.F.type_list_pop mt_pop (pv 4)))
          (pss_cons (ps_asg (pv 7) (pg_sub (pv 3) (pv 5) set_list))
          (pss_one (ps_asg (pv 5) (pg_sub (pv 3) (pv 7) set_list))))))))))
      (pss_one (ps_ret (pv 3)))))), ?_⟩
    refine ⟨by show 1 ≤ sizeLine; decide, fun x nx => ?_⟩
    have m2 : (2 * (n : Int)).toNat = 2 * n := by omega
    refine ⟨.int n, rfl, 2, n, rfl, rfl, .inl ⟨by decide, by decide⟩, x, _, _, rfl, rfl, upd_same, by omega, by omega, ?_, fun p np => ?_⟩
    · rw [m2]
      exact small63' (by show 1 * (2 * n) ≤ _; omega)
    rw [m2, rep1, vn_rep]
    have sx : Same H (upd H x (.lst [V.int 0])) := same_new nx
    have np0 : H p = none := sx.free np
    refine ⟨Nat.zero_le _, fun o no => ?_⟩
    have sp' := same_new (o := .lst (vn (List.replicate (2 * n) 0))) np
    have no1 := sp'.free no
    have no0 : H o = none := sx.free no1
    have hpo : p ≠ o := ne_of_none upd_same no
    refine ⟨.int n, rfl, 2, n, rfl, rfl, .inl ⟨by decide, by decide⟩, _, rfl, by omega, by omega, ?_⟩
    rw [m2]
    refine for_range (lo := 0) (n := 2 * n) (fun i σ H' => ∃ y5 y6 y7 fd st, σ = [some (.ref a), some (.int at0), some (.int n), some (.ref p), some (.ref o), y5, y6, y7] ∧ Same H H' ∧ H' p = some (.lst (vn fd)) ∧ H' o = some (.lst (vn st)) ∧ Rm.Bld (2 * n) i fd st ∧ st.length ≤ 2 * n - i ∧ (st.length + i) % 2 = 0)
      ⟨none, none, none, List.replicate (2 * n) 0, [], rfl, (sx.trans sp').trans (same_new no), by rw [upd_ne hpo, upd_same], upd_same, Rm.bld0 _ _ (List.length_replicate), Nat.zero_le _, rfl⟩ (fun i σ H' hi hP => ?_) (fun σ H' hP => ?_)
    · obtain ⟨y5, y6, y7, fd, st, rfl, sm, hp, ho, bl, hsl, hpar⟩ := hP
      rw [Int.zero_add]
      have hS' := sm.seq hS
      -- cell = _law_cell_at(script, at + k)
      refine ⟨.ref a, rfl, .int at0, rfl, .int i, rfl, _, _, rfl, rfl, a, ns, _, rfl, hS', by omega, ?_⟩
      intro c0
      -- what stands in the cell's slot is a number
      refine ⟨fun σ2 H2 => ∃ c : Int, σ2 = [some (.ref a), some (.int at0), some (.int n), some (.ref p), some (.ref o), some (.int i), some (.int c), y7] ∧ H' = H2, ?_, ?_⟩
      · refine ⟨.int at0, rfl, .int i, rfl, _, _, rfl, rfl, _, _, rfl, rfl, _, rfl, ite2 (fun e => ?_) (fun e => ⟨c0, rfl, rfl⟩)⟩
        have e := of_decide_eq_true e
        refine ⟨.ref a, rfl, .int at0, rfl, .int i, rfl, _, _, rfl, rfl, _, _, rfl, rfl, a, ns, _, rfl, hS', by omega, fun c2 => ?_⟩
        exact ⟨_, _, rfl, rfl, ⟨by decide, by decide⟩, _, rfl, rfl⟩
      rintro σ2 H2 ⟨c, rfl, rfl⟩
      refine ⟨.ref o, rfl, o, _, rfl, .inl (sqL ho), .int n, rfl, 2, n, rfl, rfl, .inl ⟨by decide, by decide⟩, .int i, rfl, _, _, rfl, rfl, _, _, rfl, rfl, _, rfl, ?_⟩
      rw [vn_len]
      apply joinC (α := Hp) (C := fun H2 => Same H' H2 ∧ st.length < 2 * n - i)
      · intro hpush
        apply joinC (α := Hp) (C := fun H2 => Same H' H2 ∧ st ≠ [])
        · intro hpop
          refine ite2 (fun e1 => ?_) (fun e1 => ?_)
          · have e1 := of_decide_eq_true e1
            refine ⟨.ref o, rfl, o, _, rfl, .inl (sqL ho), rfl, _, rfl, ?_⟩
            rw [vn_len]
            refine ite2 (fun e2 => ?_) (fun e2 => ?_)
            · exact iteT (hpush H' ⟨Same.refl _, by omega⟩)
            · refine ⟨.int c, rfl, .int c, rfl, c, 2, rfl, rfl, ⟨by decide, by decide⟩, by show 4 ≤ sizeLine; decide, fun x2 nx2 => ?_⟩
              obtain ⟨z, hz⟩ := pick4 c c (c.fdiv 2)
              refine ⟨.int c, rfl, _, _, rfl, rfl, ⟨by decide, by decide⟩, _, _, rfl, rfl, (show (4 : Int) ≠ 0 by decide), x2, _, _, _, rfl, rfl, sqL upd_same, hz, _, _, rfl, rfl, (show (2 : Int) ≠ 0 by decide), rfl, _, rfl, ite2 (fun e3 => ?_) (fun e3 => ?_)⟩
              · exact hpush _ ⟨same_new nx2, by omega⟩
              · refine hpop _ ⟨same_new nx2, fun z => e2 ?_⟩
                rw [z]
                rfl
          · exact iteF (hpop H' ⟨Same.refl _, fun z => by
              subst z
              exact dn e1 (by simp; omega)⟩)
        · intro H2 hC
          obtain ⟨s2, hne⟩ := hC
          obtain ⟨l, t, rfl⟩ : ∃ l t, st = l ++ [t] := by
            rcases List.eq_nil_or_concat st with e | ⟨l, t, e⟩
            · exact absurd e hne
            · exact ⟨l, t, by rw [e, List.concat_eq_append]⟩
          have htk : t < i := bl.slt t (by simp)
          refine ⟨.ref o, rfl, .inl ⟨rfl, _, sqL (s2 _ _ ho)⟩, o, _, _, rfl, rfl, s2 _ _ ho, vn_last l t, ?_⟩
          rw [vn_drop]
          have hl2 := bl.len
          refine ⟨.int t, rfl, .ref p, rfl, .int i, rfl, p, _, _, i, rfl, rfl, by rw [upd_ne hpo]; exact s2 _ _ hp, ixN_nat (by rw [vn_len]; omega), ?_⟩
          rw [vn_set]
          refine ⟨.int i, rfl, .ref p, rfl, .int t, rfl, p, _, _, t, rfl, rfl, upd_same, ixN_nat (by rw [vn_len, List.length_set]; omega), ?_⟩
          rw [vn_set]
          have hlen : (l ++ [t]).length = l.length + 1 := by simp
          refine ⟨_, _, _, _, l, rfl, same_upd (same_upd (same_upd (sm.trans s2) no0) np0) np0, upd_same, ?_, Rm.bld_pop bl hi, by omega, by omega⟩
          rw [upd_ne (Ne.symm hpo), upd_ne (Ne.symm hpo), upd_same]
      · intro H2 hC
        obtain ⟨s2, hlt⟩ := hC
        refine ⟨.ref o, rfl, .inl ⟨rfl, _, sqL (s2 _ _ ho)⟩, .int i, rfl, o, _, _, rfl, rfl, s2 _ _ ho, ?_, ?_⟩
        · rw [vn_len]
          exact small63 (by omega)
        · refine ⟨_, _, _, fd, st ++ [i], rfl, same_upd (sm.trans s2) no0, ?_, by rw [upd_same, vn_push], Rm.bld_push bl hi, ?_, ?_⟩
          · rw [upd_ne hpo]; exact s2 _ _ hp
          · rw [List.length_append, List.length_singleton]; omega
          · rw [List.length_append, List.length_singleton]; omega
    · obtain ⟨y5, y6, y7, fd, st, rfl, sm, hp, ho, bl, hsl, hpar⟩ := hP
      have e0 : st = [] := List.length_eq_zero_iff.mp (by omega)
      subst e0
      exact ⟨.ref p, rfl, q H' p fd (Rm.bld_arcs bl) sm np0 hp⟩
end

end Rv

namespace Rv
open PySem PySem.Spec PyProof.Rows L2
open Rm (zs at')
/-! ### _law_good -/
abbrev s_law_good : Stmt := topS 20
theorem sc_law_good : FnScope ["some", "k", "j"] ["some"] (defScope s_law_good) := ⟨rfl, rfl, rfl, by decide +kernel, rfl, by decide +kernel, by decide +kernel⟩
def spGood (K : PySem.W.Frag) : Sp := fun vs H Q _ => ∃ (a : Addr) (s : List Int), vs = [.ref a] ∧ SqL K H a (vi s) ∧ s.length ≤ 1000 ∧ ∀ b, (b = true ↔ Rm.Good s) → Q (.bl b) H
section
variable {P : Program} {w : World} {K : PySem.W.Frag} {mg : Str → Option Value} {base : Heap}
theorem ok_law_good (D : Dfn K mg "_law_good" s_law_good ["some"]) (B : Blt mg) : Cal P w K mg base 1 "_law_good" (spGood K) := by
  refine D.cal sc_law_good (fun vs H Q E h => ?_) (fun f cdv A outer s0 H vs Q E hr h => ?_)
  · obtain ⟨a, s, rfl, _⟩ := h
    rfl
  · obtain ⟨a, s, rfl, hS, hlen, q⟩ := h
    refine ⟨_, (pss_cons (ps_if (PW.pt (pw_or (pt_cmpR op_lt (pe_callB call_len_seq (by rfl) B.len_ PySem.boot_len (pa_cons (pv 0) pa_nil)) pe_int (nomark _)) (pw_or (pt_cmpR op_gt (pe_callB call_len_seq (by rfl) B.len_ PySem.boot_len (pa_cons (pv 0) pa_nil)) pe_int (nomark _)) (pw_or1 (pt_cmpR op_eq (pe_op op_modN (pe_callB call_len_seq (by rfl) B.len_ PySem.boot_len (pa_cons (pv 0) pa_nil)) pe_int) pe_int (nomark _))))))
        (pss_one (ps_ret pe_bl))
        pss_nil)
      (pss_cons (ps_for PassesOwn.never rfl (pi_range1 (by rfl) B.range_ (pa_cons (pe_callB call_len_seq (by rfl) B.len_ PySem.boot_len (pa_cons (pv 0) pa_nil)) pa_nil)) (pg_name (i := 1) sc_law_good.nd rfl (.inl rfl))
        (pss_cons (ps_if (PW.pt (pw_or (pt_not (pt_chain op_le op_lt pe_int (pe_ix ix_list (pv 0) (pv 1) (fun _ _ => rfl)) (pe_callB call_len_seq (by rfl) B.len_ PySem.boot_len (pa_cons (pv 0) pa_nil)))) (pw_or (pt_cmpR op_eq (pe_ix ix_list (pv 0) (pv 1) (fun _ _ => rfl)) (pv 1) (nomark _)) (pw_or1 (pt_cmpR op_ne (pe_ix ix_list (pv 0) (pe_ix ix_list (pv 0) (pv 1) (fun _ _ => rfl)) (fun _ _ => rfl)) (pv 1) (nomark _))))))
          (pss_one (ps_ret pe_bl))
          pss_nil)
        (pss_one (ps_for PassesOwn.never rfl (pi_range1 (by rfl) B.range_ (pa_cons (pv 1) pa_nil)) (pg_name (i := 2) sc_law_good.nd rfl (.inl rfl))
          (pss_one (ps_if (PW.pt (pw_and (pt_cmpR op_gt (pe_ix ix_list (pv 0) (pv 1) (fun _ _ => rfl)) (pv 1) (nomark _)) (pw_and1 (pt_chain3 op_lt op_lt op_lt (pv 2) (pv 1) (pe_ix ix_list (pv 0) (pv 2) (fun _ _ => rfl)) (pe_ix ix_list (pv 0) (pv 1) (fun _ _ => rfl))))))
            (pss_one (ps_ret pe_bl))
            pss_nil))))))
      (pss_one (ps_ret pe_bl)))), ?_⟩
    have bad : ¬ Rm.Good s → Q (.bl false) H := fun h => q false ⟨fun z => (nomatch z), fun G => absurd G h⟩
    have vl : (vi s).length = s.length := List.length_map _
    refine ⟨.ref a, rfl, a, _, rfl, .inl hS, _, _, rfl, rfl, _, rfl, ?_⟩
    rw [vl]
    refine ite2 (fun e => iteT (bad fun G => ?_)) (fun e => ?_)
    · have := G.1.1; have := of_decide_eq_true e; omega
    have e1 := dn e
    refine ⟨.ref a, rfl, a, _, rfl, .inl hS, _, _, rfl, rfl, _, rfl, ?_⟩
    rw [vl]
    refine ite2 (fun e => iteT (bad fun G => ?_)) (fun e => ?_)
    · have := G.1.2; have := of_decide_eq_true e; omega
    have e2 := dn e
    refine ⟨.ref a, rfl, a, _, rfl, .inl hS, _, _, rfl, rfl, (show (2 : Int) ≠ 0 by decide), rfl, _, rfl, ?_⟩
    rw [vl]
    refine ite2 (fun e => bad fun G => ?_) (fun e => ?_)
    · have h1 := V.int.inj (of_decide_eq_true e)
      have h2 := Rm.good_even G
      rw [Int.fmod_eq_emod_of_nonneg _ (by decide)] at h1
      omega
    have hL : 2 ≤ s.length ∧ s.length ≤ 40 := by omega
    refine ⟨.ref a, rfl, a, _, rfl, .inl hS, _, rfl, by omega, by omega, ?_⟩
    rw [vl, show ((s.length : Int)).toNat = s.length by omega]
    refine for_range (lo := 0) (n := s.length) (fun i σ H' => ∃ y1 y2, σ = [some (.ref a), y1, y2] ∧ H' = H ∧ (∀ k : Nat, k < i → Rm.OkAt s k) ∧ (∀ j k : Nat, j < k → k < i → (k : Int) < Rm.g s j → Rm.g s j < Rm.g s k → False))
      ⟨none, none, rfl, rfl, fun _ h => absurd h (Nat.not_lt_zero _), fun _ _ _ h => absurd h (Nat.not_lt_zero _)⟩ (fun i σ H' hi hP => ?_) (fun σ H' hP => ?_)
    · obtain ⟨y1, y2, rfl, rfl, hok, hnc⟩ := hP
      rw [Int.zero_add]
      have iv : atI (vi s) (i : Int) = some (.int (Rm.g s i)) := vi_at hi rfl
      have badi : ¬ Rm.OkAt s i → Q (.bl false) H' := fun h => bad fun G => absurd (G.2.1 i hi) h
      refine ⟨.ref a, rfl, .int i, rfl, a, _, _, _, rfl, rfl, hS, iv, _, _, rfl, rfl, _, rfl, ite2 (fun e1 => ?_) (fun e1 => ⟨_, rfl, iteT (badi fun ok => dn e1 ok.1)⟩)⟩
      have e1 := of_decide_eq_true e1
      refine ⟨.ref a, rfl, a, _, rfl, .inl hS, _, _, rfl, rfl, _, rfl, ?_⟩
      rw [vl]
      refine ite2 (fun e2 => iteT (badi fun ok => nt e2 ok.2.1)) (fun e2 => ?_)
      have e2 := nd e2
      refine ⟨.ref a, rfl, .int i, rfl, a, _, _, _, rfl, rfl, hS, iv, .int i, rfl, rfl, _, rfl, ite2 (fun e3 => iteT (badi fun ok => ok.2.2.1 (V.int.inj (of_decide_eq_true e3)))) (fun e3 => ?_)⟩
      have e3 : Rm.g s i ≠ (i : Int) := fun z => dn e3 (congrArg V.int z)
      have iv2 : atI (vi s) (Rm.g s i) = some (.int (Rm.g s (Rm.g s i).toNat)) := vi_at (by omega) (by omega)
      refine ⟨.ref a, rfl, .ref a, rfl, .int i, rfl, a, _, _, _, rfl, rfl, hS, iv, a, _, _, _, rfl, rfl, hS, iv2, .int i, rfl, rfl, _, rfl, ite2 (fun e4 => badi fun ok => nt e4 (congrArg V.int ok.2.2.2)) (fun e4 => ?_)⟩
      have e4 : Rm.g s (Rm.g s i).toNat = (i : Int) := V.int.inj (nd e4)
      have ok : Rm.OkAt s i := ⟨e1, e2, e3, e4⟩
      -- for j in range(k)
      refine ⟨.int i, rfl, _, rfl, by omega, by omega, ?_⟩
      rw [Int.toNat_natCast]
      refine for_range (lo := 0) (n := i) (fun j σ H'' => ∃ y2, σ = [some (.ref a), some (.int i), y2] ∧ H'' = H' ∧ ∀ j' : Nat, j' < j → (i : Int) < Rm.g s j' → Rm.g s j' < Rm.g s i → False)
        ⟨_, rfl, rfl, fun _ h => absurd h (Nat.not_lt_zero _)⟩ (fun j σ H'' hj hP => ?_) (fun σ H'' hP => ?_)
      · obtain ⟨y2, rfl, rfl, hc⟩ := hP
        rw [Int.zero_add]
        have jv : atI (vi s) (j : Int) = some (.int (Rm.g s j)) := vi_at (by omega) rfl
        have keep : ¬ ((i : Int) < Rm.g s j ∧ Rm.g s j < Rm.g s i) → ∃ y2, [some (V.ref a), some (V.int i), some (V.int j)] = [some (V.ref a), some (V.int i), y2] ∧ H'' = H'' ∧ ∀ j' : Nat, j' < j + 1 → (i : Int) < Rm.g s j' → Rm.g s j' < Rm.g s i → False := fun hn => by
          refine ⟨_, rfl, rfl, fun j' h1 h2 h3 => ?_⟩
          by_cases e : j' = j
          · subst e; exact hn ⟨h2, h3⟩
          · exact hc j' (by omega) h2 h3
        refine ⟨.ref a, rfl, .int i, rfl, a, _, _, _, rfl, rfl, hS, iv, .int i, rfl, _, _, rfl, rfl, _, rfl, ite2 (fun e5 => ?_) (fun e5 => iteF (keep fun z => dn e5 (by omega)))⟩
        refine ⟨.int j, rfl, .int i, rfl, _, _, rfl, rfl, _, rfl, ite2 (fun e6 => ?_) (fun e6 => absurd (show (j : Int) < (i : Int) by omega) (dn e6))⟩
        refine ⟨.ref a, rfl, .int j, rfl, a, _, _, _, rfl, rfl, hS, jv, _, _, rfl, rfl, _, rfl, ite2 (fun e7 => ?_) (fun e7 => ⟨_, rfl, iteF (keep fun z => dn e7 z.1)⟩)⟩
        refine ⟨.ref a, rfl, .int i, rfl, a, _, _, _, rfl, rfl, hS, iv, _, _, rfl, rfl, _, rfl, ite2 (fun e8 => ?_) (fun e8 => keep fun z => dn e8 z.2)⟩
        exact bad fun G => G.2.2 j i hj hi (of_decide_eq_true e7) (of_decide_eq_true e8)
      · obtain ⟨y2, rfl, rfl, hc⟩ := hP
        refine ⟨_, _, rfl, rfl, fun k hk => ?_, fun j k h1 h2 h3 h4 => ?_⟩
        · by_cases e : k = i
          · subst e; exact ok
          · exact hok k (by omega)
        · by_cases e : k = i
          · subst e; exact hc j h1 h3 h4
          · exact hnc j k h1 (by omega) h3 h4
    · obtain ⟨y1, y2, rfl, rfl, hok, hnc⟩ := hP
      exact q true ⟨fun _ => ⟨hL, hok, hnc⟩, fun _ => rfl⟩
end

end Rv

namespace Rv
open PySem PySem.Spec PyProof.Rows L2
open Rm (zs at')
/-! ### roads_by -/
abbrev s_roads_by : Stmt := topS 10
theorem sc_roads_by : FnScope ["above", "below", "found", "seen", "start", "road", "at"] ["above", "below"] (defScope s_roads_by) := ⟨rfl, rfl, rfl, by decide +kernel, rfl, by decide +kernel, by decide +kernel⟩
def spRoadsBy (K : PySem.W.Frag) : Sp := fun vs H Q _ => ∃ (a b : Addr) (M : Nat) (f1 f2 : List Nat), vs = [.ref a, .ref b] ∧ SqL K H a (vn f1) ∧ SqL K H b (vn f2) ∧ f1.length = M ∧ f2.length = M ∧ M ≤ 1000 ∧ Rm.Inv2 M (at' f1) ∧ (∀ k, k < M → at' f2 k < M) ∧
  NewLL H Q (Rm.roadsM (at' f1) (at' f2) M)
section
variable {P : Program} {w : World} {K : PySem.W.Frag} {mg : Str → Option Value} {base : Heap}
theorem ok_roads_by (D : Dfn K mg "roads_by" s_roads_by ["above", "below"]) (B : Blt mg) : Cal P w K mg base 1 "roads_by" (spRoadsBy K) := by
  refine D.cal sc_roads_by (fun vs H Q E h => ?_) (fun f cdv A outer s0 H vs Q E hr h => ?_)
  · obtain ⟨a, b, M, f1, f2, rfl, _⟩ := h
    rfl
  · obtain ⟨a, b, M, f1, f2, rfl, ha, hb, l1, l2, hM, IA, hB, q⟩ := h
    refine ⟨_, (pss_cons (ps_set (i := 2) sc_roads_by.nd rfl (.inl rfl) (pe_lst pa_nil))
      (pss_cons (ps_set (i := 3) sc_roads_by.nd rfl (.inl rfl) pe_dnewK)
      (pss_cons (ps_for PassesOwn.never rfl (pi_range1 (by rfl) B.range_ (pa_cons (pe_callB call_len_seq (by rfl) B.len_ PySem.boot_len (pa_cons (pv 0) pa_nil)) pa_nil)) (pg_name (i := 4) sc_roads_by.nd rfl (.inl rfl))
        (pss_one (ps_if (pt_cmp (pc_dnotin (hu_of hr) (pv 4) (pv 3)))
          (pss_cons (ps_set (i := 5) sc_roads_by.nd rfl (.inl rfl) (pe_lst pa_nil))
          (pss_cons (ps_set (i := 6) sc_roads_by.nd rfl (.inl rfl) (pv 4))
          (pss_cons (ps_while PassesOwn.never (pt_cmp (pc_dnotin (hu_of hr) (pv 6) (pv 3)))
            (pss_cons (ps_dput (hu_of hr) (pv 3) (pv 6) pe_bl rfl)
            (pss_cons (ps_dput (hu_of hr) (pv 3) (pe_ix ix_list (pv 0) (pv 6) (fun _ _ => rfl)) pe_bl rfl)
            (pss_cons (ps_expr (pe_bm PySem.F.plainAttrs_list PySem.F.slot_list_append PySem.F.type_list_append mt_append (pv 5) (pa_cons (pv 6) pa_nil)))
            (pss_cons (ps_expr (pe_bm PySem.F.plainAttrs_list PySem.F.slot_list_append PySem.F.type_list_append mt_append (pv 5) (pa_cons (pe_ix ix_list (pv 0) (pv 6) (fun _ _ => rfl)) pa_nil)))
            (pss_one (ps_set (i := 6) sc_roads_by.nd rfl (.inl rfl) (pe_ix ix_list (pv 1) (pe_ix ix_list (pv 0) (pv 6) (fun _ _ => rfl)) (fun _ _ => rfl)))))))))
          (pss_one (ps_expr (pe_bm PySem.F.plainAttrs_list PySem.F.slot_list_append PySem.F.type_list_append mt_append (pv 2) (pa_cons (pv 5) pa_nil)))))))
          pss_nil)))
      (pss_one (ps_ret (pv 2)))))), ?_⟩
    refine ⟨Nat.zero_le _, fun p np => fun d nd => ?_⟩
    have sp := same_new (o := .lst []) np
    have d0 : H d = none := sp.free nd
    have hpd : p ≠ d := ne_of_none upd_same nd
    have sd := sp.trans (same_new (o := .dK []) nd)
    refine ⟨.ref a, rfl, a, _, rfl, .inl (sd.seq ha), _, rfl, by rw [vn_len]; omega, by rw [vn_len]; omega, ?_⟩
    rw [show (((vn f1).length : Nat) : Int).toNat = M by rw [vn_len, l1]; omega]
    refine for_range (lo := 0) (n := M) (fun i σ H' => ∃ y4 y5 y6 rs, σ = [some (.ref a), some (.ref b), some (.ref p), some (.ref d), y4, y5, y6] ∧ Same H H' ∧ H' p = some (.lst (vr rs)) ∧ H' d = some (.dK (kvsOf (Rm.goR (at' f1) (at' f2) M [] i).flatten)) ∧ HL H' rs (Rm.goR (at' f1) (at' f2) M [] i) ∧ rs.Nodup ∧ p ∉ rs ∧ ∀ r, r ∈ rs → H r = none)
      ⟨none, none, none, [], rfl, sd, by rw [upd_ne hpd, upd_same]; rfl, by rw [upd_same]; rfl, HL.nil _, .nil, by simp, by simp⟩ (fun i σ H' hi hP => ?_) (fun σ H' hP => ?_)
    · obtain ⟨y4, y5, y6, rs, rfl, sm, hp, hd, hl, hnd, hpr, hfr⟩ := hP
      rw [Int.zero_add]
      have S := Rm.goR_seen (s0 := []) IA hB ⟨.nil, by simp, by simp⟩ i (by omega)
      rw [List.nil_append] at S
      generalize hF : Rm.goR (at' f1) (at' f2) M [] i = F at *
      refine ⟨.int i, rfl, .ref d, rfl, d, _, rfl, DGet.k (k := Sum.inl (i : Int)) hd, _, rfl, ?_⟩
      rw [kvs_get]
      by_cases hm : i ∈ F.flatten
      · rw [decide_eq_true hm]
        refine iteF ⟨_, _, _, rs, rfl, sm, hp, ?_⟩
        have e : Rm.goR (at' f1) (at' f2) M [] (i + 1) = F := by
          rw [Rm.goR_succ, hF]
          exact if_pos (by simpa using hm)
        rw [e]
        exact ⟨hd, hl, hnd, hpr, hfr⟩
      rw [decide_eq_false hm]
      have e : Rm.goR (at' f1) (at' f2) M [] (i + 1) = F ++ [Rm.walk (at' f1) (at' f2) M F.flatten i []] := by
        rw [Rm.goR_succ, hF]
        unfold Rm.stepR
        rw [if_neg (by simpa using hm), List.nil_append]
      refine iteT ⟨Nat.zero_le _, fun r nr => ?_⟩
      have sr := same_new (o := .lst []) nr
      have r0 : H r = none := sm.free nr
      have hrp : r ≠ p := (ne_of_none hp nr).symm
      have hrd : r ≠ d := (ne_of_none hd nr).symm
      have hrs : r ∉ rs := fun h => by
        obtain ⟨j, hj⟩ := List.mem_iff_getElem?.mp h
        have hj2 : j < F.length := by rw [← hl.1]; exact (List.getElem?_eq_some_iff.mp hj).1
        have := hl.2 j r _ hj (List.getElem?_eq_getElem hj2)
        rw [nr] at this
        cases this
      have hds : d ∉ rs := fun h => by
        obtain ⟨j, hj⟩ := List.mem_iff_getElem?.mp h
        have hj2 : j < F.length := by rw [← hl.1]; exact (List.getElem?_eq_some_iff.mp hj).1
        have := hl.2 j d _ hj (List.getElem?_eq_getElem hj2)
        rw [hd] at this
        cases this
      have ha' := (sm.trans sr).seq ha
      have hb' := (sm.trans sr).seq hb
      have S0 : ∀ x, x ∈ [d, r] → H x = none := fun x hx => by
        simp at hx
        rcases hx with rfl | rfl
        · exact d0
        · exact r0
      refine ⟨.int i, rfl, ?_⟩
      -- while at not in seen
      refine ⟨fun m σ H'' => ∃ (x : Nat) (road : List Nat), σ = [some (.ref a), some (.ref b), some (.ref p), some (.ref d), some (.int i), some (.ref r), some (.int x)] ∧ Sx [d, r] (upd H' r (.lst [])) H'' ∧ H'' d = some (.dK (kvsOf (F.flatten ++ road))) ∧ H'' r = some (.lst (vn road)) ∧ x < M ∧ Rm.Seen (at' f1) M (F.flatten ++ road) ∧
        Rm.walk (at' f1) (at' f2) m F.flatten x road = Rm.walk (at' f1) (at' f2) M F.flatten i [] ∧ M ≤ m + (F.flatten ++ road).length,
        ⟨M, i, [], rfl, Sx.refl _ _, by rw [List.append_nil]; exact sr _ _ hd, upd_same, hi, by rw [List.append_nil]; exact S, rfl, by omega⟩, fun m σ H'' hW => ?_⟩
      obtain ⟨x, road, rfl, sx, hd2, hr2, hxM, S2, hwk, hfu⟩ := hW
      have hSm : Same H H'' := Sx.same sx (sm.trans sr) S0
      refine ⟨.int x, rfl, .ref d, rfl, d, _, rfl, DGet.k (k := Sum.inl (x : Int)) hd2, _, rfl, ?_⟩
      rw [kvs_get]
      by_cases hx : x ∈ F.flatten ++ road
      · -- the road's end
        rw [decide_eq_true hx]
        rw [Rm.walk_stop hx] at hwk
        have hp2 : H'' p = some (.lst (vr rs)) := sx _ _ (by simp [hpd, hrp.symm]) (sr _ _ hp)
        have hl2 : HL H'' rs F := HL.sx (hl.same sr) sx (fun y hy => by
          simp at hy
          rcases hy with rfl | rfl
          · exact hds
          · exact hrs)
        refine iteF ⟨.ref p, rfl, .inl ⟨rfl, _, sqL hp2⟩, .ref r, rfl, p, _, _, rfl, rfl, hp2, ?_, ?_⟩
        · rw [List.length_map, hl.1]
          have h1 := Rm.nodup_len M _ S.nd S.lt
          have h2 : F.length ≤ i := by rw [← hF]; exact Rm.goR_len (M := M) i (by omega)
          exact small63 (by omega)
        · refine ⟨_, _, _, rs ++ [r], rfl, same_upd hSm np, by rw [upd_same]; simp [vr], ?_⟩
          rw [e, Rm.flatten_snoc, ← hwk]
          refine ⟨by rw [upd_ne hpd.symm]; exact hd2, ?_, ?_, ?_, ?_⟩
          · have hl3 := HL.snoc hl2 hr2
            refine HL.sx (X := [p]) hl3 ((Sx.refl _ _).upd (by simp)) (fun y hy => ?_)
            simp at hy
            subst hy
            simp [hpr, hrp.symm]
          · rw [List.nodup_append]
            exact ⟨hnd, by simp, fun y hy z hz => by simp at hz; rw [hz]; exact fun e => hrs (e ▸ hy)⟩
          · simp [hpr, hrp.symm]
          · intro y hy
            simp at hy
            rcases hy with hy | rfl
            · exact hfr y hy
            · exact r0
      · -- a turn
        rw [decide_eq_false hx]
        obtain ⟨m', rfl⟩ := Rm.fuel_pos S2 hxM hx hfu
        rw [Rm.walk_go hx] at hwk
        have hpush := S2.push IA hxM hx
        have hax := IA.lt x hxM
        have hszl := Rm.nodup_len M _ hpush.2.nd hpush.2.lt
        rw [List.length_append, List.length_cons, List.length_cons, List.length_nil] at hszl
        have hk1 : (F.flatten ++ road).length ≤ 1000 := by omega
        have hk2 : (F.flatten ++ road ++ [x]).length ≤ 1000 := by rw [List.length_append, List.length_singleton]; omega
        have hk3 : road.length + 1 ≤ 1000 := by rw [List.length_append] at hk1 hszl; omega
        refine iteT ⟨fun σ' H3 => ∃ (x' : Nat) (road' : List Nat), σ' = [some (.ref a), some (.ref b), some (.ref p), some (.ref d), some (.int i), some (.ref r), some (.int x')] ∧ Sx [d, r] (upd H' r (.lst [])) H3 ∧ H3 d = some (.dK (kvsOf (F.flatten ++ road'))) ∧ H3 r = some (.lst (vn road')) ∧ x' < M ∧ Rm.Seen (at' f1) M (F.flatten ++ road') ∧
          Rm.walk (at' f1) (at' f2) m' F.flatten x' road' = Rm.walk (at' f1) (at' f2) M F.flatten i [] ∧ M ≤ m' + (F.flatten ++ road').length, fun σ' H3 h3 => ⟨m', Nat.lt_succ_self _, h3⟩, ?_⟩
        -- seen[at] = True
        refine ⟨.ref d, rfl, .int x, rfl, d, _, rfl, DPut.k (k := Sum.inl (x : Int)) hd2 (by rw [kvs_len]; exact small63 (by omega)), ?_⟩
        rw [kvs_put hx]
        have sx1 : Sx [d, r] (upd H' r (.lst [])) (upd H'' d (.dK (kvsOf (F.flatten ++ road ++ [x])))) := sx.upd (by simp)
        have hr3 : (upd H'' d (.dK (kvsOf (F.flatten ++ road ++ [x])))) r = some (.lst (vn road)) := by rw [upd_ne hrd]; exact hr2
        have hd3 : (upd H'' d (.dK (kvsOf (F.flatten ++ road ++ [x])))) d = some (.dK (kvsOf (F.flatten ++ road ++ [x]))) := upd_same
        generalize upd H'' d (.dK (kvsOf (F.flatten ++ road ++ [x]))) = H4 at sx1 hr3 hd3
        have ha4 := (Sx.same sx1 (sm.trans sr) S0).seq ha
        -- seen[above[at]] = True
        refine ⟨.ref d, rfl, .ref a, rfl, .int x, rfl, a, _, _, _, rfl, rfl, ha4, vn_at (by omega) rfl, d, _, rfl, DPut.k (k := Sum.inl ((at' f1 x : Nat) : Int)) hd3 (by rw [kvs_len]; exact small63 (by omega)), ?_⟩
        rw [kvs_put (by
          intro h
          rcases List.mem_append.mp h with h | h
          · exact hpush.1 h
          · simp at h
            exact IA.ne x hxM h)]
        have sx2 : Sx [d, r] (upd H' r (.lst [])) (upd H4 d (.dK (kvsOf (F.flatten ++ road ++ [x] ++ [at' f1 x])))) := sx1.upd (by simp)
        have hr4 : (upd H4 d (.dK (kvsOf (F.flatten ++ road ++ [x] ++ [at' f1 x])))) r = some (.lst (vn road)) := by rw [upd_ne hrd]; exact hr3
        have hd4 : (upd H4 d (.dK (kvsOf (F.flatten ++ road ++ [x] ++ [at' f1 x])))) d = some (.dK (kvsOf (F.flatten ++ road ++ [x] ++ [at' f1 x]))) := upd_same
        generalize upd H4 d (.dK (kvsOf (F.flatten ++ road ++ [x] ++ [at' f1 x]))) = H5 at sx2 hr4 hd4
        have ha5 := (Sx.same sx2 (sm.trans sr) S0).seq ha
        -- road.append(at)
        refine ⟨.ref r, rfl, .inl ⟨rfl, _, sqL hr4⟩, .int x, rfl, r, _, _, rfl, rfl, hr4, by rw [vn_len]; exact small63 (by omega), ?_⟩
        rw [vn_push]
        have sx3 : Sx [d, r] (upd H' r (.lst [])) (upd H5 r (.lst (vn (road ++ [x])))) := sx2.upd (by simp)
        have hr5 : (upd H5 r (.lst (vn (road ++ [x])))) r = some (.lst (vn (road ++ [x]))) := upd_same
        have hd5 : (upd H5 r (.lst (vn (road ++ [x])))) d = _ := (upd_ne hrd.symm).trans hd4
        generalize upd H5 r (.lst (vn (road ++ [x]))) = H6 at sx3 hr5 hd5
        have ha6 := (Sx.same sx3 (sm.trans sr) S0).seq ha
        -- road.append(above[at])
        refine ⟨.ref r, rfl, .inl ⟨rfl, _, sqL hr5⟩, .ref a, rfl, .int x, rfl, a, _, _, _, rfl, rfl, ha6, vn_at (by omega) rfl, r, _, _, rfl, rfl, hr5, by rw [vn_len, List.length_append, List.length_singleton]; exact small63 (by omega), ?_⟩
        rw [vn_push]
        have sx4 : Sx [d, r] (upd H' r (.lst [])) (upd H6 r (.lst (vn (road ++ [x] ++ [at' f1 x])))) := sx3.upd (by simp)
        have hr6 : (upd H6 r (.lst (vn (road ++ [x] ++ [at' f1 x])))) r = some (.lst (vn (road ++ [x] ++ [at' f1 x]))) := upd_same
        have hd6 : (upd H6 r (.lst (vn (road ++ [x] ++ [at' f1 x])))) d = _ := (upd_ne hrd.symm).trans hd5
        generalize upd H6 r (.lst (vn (road ++ [x] ++ [at' f1 x]))) = H7 at sx4 hr6 hd6
        have ha7 := (Sx.same sx4 (sm.trans sr) S0).seq ha
        have hb7 := (Sx.same sx4 (sm.trans sr) S0).seq hb
        -- at = below[above[at]]
        refine ⟨.ref b, rfl, .ref a, rfl, .int x, rfl, a, _, _, _, rfl, rfl, ha7, vn_at (by omega) rfl, b, _, _, _, rfl, rfl, hb7, vn_at (by omega) rfl, ?_⟩
        refine ⟨at' f2 (at' f1 x), road ++ [x, at' f1 x], rfl, sx4, ?_, ?_, hB _ hax, ?_, hwk, ?_⟩
        · rw [hd6]
          simp
        · rw [hr6]
          simp
        · rw [← List.append_assoc]; exact hpush.2
        · simp at hfu ⊢
          omega
    · obtain ⟨y4, y5, y6, rs, rfl, sm, hp, hd, hl, hnd, hpr, hfr⟩ := hP
      exact ⟨.ref p, rfl, q H' p rs sm np hp hl hnd hpr hfr⟩
end

end Rv

namespace Rv
open PySem PySem.Spec PyProof.Rows L2
open Rm (zs at')
/-! ### ask_both, many_roads -/
abbrev s_ask_both : Stmt := topS 9
theorem sc_ask_both : FnScope ["one", "other"] ["one", "other"] (defScope s_ask_both) := ⟨rfl, rfl, rfl, by decide +kernel, rfl, by decide +kernel, by decide +kernel⟩
abbrev s_many_roads : Stmt := topS 11
theorem sc_many_roads : FnScope ["above", "below"] ["above", "below"] (defScope s_many_roads) := ⟨rfl, rfl, rfl, by decide +kernel, rfl, by decide +kernel, by decide +kernel⟩
def spAskBoth (K : PySem.W.Frag) : Sp := fun vs H Q _ => ∃ (a b : Addr) (n : Nat) (f1 f2 : List Nat), vs = [.ref a, .ref b] ∧ SqL K H a (vn f1) ∧ SqL K H b (vn f2) ∧ Rm.ArcsL n f1 ∧ Rm.ArcsL n f2 ∧ 1 ≤ n ∧ n ≤ 20 ∧ ∀ H', Same H H' → Q .non H'
def spManyRoads (K : PySem.W.Frag) : Sp := fun vs H Q _ => ∃ (a b : Addr) (n : Nat) (f1 f2 : List Nat), vs = [.ref a, .ref b] ∧ SqL K H a (vn f1) ∧ SqL K H b (vn f2) ∧ Rm.ArcsL n f1 ∧ Rm.ArcsL n f2 ∧ 1 ≤ n ∧ n ≤ 20 ∧
  ∀ H', Same H H' → Q (.int (((Rm.roadsM (at' f1) (at' f2) (2 * n)).length : Nat) : Int)) H'
section
variable {P : Program} {w : World} {K : PySem.W.Frag} {mg : Str → Option Value} {base : Heap}
theorem ok_ask_both (D : Dfn K mg "ask_both" s_ask_both ["one", "other"]) (B : Blt mg) (c_ask : Cal P w K mg base 2 "ask" (spAsk K)) : Cal P w K mg base 3 "ask_both" (spAskBoth K) := by
  refine D.cal sc_ask_both (fun vs H Q E h => ?_) (fun f cdv A outer s0 H vs Q E hr h => ?_)
  · obtain ⟨a, b, n, f1, f2, rfl, _⟩ := h
    rfl
  · obtain ⟨a, b, n, f1, f2, rfl, ha, hb, hA, hB, h1, h20, q⟩ := h
    refine ⟨_, (pss_cons (ps_expr (pe_c c_ask hr (by omega) (by rfl) (pa_cons (pv 0) pa_nil)))
      (pss_cons (ps_expr (pe_c c_ask hr (by omega) (by rfl) (pa_cons (pv 1) pa_nil)))
      (pss_one (ps_if (pt_cmpR op_ne (pe_callB call_len_seq (by rfl) B.len_ PySem.boot_len (pa_cons (pv 0) pa_nil)) (pe_callB call_len_seq (by rfl) B.len_ PySem.boot_len (pa_cons (pv 1) pa_nil)) (nomark _))
        (pss_one (ps_never))
        pss_nil)))), ?_⟩
    refine ⟨.ref a, rfl, a, zs f1, rfl, ha, Rm.arcs_good hA h1 h20, fun H1 s1 => ?_⟩
    refine ⟨.ref b, rfl, b, zs f2, rfl, s1.seq hb, Rm.arcs_good hB h1 h20, fun H2 s2 => ?_⟩
    refine ⟨.ref a, rfl, a, _, rfl, .inl (s2.seq (s1.seq ha)), .ref b, rfl, b, _, rfl, .inl (s2.seq (s1.seq hb)), rfl, _, rfl, ?_⟩
    rw [decide_eq_true (by rw [vn_len, vn_len, hA.len, hB.len])]
    exact iteF (q _ (s1.trans s2))
theorem ok_many_roads (D : Dfn K mg "many_roads" s_many_roads ["above", "below"]) (B : Blt mg) (c_ask_both : Cal P w K mg base 3 "ask_both" (spAskBoth K)) (c_roads_by : Cal P w K mg base 1 "roads_by" (spRoadsBy K)) : Cal P w K mg base 4 "many_roads" (spManyRoads K) := by
  refine D.cal sc_many_roads (fun vs H Q E h => ?_) (fun f cdv A outer s0 H vs Q E hr h => ?_)
  · obtain ⟨a, b, n, f1, f2, rfl, _⟩ := h
    rfl
  · obtain ⟨a, b, n, f1, f2, rfl, ha, hb, hA, hB, h1, h20, q⟩ := h
    refine ⟨_, (pss_cons (ps_expr (pe_c c_ask_both hr (by omega) (by rfl) (pa_cons (pv 0) (pa_cons (pv 1) pa_nil))))
      (pss_one (ps_ret (pe_callB call_len_seq (by rfl) B.len_ PySem.boot_len (pa_cons (pe_c c_roads_by hr (by omega) (by rfl) (pa_cons (pv 0) (pa_cons (pv 1) pa_nil))) pa_nil))))), ?_⟩
    refine ⟨.ref a, rfl, .ref b, rfl, a, b, n, f1, f2, rfl, ha, hb, hA, hB, h1, h20, fun H1 s1 => ?_⟩
    refine ⟨.ref a, rfl, .ref b, rfl, a, b, 2 * n, f1, f2, rfl, s1.seq ha, s1.seq hb, hA.len, hB.len, by omega, hA.arcs.inv2, hB.arcs.lt, fun H2 p rs s2 np hp hl _ _ _ => ?_⟩
    refine ⟨p, _, rfl, .inl (sqL hp), ?_⟩
    rw [List.length_map, hl.1]
    exact q H2 (s1.trans s2)
end

end Rv

namespace Rv
open PySem PySem.Spec PyProof.Rows L2
open Rm (zs at')
/-! ### _law_roads -/
abbrev s_law_roads : Stmt := topS 21
theorem sc_law_roads : FnScope ["above", "below", "found", "left", "road", "at"] ["above", "below"] (defScope s_law_roads) := ⟨rfl, rfl, rfl, by decide +kernel, rfl, by decide +kernel, by decide +kernel⟩
section
variable {P : Program} {w : World} {K : PySem.W.Frag} {mg : Str → Option Value} {base : Heap}
theorem ok_law_roads (D : Dfn K mg "_law_roads" s_law_roads ["above", "below"]) (B : Blt mg) : Cal P w K mg base 1 "_law_roads" (spRoadsBy K) := by
  refine D.cal sc_law_roads (fun vs H Q E h => ?_) (fun f cdv A outer s0 H vs Q E hr h => ?_)
  · obtain ⟨a, b, M, f1, f2, rfl, _⟩ := h
    rfl
  · obtain ⟨a, b, M, f1, f2, rfl, ha, hb, l1, l2, hM, IA, hB, q⟩ := h
    refine ⟨_, (pss_cons (ps_set (i := 2) sc_law_roads.nd rfl (.inl rfl) (pe_lst pa_nil))
      (pss_cons (ps_set (i := 3) sc_law_roads.nd rfl (.inl rfl) (pe_listRg rfl (by rfl) B.list_ (prg_1 (by rfl) B.range_ (pe_callB call_len_seq (by rfl) B.len_ PySem.boot_len (pa_cons (pv 0) pa_nil)))))
      (pss_cons (ps_while PassesOwn.never (pt_cmpR op_gt (pe_callB call_len_seq (by rfl) B.len_ PySem.boot_len (pa_cons (pv 3) pa_nil)) pe_int (nomark _))
        (pss_cons (ps_set (i := 4) sc_law_roads.nd rfl (.inl rfl) (pe_lst pa_nil))
        (pss_cons (ps_set (i := 5) sc_law_roads.nd rfl (.inl rfl) (pe_ix ix_list (pv 3) pe_int (fun _ _ => rfl)))
        (pss_cons (ps_while PassesOwn.never (pt_cmpR op_in_seq (pv 5) (pv 3) (by rfl))
          (pss_cons (ps_expr (pe_bm PySem.F.plainAttrs_list PySem.F.slot_list_remove PySem.F.type_list_remove mt_remove (pv 3) (pa_cons (pv 5) pa_nil)))
          (pss_cons (ps_expr (pe_bm PySem.F.plainAttrs_list PySem.F.slot_list_remove PySem.F.type_list_remove mt_remove (pv 3) (pa_cons (pe_ix ix_list (pv 0) (pv 5) (fun _ _ => rfl)) pa_nil)))
          (pss_cons (ps_set (i := 4) sc_law_roads.nd rfl (.inl rfl) (pe_op op_cat (pv 4) (pe_lst (pa_cons (pv 5) (pa_cons (pe_ix ix_list (pv 0) (pv 5) (fun _ _ => rfl)) pa_nil)))))
          (pss_one (ps_set (i := 5) sc_law_roads.nd rfl (.inl rfl) (pe_ix ix_list (pv 1) (pe_ix ix_list (pv 0) (pv 5) (fun _ _ => rfl)) (fun _ _ => rfl))))))))
        (pss_one (ps_expr (pe_bm PySem.F.plainAttrs_list PySem.F.slot_list_append PySem.F.type_list_append mt_append (pv 2) (pa_cons (pv 4) pa_nil))))))))
      (pss_one (ps_ret (pv 2)))))), ?_⟩
    refine ⟨Nat.zero_le _, fun p np => ?_⟩
    have sp := same_new (o := .lst []) np
    refine ⟨.ref a, rfl, a, _, rfl, .inl (sp.seq ha), _, rfl, ?_, fun d nd => ?_⟩
    · rw [vn_len, l1]
      exact RgOk.of_le (by decide) (by omega) (by decide) (by omega)
    rw [show (((vn f1).length : Nat) : Int) = (M : Int) by rw [vn_len, l1], rgV_vn]
    have d0 : H d = none := sp.free nd
    have hpd : p ≠ d := ne_of_none upd_same nd
    have sd := sp.trans (same_new (o := .lst (vn (List.range M))) nd)
    have lr : List.range M = Rm.leftL M ([] : List Nat) := by
      unfold Rm.leftL
      exact (List.filter_eq_self.mpr (by simp)).symm
    refine ⟨fun m σ H' => ∃ (i : Nat) (y4 y5 : Option V) (rs : List Addr), σ = [some (.ref a), some (.ref b), some (.ref p), some (.ref d), y4, y5] ∧ Same H H' ∧ H' p = some (.lst (vr rs)) ∧ H' d = some (.lst (vn (Rm.leftL M (Rm.goR (at' f1) (at' f2) M [] i).flatten))) ∧ HL H' rs (Rm.goR (at' f1) (at' f2) M [] i) ∧ rs.Nodup ∧ p ∉ rs ∧ (∀ r, r ∈ rs → H r = none) ∧ i ≤ M ∧ d ∉ rs ∧ m = (Rm.leftL M (Rm.goR (at' f1) (at' f2) M [] i).flatten).length,
      ⟨_, 0, none, none, [], rfl, sd, by rw [upd_ne hpd, upd_same]; rfl, by rw [upd_same, lr]; rfl, HL.nil _, .nil, by simp, by simp, Nat.zero_le _, by simp, rfl⟩, fun m σ H' hW => ?_⟩
    obtain ⟨i, y4, y5, rs, rfl, sm, hp, hd, hl, hnd, hpr, hfr, hiM, hds, hmm⟩ := hW
    have S := Rm.goR_seen (s0 := []) IA hB ⟨.nil, by simp, by simp⟩ i hiM
    have hmem := Rm.goR_mem (a := at' f1) (b := at' f2) (M := M) (s0 := []) i hiM
    rw [List.nil_append] at S hmem
    have hFlen := Rm.goR_len (a := at' f1) (b := at' f2) (M := M) (s0 := []) i hiM
    generalize hF : Rm.goR (at' f1) (at' f2) M [] i = F at *
    refine ⟨.ref d, rfl, d, _, rfl, .inl (sqL hd), _, _, rfl, rfl, _, rfl, ?_⟩
    rw [vn_len]
    cases hL : Rm.leftL M F.flatten with
    | nil =>
      rw [decide_eq_false (by simp)]
      have e : Rm.goR (at' f1) (at' f2) M [] M = F := by
        rw [Rm.goR_skip (i := i) M hiM (fun x _ hx => by rw [hF, List.nil_append]; exact Rm.left_nil hL x hx), hF]
      refine iteF ⟨.ref p, rfl, q H' p rs sm np hp ?_ hnd hpr hfr⟩
      unfold Rm.roadsM
      rw [e]
      exact hl
    | cons x0 rest =>
      rw [decide_eq_true (by simp)]
      obtain ⟨hx0, hx0n, hx0l⟩ := Rm.left_head hL
      have hix : i ≤ x0 := by
        rcases Nat.lt_or_ge x0 i with h | h
        · exact absurd (hmem x0 h) hx0n
        · exact h
      have e0 : Rm.goR (at' f1) (at' f2) M [] x0 = F := by
        rw [Rm.goR_skip (i := i) x0 hix (fun x _ hx => by rw [hF, List.nil_append]; exact hx0l x hx), hF]
      have e1 : Rm.goR (at' f1) (at' f2) M [] (x0 + 1) = F ++ [Rm.walk (at' f1) (at' f2) M F.flatten x0 []] := by
        rw [Rm.goR_succ, e0]
        unfold Rm.stepR
        rw [if_neg (by simpa using hx0n), List.nil_append]
      refine iteT ⟨fun σ' H3 => ∃ (i' : Nat) (y4 y5 : Option V) (rs : List Addr), σ' = [some (.ref a), some (.ref b), some (.ref p), some (.ref d), y4, y5] ∧ Same H H3 ∧ H3 p = some (.lst (vr rs)) ∧ H3 d = some (.lst (vn (Rm.leftL M (Rm.goR (at' f1) (at' f2) M [] i').flatten))) ∧ HL H3 rs (Rm.goR (at' f1) (at' f2) M [] i') ∧ rs.Nodup ∧ p ∉ rs ∧ (∀ r, r ∈ rs → H r = none) ∧ i' ≤ M ∧ d ∉ rs ∧ (Rm.leftL M (Rm.goR (at' f1) (at' f2) M [] i').flatten).length < m,
        fun σ' H3 ⟨i', y4, y5, rs, z1, z2, z3, z4, z5, z6, z7, z8, z9, z10, z11⟩ => ⟨_, z11, i', y4, y5, rs, z1, z2, z3, z4, z5, z6, z7, z8, z9, z10, rfl⟩, ?_⟩
      -- road = []
      refine ⟨Nat.zero_le _, fun r nr => ?_⟩
      have sr := same_new (o := .lst []) nr
      have r0 : H r = none := sm.free nr
      have hrp : r ≠ p := (ne_of_none hp nr).symm
      have hrd : r ≠ d := (ne_of_none hd nr).symm
      have inH : ∀ y, y ∈ rs → ∃ l, H' y = some (.lst (vn l)) := fun y hy => by
        obtain ⟨j, hj⟩ := List.mem_iff_getElem?.mp hy
        have hj2 : j < F.length := by rw [← hl.1]; exact (List.getElem?_eq_some_iff.mp hj).1
        exact ⟨_, hl.2 j y _ hj (List.getElem?_eq_getElem hj2)⟩
      have hrs : r ∉ rs := fun h => by
        obtain ⟨l, hl'⟩ := inH r h
        rw [nr] at hl'
        cases hl'
      have hd1 := sr _ _ hd
      rw [hL] at hd1
      refine ⟨.ref d, rfl, d, _, 0, .int (x0 : Int), rfl, rfl, sqL hd1, at_of (j := 0) rfl rfl, ?_⟩
      rw [← hL] at hd1
      -- while at in left
      refine ⟨fun m2 σ H'' => ∃ (x : Nat) (road : List Nat) (r : Addr), σ = [some (.ref a), some (.ref b), some (.ref p), some (.ref d), some (.ref r), some (.int x)] ∧ Sx [d] H' H'' ∧ H'' d = some (.lst (vn (Rm.leftL M (F.flatten ++ road)))) ∧ H'' r = some (.lst (vn road)) ∧ r ∉ rs ∧ r ≠ p ∧ r ≠ d ∧ H r = none ∧ x < M ∧ Rm.Seen (at' f1) M (F.flatten ++ road) ∧
        Rm.walk (at' f1) (at' f2) m2 F.flatten x road = Rm.walk (at' f1) (at' f2) M F.flatten x0 [] ∧ M ≤ m2 + (F.flatten ++ road).length,
        ⟨M, x0, [], r, rfl, Sx.of sr, by rw [List.append_nil]; exact hd1, upd_same, hrs, hrp, hrd, r0, hx0, by rw [List.append_nil]; exact S, rfl, by omega⟩, fun m2 σ H'' hW => ?_⟩
      clear hrs hrp hrd r0 hd1 sr nr
      clear r
      obtain ⟨x, road, r, rfl, sx, hd2, hr2, hrs, hrp, hrd, r0, hxM, S2, hwk, hfu⟩ := hW
      have S0 : ∀ x, x ∈ [d] → H x = none := fun x hx => by
        simp at hx
        rw [hx]; exact d0
      have hSm : Same H H'' := Sx.same sx sm S0
      have hp2 : H'' p = some (.lst (vr rs)) := sx _ _ (by simp [hpd]) hp
      have hl2 : HL H'' rs F := HL.sx hl sx (fun y hy => by
        simp at hy
        rw [hy]; exact hds)
      refine ⟨.int x, rfl, .ref d, rfl, d, _, rfl, .inl (sqL hd2), rfl, flat_vn _, _, rfl, ?_⟩
      show if (inV (.int (x : Int)) (vn (Rm.leftL M (F.flatten ++ road)))) = true then _ else _
      rw [in_vn]
      by_cases hx : x ∈ F.flatten ++ road
      · rw [decide_eq_false (fun z => (Rm.mem_left.mp z).2 hx)]
        rw [Rm.walk_stop hx] at hwk
        refine iteF ⟨.ref p, rfl, .inl ⟨rfl, _, sqL hp2⟩, .ref r, rfl, p, _, _, rfl, rfl, hp2, ?_, ?_⟩
        · rw [List.length_map, hl.1]
          exact small63 (by omega)
        · refine ⟨x0 + 1, _, _, rs ++ [r], rfl, same_upd hSm np, by rw [upd_same]; simp [vr], ?_⟩
          rw [e1, Rm.flatten_snoc, ← hwk]
          refine ⟨by rw [upd_ne hpd.symm]; exact hd2, ?_, ?_, ?_, ?_, by omega, ?_, ?_⟩
          · have hl3 := HL.snoc hl2 hr2
            refine HL.sx (X := [p]) hl3 ((Sx.refl _ _).upd (by simp)) (fun y hy => ?_)
            simp at hy
            subst hy
            simp [hpr, hrp.symm]
          · rw [List.nodup_append]
            exact ⟨hnd, by simp, fun y hy z hz => by simp at hz; rw [hz]; exact fun e => hrs (e ▸ hy)⟩
          · simp [hpr, hrp.symm]
          · intro y hy
            simp at hy
            rcases hy with hy | rfl
            · exact hfr y hy
            · exact r0
          · simp [hds, hrd.symm]
          · rw [hmm, hwk]
            refine Rm.left_lt hx0 hx0n ?_
            obtain ⟨t, et⟩ := Rm.walk_first (a := at' f1) (b := at' f2) (M := M) (s := F.flatten) (show 0 < M by omega) hx0n
            rw [et]
            simp
      · rw [decide_eq_true (Rm.mem_left.mpr ⟨hxM, hx⟩)]
        obtain ⟨m', rfl⟩ := Rm.fuel_pos S2 hxM hx hfu
        rw [Rm.walk_go hx] at hwk
        have hpush := S2.push IA hxM hx
        have hax := IA.lt x hxM
        have hszl := Rm.nodup_len M _ hpush.2.nd hpush.2.lt
        rw [List.length_append, List.length_cons, List.length_cons, List.length_nil] at hszl
        have hk3 : road.length + 2 ≤ 1000 := by rw [List.length_append] at hszl; omega
        refine iteT ⟨fun σ' H3 => ∃ (x : Nat) (road : List Nat) (r : Addr), σ' = [some (.ref a), some (.ref b), some (.ref p), some (.ref d), some (.ref r), some (.int x)] ∧ Sx [d] H' H3 ∧ H3 d = some (.lst (vn (Rm.leftL M (F.flatten ++ road)))) ∧ H3 r = some (.lst (vn road)) ∧ r ∉ rs ∧ r ≠ p ∧ r ≠ d ∧ H r = none ∧ x < M ∧ Rm.Seen (at' f1) M (F.flatten ++ road) ∧
          Rm.walk (at' f1) (at' f2) m' F.flatten x road = Rm.walk (at' f1) (at' f2) M F.flatten x0 [] ∧ M ≤ m' + (F.flatten ++ road).length, fun σ' H3 h3 => ⟨m', Nat.lt_succ_self _, h3⟩, ?_⟩
        -- left.remove(at)
        obtain ⟨j, j1, j2, j3⟩ := rem_ok (Rm.left_nodup M (F.flatten ++ road)) (Rm.mem_left.mpr ⟨hxM, hx⟩)
        refine ⟨.ref d, rfl, .inl ⟨rfl, _, sqL hd2⟩, .int x, rfl, d, _, _, j, rfl, rfl, hd2, j1, j2, ?_⟩
        rw [j3, Rm.left_drop]
        have sx1 : Sx [d] H' (upd H'' d (.lst (vn (Rm.leftL M (F.flatten ++ road ++ [x]))))) := sx.upd (by simp)
        have hr3 : (upd H'' d (.lst (vn (Rm.leftL M (F.flatten ++ road ++ [x]))))) r = some (.lst (vn road)) := by rw [upd_ne hrd]; exact hr2
        have hd3 : (upd H'' d (.lst (vn (Rm.leftL M (F.flatten ++ road ++ [x]))))) d = some (.lst (vn (Rm.leftL M (F.flatten ++ road ++ [x])))) := upd_same
        generalize upd H'' d (.lst (vn (Rm.leftL M (F.flatten ++ road ++ [x])))) = H4 at sx1 hr3 hd3
        have ha4 := (Sx.same sx1 sm S0).seq ha
        -- left.remove(above[at])
        obtain ⟨j', j1', j2', j3'⟩ := rem_ok (Rm.left_nodup M (F.flatten ++ road ++ [x])) (Rm.mem_left.mpr ⟨hax, fun h => by
          rcases List.mem_append.mp h with h | h
          · exact hpush.1 h
          · simp at h
            exact IA.ne x hxM h⟩)
        refine ⟨.ref d, rfl, .inl ⟨rfl, _, sqL hd3⟩, .ref a, rfl, .int x, rfl, a, _, _, _, rfl, rfl, ha4, vn_at (by omega) rfl, d, _, _, j', rfl, rfl, hd3, j1', j2', ?_⟩
        rw [j3', Rm.left_drop]
        have sx2 : Sx [d] H' (upd H4 d (.lst (vn (Rm.leftL M (F.flatten ++ road ++ [x] ++ [at' f1 x]))))) := sx1.upd (by simp)
        have hr4 : (upd H4 d (.lst (vn (Rm.leftL M (F.flatten ++ road ++ [x] ++ [at' f1 x]))))) r = some (.lst (vn road)) := by rw [upd_ne hrd]; exact hr3
        have hd4 : (upd H4 d (.lst (vn (Rm.leftL M (F.flatten ++ road ++ [x] ++ [at' f1 x]))))) d = some (.lst (vn (Rm.leftL M (F.flatten ++ road ++ [x] ++ [at' f1 x])))) := upd_same
        generalize upd H4 d (.lst (vn (Rm.leftL M (F.flatten ++ road ++ [x] ++ [at' f1 x])))) = H5 at sx2 hr4 hd4
        have ha5 := (Sx.same sx2 sm S0).seq ha
        -- road = road + [at, above[at]]
        refine ⟨.ref r, rfl, .int x, rfl, .ref a, rfl, .int x, rfl, a, _, _, _, rfl, rfl, ha5, vn_at (by omega) rfl, by show 2 ≤ sizeLine; decide, fun t nt => ?_⟩
        have st := same_new (o := .lst [.int x, .int ((at' f1 x : Nat) : Int)]) nt
        refine ⟨r, t, _, _, rfl, rfl, st _ _ hr4, upd_same, by rw [vn_len]; exact small63' (by show _ + 2 ≤ _; omega), fun r2 nr2 => ?_⟩
        have sr2 := same_new (o := .lst (vn road ++ [.int x, .int ((at' f1 x : Nat) : Int)])) nr2
        have sx3 := (sx2.trans (Sx.of st)).trans (Sx.of sr2)
        have hd5 := sr2 _ _ (st _ _ hd4)
        have hr5 : (upd (upd H5 t (.lst [.int x, .int ((at' f1 x : Nat) : Int)])) r2 (.lst (vn road ++ [.int x, .int ((at' f1 x : Nat) : Int)]))) r2 = some (.lst (vn (road ++ [x, at' f1 x]))) := by
          rw [upd_same]
          simp [vn, vi, zs]
        have nr5 : H5 r2 = none := st.free nr2
        have n0 : H r2 = none := (Sx.same sx2 sm S0).free nr5
        have np2 : r2 ≠ p := (ne_of_none (sx2 _ _ (by simp [hpd]) hp) nr5).symm
        have nd2 : r2 ≠ d := (ne_of_none hd4 nr5).symm
        have nrs2 : r2 ∉ rs := fun h => by
          obtain ⟨l, hl'⟩ := inH r2 h
          have := sx2 _ _ (by simp [nd2]) hl'
          rw [nr5] at this
          cases this
        generalize upd (upd H5 t (.lst [.int x, .int ((at' f1 x : Nat) : Int)])) r2 (.lst (vn road ++ [.int x, .int ((at' f1 x : Nat) : Int)])) = H6 at sx3 hd5 hr5
        have ha6 := (Sx.same sx3 sm S0).seq ha
        have hb6 := (Sx.same sx3 sm S0).seq hb
        refine ⟨.ref b, rfl, .ref a, rfl, .int x, rfl, a, _, _, _, rfl, rfl, ha6, vn_at (by omega) rfl, b, _, _, _, rfl, rfl, hb6, vn_at (by omega) rfl, ?_⟩
        refine ⟨at' f2 (at' f1 x), road ++ [x, at' f1 x], r2, rfl, sx3, ?_, hr5, nrs2, np2, nd2, n0, hB _ hax, ?_, hwk, ?_⟩
        · rw [hd5]
          simp
        · rw [← List.append_assoc]; exact hpush.2
        · simp at hfu ⊢
          omega
end

end Rv

namespace Rv
open PySem PySem.Spec PyProof.Rows L2
open Rm (zs at')
/-! ### lifted, seen_from, one_road -/
abbrev s_lifted : Stmt := topS 12
theorem sc_lifted : FnScope ["arcs", "at", "ends", "end"] ["arcs", "at"] (defScope s_lifted) := ⟨rfl, rfl, rfl, by decide +kernel, rfl, by decide +kernel, by decide +kernel⟩
abbrev s_seen_from : Stmt := topS 13
theorem sc_seen_from : FnScope ["arcs", "at", "covers", "k"] ["arcs", "at"] (defScope s_seen_from) := ⟨rfl, rfl, rfl, by decide +kernel, rfl, by decide +kernel, by decide +kernel⟩
abbrev s_one_road : Stmt := topS 14
theorem sc_one_road : FnScope ["above", "k", "at", "rest", "below", "first", "last", "found", "ends", "near", "end"] ["above"] (defScope s_one_road) := ⟨rfl, rfl, rfl, by decide +kernel, rfl, by decide +kernel, by decide +kernel⟩
theorem cutTo {xs : List V} {k : Nat} (h : k ≤ xs.length) : cutV xs none (some (k : Int)) = xs.take k := by
  unfold cutV
  rw [show HT.sIx xs.length xs.length (some (k : Int)) = min k xs.length from HT.sIx_nat xs.length _ k, HT.sIx_none, Nat.min_eq_left h]
  rfl
theorem cutFrom {xs : List V} {k : Nat} {z : Int} (e : z = (k : Int)) (h : k ≤ xs.length) : cutV xs (some z) none = xs.drop k := by
  subst e
  unfold cutV
  rw [show HT.sIx xs.length 0 (some (k : Int)) = min k xs.length from HT.sIx_nat xs.length _ k, HT.sIx_none, Nat.min_eq_left h]
  exact List.take_of_length_le (by simp)
def liftF (p : Nat) (b : Nat → Nat) (k : Nat) : Nat := if k = p then p + 1 else if k = p + 1 then p else Rm.up p (b (Rm.dwn p k))
def liftL (p m : Nat) (fb : List Nat) : List Nat := Rm.mkL (m + 2) (liftF p (at' fb))
def remL (p m : Nat) (fa : List Nat) : List Nat := Rm.mkL m (Rm.remF p (at' fa))
theorem vn_tk (l : List Nat) (k : Nat) : (vn l).take k = vn (l.take k) := by simp [vn, vi, zs, List.map_take]
theorem vn_dr (l : List Nat) (k : Nat) : (vn l).drop k = vn (l.drop k) := by simp [vn, vi, zs, List.map_drop]
theorem vn_app (l r : List Nat) : vn l ++ vn r = vn (l ++ r) := by simp [vn, vi, zs]
theorem at_app (l r : List Nat) (k : Nat) : at' (l ++ r) k = if k < l.length then at' l k else at' r (k - l.length) := by
  unfold at'
  rw [List.getD_eq_getElem?_getD, List.getElem?_append]
  split <;> rw [List.getD_eq_getElem?_getD]
theorem at_tk (l : List Nat) {i k : Nat} (h : k < i) : at' (l.take i) k = at' l k := by
  unfold at'
  rw [List.getD_eq_getElem?_getD, List.getD_eq_getElem?_getD, List.getElem?_take_of_lt h]
theorem at_dr (l : List Nat) (i k : Nat) : at' (l.drop i) k = at' l (i + k) := by
  unfold at'
  rw [List.getD_eq_getElem?_getD, List.getD_eq_getElem?_getD, List.getElem?_drop]
theorem at_map (f : Nat → Nat) {l : List Nat} {k : Nat} (h : k < l.length) : at' (l.map f) k = f (at' l k) := by
  unfold at'
  simp [List.getD_eq_getElem?_getD, h]
theorem get_at {l : List Nat} {k : Nat} (h : k < l.length) : l[k]? = some (at' l k) := by
  unfold at'
  rw [List.getD_eq_getElem?_getD, List.getElem?_eq_getElem h]
  rfl
theorem lift_eq {p m : Nat} {fb : List Nat} (hl : fb.length = m) (hp : p ≤ m) : (fb.map (Rm.up p)).take p ++ [p + 1, p] ++ (fb.map (Rm.up p)).drop p = liftL p m fb := by
  have tl : ((fb.map (Rm.up p)).take p).length = p := by simp [hl, hp]
  apply Rm.ext_at
  · rw [show (liftL p m fb).length = m + 2 from Rm.mkL_len _ _]
    simp [hl]
    omega
  · intro k hk
    rw [show (liftL p m fb).length = m + 2 from Rm.mkL_len _ _] at hk
    rw [show at' (liftL p m fb) k = _ from Rm.mkL_at hk, at_app, at_app, List.length_append, tl]
    unfold liftF
    have hd := Rm.dwn_cases p k
    by_cases c1 : k < p
    · rw [if_pos (by simp; omega), if_pos c1, at_tk _ c1, at_map _ (by omega), if_neg (by omega), if_neg (by omega)]
      rw [show Rm.dwn p k = k by omega]
    · by_cases c2 : k = p
      · subst c2
        rw [if_pos (by simp), if_neg (by omega), if_pos rfl, Nat.sub_self]; rfl
      · by_cases c3 : k = p + 1
        · subst c3
          rw [if_pos (by simp), if_neg (by omega), if_neg (by omega), if_pos rfl, Nat.add_sub_cancel_left]; rfl
        · rw [if_neg (by simp; omega), if_neg c2, if_neg c3, at_dr, show p + (k - (p + [p + 1, p].length)) = k - 2 by simp; omega, at_map _ (by omega)]
          rw [show Rm.dwn p k = k - 2 by omega]
theorem rem_eq {p m : Nat} {fa : List Nat} (hl : fa.length = m + 2) (hp : p + 1 < m + 2) : (fa.take p ++ fa.drop (p + 2)).map (Rm.dwn p) = remL p m fa := by
  have tl : (fa.take p).length = p := by simp [hl]; omega
  have dl : (fa.drop (p + 2)).length = m - p := by simp [hl]
  apply Rm.ext_at
  · rw [show (remL p m fa).length = m from Rm.mkL_len _ _]
    rw [List.length_map, List.length_append, tl, dl]
    omega
  · intro k hk
    rw [show (remL p m fa).length = m from Rm.mkL_len _ _] at hk
    rw [show at' (remL p m fa) k = _ from Rm.mkL_at hk, at_map _ (by rw [List.length_append, tl, dl]; omega), at_app, tl]
    unfold Rm.remF
    have hu := Rm.up_cases p k
    by_cases c : k < p
    · rw [if_pos c, at_tk _ c, show Rm.up p k = k by omega]
    · rw [if_neg c, at_dr, show p + 2 + (k - p) = Rm.up p k by omega]
/-- what a sieve leaves of the first places -/
theorem sieve_last (q : Nat → Bool) : ∀ m, (List.range m).filter q = [] ∨ ∃ l x, (List.range m).filter q = l ++ [x] ∧ x < m ∧ q x = true ∧ ∀ k, x < k → k < m → q k = false
  | 0 => .inl rfl
  | m + 1 => by
    rw [List.range_succ, List.filter_append]
    by_cases c : q m = true
    · exact .inr ⟨_, m, by rw [List.filter_cons_of_pos c]; rfl, by omega, c, fun k h1 h2 => by omega⟩
    · rw [show [m].filter q = [] by rw [List.filter_cons_of_neg c]; rfl, List.append_nil]
      rcases sieve_last q m with h | ⟨l, x, h1, h2, h3, h4⟩
      · exact .inl h
      · refine .inr ⟨l, x, h1, by omega, h3, fun k g1 g2 => ?_⟩
        by_cases e : k = m
        · rw [e]; exact Bool.eq_false_iff.mpr c
        · exact h4 k g1 (by omega)
theorem sieve_succ (q : Nat → Bool) (i : Nat) : (List.range (i + 1)).filter q = (List.range i).filter q ++ (if q i then [i] else []) := by
  rw [List.range_succ, List.filter_append]
  congr 1
  by_cases c : q i = true
  · rw [if_pos c, List.filter_cons_of_pos c]; rfl
  · rw [if_neg c, List.filter_cons_of_neg c]; rfl
theorem sieve_len (q : Nat → Bool) (i : Nat) : ((List.range i).filter q).length ≤ i := by
  have := List.length_filter_le q (List.range i)
  rw [List.length_range] at this
  exact this
theorem vn_lastN (s : List Nat) (k : Nat) {z : Int} (e : z = -1) : atI (vn (s ++ [k])) z = some (.int (k : Int)) := by
  subst e
  unfold atI ixN
  rw [if_neg (by decide), if_pos (by rw [vn_len]; simp; omega)]
  show (vn (s ++ [k]))[((-1 : Int) + _).toNat]? = _
  rw [vn_len, show ((-1 : Int) + ((s ++ [k]).length : Nat)).toNat = (vn (s ++ [k])).length - 1 by rw [vn_len]; simp; omega]
  exact vn_last s k
def spLifted : Sp := fun vs H Q _ => ∃ (a : Addr) (p m : Nat) (fb : List Nat), vs = [.ref a, .int (p : Int)] ∧ H a = some (.lst (vn fb)) ∧ fb.length = m ∧ p ≤ m ∧ m ≤ 100 ∧ NewL H Q (liftL p m fb)
def spSeen (K : PySem.W.Frag) : Sp := fun vs H Q _ => ∃ (a : Addr) (p m : Nat) (fb : List Nat), vs = [.ref a, .int (p : Int)] ∧ H a = some (.lst (vn fb)) ∧ fb.length = m ∧ Rm.Arcs m (at' fb) ∧ 0 < m ∧ p ≤ m ∧ m ≤ 100 ∧
  ∀ H' t x y nx ny, Rm.Vis m p x y nx ny (at' fb) → Same H H' → H' t = some (.tup [.int ((x : Nat) : Int), .int ((y : Nat) : Int)]) → Q (.ref t) H'
section
variable {P : Program} {w : World} {K : PySem.W.Frag} {mg : Str → Option Value} {base : Heap}
theorem ok_lifted (D : Dfn K mg "lifted" s_lifted ["arcs", "at"]) (B : Blt mg) : Cal P w K mg base 1 "lifted" spLifted := by
  refine D.cal sc_lifted (fun vs H Q E h => ?_) (fun f cdv A outer s0 H vs Q E hr h => ?_)
  · obtain ⟨a, p, m, fb, rfl, _⟩ := h
    rfl
  · obtain ⟨a, p, m, fb, rfl, ha, hl, hp, hm, q⟩ := h
    refine ⟨_, (pss_cons (ps_setLc (i := 2) (own := [("end", 3)]) (g := gName 3) (tt := tYes) rfl sc_lifted.nd rfl rfl (sw_true rfl rfl rfl (by decide +kernel)) (pi_list (pv 0)) (blkOk_by (N := ["arcs", "at", "ends", "end"]) (sc := defScope s_lifted) (by decide +kernel)) (fun _ _ _ _ _ => pg_name (i := 3) sc_lifted.nd rfl (Or.inl rfl)) (fun _ _ _ _ _ => pts_nil) (fun _ _ _ _ _ => (pe_ifExp (pt_cmpR op_lt (pv 3) (pv 1) (nomark _)) (pv 3) (pe_op op_add (pv 3) pe_int))))
      (pss_one (ps_ret (pe_op op_cat (pe_op op_cat (pe_slice sl_list (pv 2) po_none (po_some (pv 1))) (pe_lst (pa_cons (pe_op op_add (pv 1) pe_int) (pa_cons (pv 1) pa_nil)))) (pe_slice sl_list (pv 2) (po_some (pv 1)) po_none))))), ?_⟩
    refine ⟨.ref a, rfl, a, rfl, ⟨_, sqL ha⟩, fun D nD => ?_⟩
    refine lc_it walk_list (fun i H' => Same H H' ∧ H' D = some (.lst (vn ((fb.map (Rm.up p)).take i)))) ⟨same_new nD, upd_same⟩ (fun i H' hi hP => hP.1.seq (sqL ha)) (fun i x H' H'' hi hP hY => ?_) (fun H' hP => ?_)
    · obtain ⟨sm, hD⟩ := hP
      obtain ⟨rfl, hx⟩ := hY
      rw [vn_len] at hi
      rw [vn_get hi] at hx
      cases hx
      refine ⟨rfl, ?_⟩
      unfold tYes
      refine iteT ?_
      have fin : ∀ z : Int, z = ((Rm.up p (at' fb i) : Nat) : Int) → ∃ acc, H'' D = some (.lst acc) ∧ acc.length < sizeLine ∧ (Same H (upd H'' D (.lst (acc ++ [V.int z]))) ∧ (upd H'' D (.lst (acc ++ [V.int z]))) D = some (.lst (vn ((fb.map (Rm.up p)).take (i + 1))))) := fun z hz => by
        refine ⟨_, hD, ?_, same_upd sm nD, ?_⟩
        · rw [vn_len, List.length_take, List.length_map]
          exact small63 (by omega)
        · rw [upd_same, hz, vn_take _ _ _ (by rw [List.getElem?_map, List.getElem?_eq_getElem hi]; simp [at', List.getD_eq_getElem?_getD, hi])]
      have hu := Rm.up_cases p (at' fb i)
      refine ⟨_, rfl, .int p, rfl, _, _, rfl, rfl, _, rfl, ite2 (fun e => ?_) (fun e => ?_)⟩
      · have := of_decide_eq_true e
        exact ⟨_, rfl, fin _ (by omega)⟩
      · have := dn e
        exact ⟨_, rfl, _, _, rfl, rfl, fin _ (by omega)⟩
    · obtain ⟨sm, hD⟩ := hP
      rw [vn_len, vn_full (m := fb.length) (by rw [List.length_map])] at hD
      have lm : (vn (fb.map (Rm.up p))).length = m := by rw [vn_len, List.length_map, hl]
      refine ⟨.ref D, rfl, .int p, rfl, _, rfl, D, _, rfl, sqL hD, fun d1 n1 => ?_⟩
      rw [cutTo (by omega)]
      have s1 := same_new (o := .lst ((vn (fb.map (Rm.up p))).take p)) n1
      have h1 : upd H' d1 (.lst ((vn (fb.map (Rm.up p))).take p)) d1 = _ := upd_same
      have D1 := s1 _ _ hD
      generalize upd H' d1 (.lst ((vn (fb.map (Rm.up p))).take p)) = H1 at s1 h1 D1
      refine ⟨.int p, rfl, _, _, rfl, rfl, .int p, rfl, by show 2 ≤ sizeLine; decide, fun d2 n2 => ?_⟩
      have s2 := same_new (o := .lst [V.int ((p : Int) + 1), V.int (p : Int)]) n2
      have h2 : upd H1 d2 (.lst [V.int ((p : Int) + 1), V.int (p : Int)]) d2 = _ := upd_same
      have h12 := s2 _ _ h1
      have D2 := s2 _ _ D1
      have S2 := s1.trans s2
      dsimp only
      generalize upd H1 d2 (.lst [V.int ((p : Int) + 1), V.int (p : Int)]) = H2 at h2 h12 D2 S2
      refine ⟨d1, d2, _, _, rfl, rfl, h12, h2, by rw [List.length_take]; exact small63' (by simp [lm]; omega), fun d3 n3 => ?_⟩
      have s3 := same_new (o := .lst ((vn (fb.map (Rm.up p))).take p ++ [V.int ((p : Int) + 1), V.int (p : Int)])) n3
      have h3 : upd H2 d3 (.lst ((vn (fb.map (Rm.up p))).take p ++ [V.int ((p : Int) + 1), V.int (p : Int)])) d3 = _ := upd_same
      have D3 := s3 _ _ D2
      have S3 := S2.trans s3
      generalize upd H2 d3 (.lst ((vn (fb.map (Rm.up p))).take p ++ [V.int ((p : Int) + 1), V.int (p : Int)])) = H3 at h3 D3 S3
      refine ⟨.ref D, rfl, .int p, rfl, _, rfl, D, _, rfl, sqL D3, fun d4 n4 => ?_⟩
      rw [cutFrom rfl (by omega)]
      have s4 := same_new (o := .lst ((vn (fb.map (Rm.up p))).drop p)) n4
      refine ⟨d3, d4, _, _, rfl, rfl, s4 _ _ h3, upd_same, ?_, fun d5 n5 => ?_⟩
      · simp [lm]
        exact small63' (by omega)
      · refine q _ d5 ((sm.trans (S3.trans s4)).trans (same_new n5)) ((sm.trans (S3.trans s4)).free n5) ?_
        rw [upd_same, ← lift_eq hl hp, vn_tk, vn_dr, show [V.int ((p : Int) + 1), V.int (p : Int)] = vn [p + 1, p] from rfl, vn_app, vn_app]
theorem ok_seen_from (D : Dfn K mg "seen_from" s_seen_from ["arcs", "at"]) (B : Blt mg) : Cal P w K mg base 1 "seen_from" (spSeen K) := by
  refine D.cal sc_seen_from (fun vs H Q E h => ?_) (fun f cdv A outer s0 H vs Q E hr h => ?_)
  · obtain ⟨a, p, m, fb, rfl, _⟩ := h
    rfl
  · obtain ⟨a, p, m, fb, rfl, ha, hl, hA, h0, hp, hm, q⟩ := h
    refine ⟨_, (pss_cons (ps_setLc (i := 2) (own := [("k", 3)]) (g := gName 3) rfl sc_seen_from.nd rfl rfl (sw_true rfl rfl rfl (by decide +kernel)) (pi_range1 (by rfl) B.range_ (pa_cons (pv 1) pa_nil)) (blkOk_by (N := ["arcs", "at", "covers", "k"]) (sc := defScope s_seen_from) (by decide +kernel)) (fun _ _ _ _ _ => pg_name (i := 3) sc_seen_from.nd rfl (Or.inl rfl)) (fun _ _ _ _ _ => (pts_one (pt_cmpR op_ge (pe_ix (r := rIxL K) ix_list (pv 0) (pv 3) (fun _ _ => rfl)) (pv 1) (nomark _)))) (fun _ _ _ _ _ => (pv 3)))
      (pss_cons (ps_if (pt_cmpR op_gt (pe_callB call_len_seq (by rfl) B.len_ PySem.boot_len (pa_cons (pv 2) pa_nil)) pe_int (nomark _))
        (pss_one (ps_ret (pe_tup (pa_cons (pe_ix ix_list (pv 2) (pe_un un_neg pe_int) (fun _ _ => rfl)) (pa_cons (pe_ix ix_list (pv 0) (pe_ix ix_list (pv 2) (pe_un un_neg pe_int) (fun _ _ => rfl)) (fun _ _ => rfl)) pa_nil)))))
        pss_nil)
      (pss_cons (ps_if (pt_cmpR op_gt (pv 1) pe_int (nomark _))
        (pss_one (ps_ret (pe_tup (pa_cons (pe_ix ix_list (pv 0) (pe_op op_sub (pv 1) pe_int) (fun _ _ => rfl)) (pa_cons (pe_op op_sub (pv 1) pe_int) pa_nil)))))
        pss_nil)
      (pss_one (ps_ret (pe_tup (pa_cons pe_int (pa_cons (pe_ix ix_list (pv 0) pe_int (fun _ _ => rfl)) pa_nil)))))))), ?_⟩
    refine ⟨.int p, rfl, _, rfl, by omega, by omega, fun D nD => ?_⟩
    rw [Int.toNat_natCast]
    refine lc_range (lo := 0) (n := p) (fun i H' => Same H H' ∧ H' D = some (.lst (vn ((List.range i).filter fun k => decide (p ≤ at' fb k))))) ⟨same_new nD, upd_same⟩ (fun i H' hi hP => ?_) (fun H' hP => ?_)
    · obtain ⟨sm, hD⟩ := hP
      rw [Int.zero_add]
      refine ⟨rfl, ?_⟩
      refine ⟨.ref a, rfl, .int i, rfl, a, _, _, _, rfl, rfl, sqL (sm _ _ ha), vn_at (by omega) rfl, .int p, rfl, _, _, rfl, rfl, _, rfl, ?_⟩
      have hs := sieve_succ (fun k => decide (p ≤ at' fb k)) i
      by_cases c : p ≤ at' fb i
      · rw [if_pos (decide_eq_true c)] at hs
        rw [decide_eq_true (by omega)]
        refine iteT ⟨_, rfl, _, hD, ?_, same_upd sm nD, ?_⟩
        · rw [vn_len]
          exact small63 (by have := sieve_len (fun k => decide (p ≤ at' fb k)) i; omega)
        · rw [upd_same, vn_push, hs]
      · rw [if_neg (by simpa using c), List.append_nil] at hs
        rw [decide_eq_false (by omega)]
        exact iteF ⟨sm, by rw [hs]; exact hD⟩
    · obtain ⟨sm, hD⟩ := hP
      have ha' := sm _ _ ha
      have inv := hA.inv
      rcases sieve_last (fun k => decide (p ≤ at' fb k)) p with e | ⟨l, x, e, hx, hq, hn⟩
      · rw [e] at hD
        have hcov : ∀ k, k < p → at' fb k < p := fun k hk => by
          have : k ∉ (List.range p).filter fun k => decide (p ≤ at' fb k) := by rw [e]; simp
          rw [List.mem_filter] at this
          by_cases c : p ≤ at' fb k
          · exact absurd ⟨List.mem_range.mpr hk, decide_eq_true c⟩ this
          · omega
        refine ⟨.ref D, rfl, D, _, rfl, .inl (sqL hD), _, _, rfl, rfl, _, rfl, iteF ?_⟩
        refine ⟨.int p, rfl, _, _, rfl, rfl, _, rfl, ite2 (fun c => ?_) (fun c => ?_)⟩
        · have hp0 := of_decide_eq_true c
          have hb := hcov (p - 1) (by omega)
          have hne := hA.ne (p - 1) (by omega)
          refine ⟨.ref a, rfl, .int p, rfl, _, _, rfl, rfl, a, _, _, _, rfl, rfl, sqL ha', vn_at (k := p - 1) (by omega) (by omega), .int p, rfl, _, _, rfl, rfl, by show 2 ≤ sizeLine; decide, fun t nt => ?_⟩
          refine q _ t (at' fb (p - 1)) (p - 1) (p + 1) p ⟨by omega, by omega, by omega, inv _ (by omega), .inr (.inl ⟨by omega, rfl, rfl, hcov⟩)⟩ (sm.trans (same_new nt)) ?_
          rw [upd_same]
          dsimp only
          rw [show (p : Int) - 1 = ((p - 1 : Nat) : Int) by omega]
        · have hp0 : p = 0 := by have := dn c; omega
          have hne := hA.ne 0 h0
          refine ⟨.ref a, rfl, a, _, _, _, rfl, rfl, sqL ha', vn_at (k := 0) (by omega) rfl, by show 2 ≤ sizeLine; decide, fun t nt => ?_⟩
          refine q _ t 0 (at' fb 0) (p + 1) p ⟨h0, hA.lt _ h0, by omega, rfl, .inr (.inr ⟨hp0, rfl, rfl, rfl⟩)⟩ (sm.trans (same_new nt)) ?_
          rw [upd_same]; rfl
      · rw [e] at hD
        have hxq := of_decide_eq_true hq
        have hlen : (vn (l ++ [x])).length = l.length + 1 := by rw [vn_len, List.length_append]; rfl
        refine ⟨.ref D, rfl, D, _, rfl, .inl (sqL hD), _, _, rfl, rfl, _, rfl, ?_⟩
        rw [decide_eq_true (by rw [hlen]; omega)]
        refine iteT ⟨.ref D, rfl, _, rfl, D, _, _, _, rfl, rfl, sqL hD, vn_lastN l x rfl, .ref a, rfl, .ref D, rfl, _, rfl, D, _, _, _, rfl, rfl, sqL hD, vn_lastN l x rfl, a, _, _, _, rfl, rfl, sqL ha', vn_at (k := x) (by omega) rfl, by show 2 ≤ sizeLine; decide, fun t nt => ?_⟩
        refine q _ t x (at' fb x) p (p + 1) ⟨by omega, hA.lt _ (by omega), by omega, rfl, .inl ⟨hx, hxq, rfl, rfl, fun k g1 g2 => ?_⟩⟩ (sm.trans (same_new nt)) upd_same
        have := of_decide_eq_false (hn k g1 g2)
        omega
def spOne (N : Nat) : Sp := fun vs H Q _ => ∃ (a : Addr) (n : Nat) (fa : List Nat), vs = [.ref a] ∧ H a = some (.lst (vn fa)) ∧ Rm.ArcsL n fa ∧ 1 ≤ n ∧ n ≤ N ∧
  ∀ H' p fb, Rm.ArcsL n fb → Rm.AllC (at' fa) (at' fb) (2 * n) → Same H H' → H p = none → H' p = some (.lst (vn fb)) → Q (.ref p) H'
theorem one_step (D : Dfn K mg "one_road" s_one_road ["above"]) (B : Blt mg) (c_ask : Cal P w K mg base 2 "ask" (spAsk K)) (c_seen_from : Cal P w K mg base 1 "seen_from" (spSeen K)) (c_lifted : Cal P w K mg base 1 "lifted" spLifted) (N : Nat) (h20 : N + 1 ≤ 20)
    (c_one_road : Cal P w K mg base (N + 3) "one_road" (spOne N)) : Cal P w K mg base (N + 4) "one_road" (spOne (N + 1)) := by
  refine D.cal sc_one_road (fun vs H Q E h => ?_) (fun f cdv A outer s0 H vs Q E hr h => ?_)
  · obtain ⟨a, n, fa, rfl, _⟩ := h
    rfl
  · obtain ⟨a, n, fa, rfl, ha, hA, h1, hN, q⟩ := h
    refine ⟨_, (pss_cons (ps_expr (pe_c c_ask hr (by omega) (by rfl) (pa_cons (pv 0) pa_nil)))
      (pss_cons (ps_if (pt_cmpR op_eq (pe_callB call_len_seq (by rfl) B.len_ PySem.boot_len (pa_cons (pv 0) pa_nil)) pe_int (nomark _))
        (pss_one (ps_ret (pe_lst (pa_cons pe_int (pa_cons pe_int pa_nil)))))
        pss_nil)
      (pss_cons (ps_set (i := 2) sc_one_road.nd rfl (.inr rfl) (pe_ix ix_list (pe_lc (own := [("k", 1)]) (g := gName 1) rfl sc_one_road.nd (pi_range1 (by rfl) B.range_ (pa_cons (pe_callB call_len_seq (by rfl) B.len_ PySem.boot_len (pa_cons (pv 0) pa_nil)) pa_nil)) (blkOk_by (N := ["above", "k", "at", "rest", "below", "first", "last", "found", "ends", "near", "end"]) (sc := defScope s_one_road) (by decide +kernel)) (fun _ _ _ _ _ => pg_name (i := 1) sc_one_road.nd rfl (Or.inl rfl)) (fun _ _ _ _ _ => (pts_one (pt_cmpR op_eq (pe_ix (r := rIxL K) ix_list (pv 0) (pv 1) (fun _ _ => rfl)) (pe_op op_add (pv 1) pe_int) (nomark _)))) (fun _ _ _ _ _ => (pv 1))) pe_int (fun _ _ => rfl)))
      (pss_cons (ps_setLc (i := 3) (own := [("end", 10)]) (g := gName 10) (tt := tYes) rfl sc_one_road.nd rfl rfl (sw_true rfl rfl rfl (by decide +kernel)) (pi_list (pe_op op_cat (pe_slice sl_list (pv 0) po_none (po_some (pv 2))) (pe_slice sl_list (pv 0) (po_some (pe_op op_add (pv 2) pe_int)) po_none))) (blkOk_by (N := ["above", "k", "at", "rest", "below", "first", "last", "found", "ends", "near", "end"]) (sc := defScope s_one_road) (by decide +kernel)) (fun _ _ _ _ _ => pg_name (i := 10) sc_one_road.nd rfl (Or.inl rfl)) (fun _ _ _ _ _ => pts_nil) (fun _ _ _ _ _ => (pe_ifExp (pt_cmpR op_lt (pv 10) (pv 2) (nomark _)) (pv 10) (pe_op op_sub (pv 10) pe_int))))
      (pss_cons (ps_set (i := 4) sc_one_road.nd rfl (.inl rfl) (pe_c c_one_road hr (by omega) (by rfl) (pa_cons (pv 3) pa_nil)))
      (pss_cons (ps_asg (pe_c c_seen_from hr (by omega) (by rfl) (pa_cons (pv 4) (pa_cons (pv 2) pa_nil))) (pg_tup (by rfl) (pgs_cons (pg_name (i := 5) sc_one_road.nd rfl (.inl rfl)) (pgs_cons (pg_name (i := 6) sc_one_road.nd rfl (.inl rfl)) pgs_nil))))
      (pss_cons (ps_set (i := 7) sc_one_road.nd rfl (.inl rfl) (pe_c c_lifted hr (by omega) (by rfl) (pa_cons (pv 4) (pa_cons (pv 2) pa_nil))))
      (pss_cons (ps_setLc (i := 8) (own := [("end", 10)]) (g := gName 10) (tt := tYes) rfl sc_one_road.nd rfl rfl (sw_true rfl rfl rfl (by decide +kernel)) (pi_tup (pe_tup (pa_cons (pv 5) (pa_cons (pv 6) pa_nil)))) (blkOk_by (N := ["above", "k", "at", "rest", "below", "first", "last", "found", "ends", "near", "end"]) (sc := defScope s_one_road) (by decide +kernel)) (fun _ _ _ _ _ => pg_name (i := 10) sc_one_road.nd rfl (Or.inl rfl)) (fun _ _ _ _ _ => pts_nil) (fun _ _ _ _ _ => (pe_ifExp (pt_cmpR op_lt (pv 10) (pv 2) (nomark _)) (pv 10) (pe_op op_add (pv 10) pe_int))))
      (pss_cons (ps_set (i := 9) sc_one_road.nd rfl (.inl rfl) (pe_lst (pa_cons (pv 2) (pa_cons (pe_op op_add (pv 2) pe_int) pa_nil))))
      (C8.pss_cut (ps_if (PW.pt (pw_or (pt_cmpR op_lt (pe_ix ix_list (pv 8) pe_int (fun _ _ => rfl)) (pv 2) (nomark _)) (pw_or1 (pt_cmpR op_gt (pe_ix ix_list (pv 8) pe_int (fun _ _ => rfl)) (pv 2) (nomark _)))))
        (pss_one (ps_set (i := 9) sc_one_road.nd rfl (.inl rfl) (pe_lst (pa_cons (pe_op op_add (pv 2) pe_int) (pa_cons (pv 2) pa_nil)))))
        pss_nil)
      (pss_cons (ps_for PassesOwn.never rfl (pi_range1 (by rfl) B.range_ (pa_cons pe_int pa_nil)) (pg_name (i := 1) sc_one_road.nd rfl (.inl rfl))
        (pss_cons (ps_asg (pe_ix ix_list (pv 9) (pv 1) (fun _ _ => rfl)) (pg_sub (pv 7) (pe_ix ix_list (pv 8) (pv 1) (fun _ _ => rfl)) set_list))
        (pss_one (ps_asg (pe_ix ix_list (pv 8) (pv 1) (fun _ _ => rfl)) (pg_sub (pv 7) (pe_ix ix_list (pv 9) (pv 1) (fun _ _ => rfl)) set_list)))))
      (pss_one (ps_ret (pv 7)))))))))))))), ?_⟩
    have hl := hA.len
    refine ⟨.ref a, rfl, a, zs fa, rfl, sqL ha, Rm.arcs_good hA h1 (by omega), fun H1 s1 => ?_⟩
    have ha := s1 _ _ ha
    refine ⟨.ref a, rfl, a, _, rfl, .inl (sqL ha), rfl, _, rfl, ite2 (fun e => ?_) (fun e => ?_)⟩
    · have hn1 : n = 1 := by
        have := V.int.inj (of_decide_eq_true e)
        rw [vn_len] at this
        omega
      subst hn1
      refine ⟨by show 2 ≤ sizeLine; decide, fun d nd => ?_⟩
      have hB : Rm.ArcsL 1 [1, 0] := ⟨rfl, by
        refine ⟨fun k hk => ?_, fun k hk => ?_, fun k hk => ?_, fun j k g1 g2 g3 g4 => ?_⟩
        all_goals (first | (have : k = 0 ∨ k = 1 := by omega))
        · rcases this with rfl | rfl <;> decide
        · rcases this with rfl | rfl <;> decide
        · rcases this with rfl | rfl <;> decide
        · have : j = 0 := by omega
          subst this
          have : k = 1 := by omega
          subst this
          exact absurd g3 (by decide)⟩
      refine q _ d [1, 0] hB ?_ (s1.trans (same_new nd)) (s1.free nd) (by rw [upd_same]; rfl)
      have c01 : Rm.Conn (Rm.R2 (at' fa) (at' [1, 0]) (2 * 1)) 0 1 := .one ⟨by decide, .inr rfl⟩
      intro u v hu hv
      have hu2 : u = 0 ∨ u = 1 := by omega
      have hv2 : v = 0 ∨ v = 1 := by omega
      rcases hu2 with rfl | rfl <;> rcases hv2 with rfl | rfl
      · exact .refl _
      · exact c01
      · exact c01.symm
      · exact .refl _
    have hn2 : 2 ≤ n := by
      have e2 := dn e
      have : n ≠ 1 := fun z => e2 (by rw [vn_len, hl, z]; rfl)
      omega
    obtain ⟨m, hm⟩ : ∃ m, 2 * n = m + 2 := ⟨2 * n - 2, by omega⟩
    have hAa := hA.arcs
    rw [hm] at hl hAa
    -- at
    refine ⟨.ref a, rfl, a, _, rfl, .inl (sqL ha), _, rfl, by rw [vn_len]; omega, by rw [vn_len]; omega, fun D nD => ?_⟩
    rw [vn_len, hl, show ((m + 2 : Nat) : Int).toNat = m + 2 by omega]
    refine lc_range (lo := 0) (n := m + 2) (fun i H' => Same H1 H' ∧ H' D = some (.lst (vn ((List.range i).filter fun k => decide (at' fa k = k + 1))))) ⟨same_new nD, upd_same⟩ (fun i H' hi hP => ?_) (fun H2 hP => ?_)
    · obtain ⟨sm, hD⟩ := hP
      rw [Int.zero_add]
      refine ⟨rfl, ?_⟩
      have hs := sieve_succ (fun k => decide (at' fa k = k + 1)) i
      refine ⟨.ref a, rfl, .int i, rfl, a, _, _, _, rfl, rfl, sqL (sm _ _ ha), vn_at (by omega) rfl, _, rfl, _, _, rfl, rfl, rfl, _, rfl, ?_⟩
      by_cases c : at' fa i = i + 1
      · rw [if_pos (decide_eq_true c)] at hs
        rw [decide_eq_true (by rw [c]; rfl)]
        refine iteT ⟨_, rfl, _, hD, ?_, same_upd sm nD, ?_⟩
        · rw [vn_len]
          exact small63 (by have := sieve_len (fun k => decide (at' fa k = k + 1)) i; omega)
        · rw [upd_same, vn_push, hs]
      · rw [if_neg (by simpa using c), List.append_nil] at hs
        rw [decide_eq_false (fun z => c (by have := V.int.inj z; omega))]
        exact iteF ⟨sm, by rw [hs]; exact hD⟩
    obtain ⟨s2, hD⟩ := hP
    have ha := s2 _ _ ha
    obtain ⟨p, cs, ecs, hp, hpe⟩ : ∃ p cs, (List.range (m + 2)).filter (fun k => decide (at' fa k = k + 1)) = p :: cs ∧ p + 1 < m + 2 ∧ at' fa p = p + 1 := by
      obtain ⟨x, hx, hxe⟩ := Rm.near_some hAa (by omega)
      have hmem : x ∈ (List.range (m + 2)).filter (fun k => decide (at' fa k = k + 1)) := List.mem_filter.mpr ⟨List.mem_range.mpr (by omega), decide_eq_true hxe⟩
      cases h : (List.range (m + 2)).filter (fun k => decide (at' fa k = k + 1)) with
      | nil => rw [h] at hmem; exact absurd hmem (by simp)
      | cons p cs =>
        have hp : p ∈ (List.range (m + 2)).filter (fun k => decide (at' fa k = k + 1)) := by rw [h]; simp
        rw [List.mem_filter] at hp
        have h2 := of_decide_eq_true hp.2
        have h3 := hAa.lt p (List.mem_range.mp hp.1)
        exact ⟨p, cs, rfl, by omega, h2⟩
    rw [ecs] at hD
    refine ⟨D, _, _, _, rfl, rfl, sqL hD, vn_at (k := 0) (by simp) rfl, ?_⟩
    rw [show at' (p :: cs) 0 = p from rfl]
    -- rest
    refine ⟨.ref a, rfl, .int p, rfl, _, rfl, a, _, rfl, sqL ha, fun d1 n1 => ?_⟩
    rw [cutTo (by rw [vn_len]; omega), vn_tk]
    have t1 := same_new (o := .lst (vn (fa.take p))) n1
    have h1' : upd H2 d1 (.lst (vn (fa.take p))) d1 = _ := upd_same
    have ha := t1 _ _ ha
    have S1 := (s1.trans s2).trans t1
    generalize upd H2 d1 (.lst (vn (fa.take p))) = H3 at h1' ha S1
    refine ⟨.ref a, rfl, .int p, rfl, _, _, rfl, rfl, _, rfl, a, _, rfl, sqL ha, fun d2 n2 => ?_⟩
    dsimp only
    rw [cutFrom (k := p + 2) (by omega) (by rw [vn_len]; omega), vn_dr]
    have t2 := same_new (o := .lst (vn (fa.drop (p + 2)))) n2
    have h2' : upd H3 d2 (.lst (vn (fa.drop (p + 2)))) d2 = _ := upd_same
    have h12 := t2 _ _ h1'
    have S2 := S1.trans t2
    generalize upd H3 d2 (.lst (vn (fa.drop (p + 2)))) = H4 at h2' h12 S2
    refine ⟨d1, d2, _, _, rfl, rfl, h12, h2', by rw [vn_len, vn_len, List.length_take, List.length_drop]; exact small63' (by omega), fun d3 n3 => ?_⟩
    rw [vn_app]
    have t3 := same_new (o := .lst (vn (fa.take p ++ fa.drop (p + 2)))) n3
    have h3 : upd H4 d3 (.lst (vn (fa.take p ++ fa.drop (p + 2)))) d3 = _ := upd_same
    have S3 := S2.trans t3
    generalize upd H4 d3 (.lst (vn (fa.take p ++ fa.drop (p + 2)))) = H5 at h3 S3
    have hre := rem_eq hl hp
    have hll : (fa.take p ++ fa.drop (p + 2)).length = m := by rw [List.length_append, List.length_take, List.length_drop]; omega
    have hal : ∀ i, i < m → at' (fa.take p ++ fa.drop (p + 2)) i = at' fa (Rm.up p i) := fun i hi => by
      have tl : (fa.take p).length = p := by simp [hl]; omega
      have hu := Rm.up_cases p i
      rw [at_app, tl]
      by_cases c : i < p
      · rw [if_pos c, at_tk _ c, show Rm.up p i = i by omega]
      · rw [if_neg c, at_dr, show p + 2 + (i - p) = Rm.up p i by omega]
    generalize fa.take p ++ fa.drop (p + 2) = lr at h3 hre hll hal
    refine ⟨d3, rfl, ⟨_, sqL h3⟩, fun R nR => ?_⟩
    refine lc_it walk_list (fun i H' => Same H5 H' ∧ H' R = some (.lst (vn ((lr.map (Rm.dwn p)).take i)))) ⟨same_new nR, upd_same⟩ (fun i H' hi hP => hP.1.seq (sqL h3)) (fun i x H' H'' hi hP hY => ?_) (fun H6 hP => ?_)
    · obtain ⟨sm, hR⟩ := hP
      obtain ⟨rfl, hx⟩ := hY
      rw [vn_len] at hi
      rw [vn_get hi] at hx
      cases hx
      refine ⟨rfl, ?_⟩
      unfold tYes
      refine iteT ?_
      have fin : ∀ z : Int, z = ((Rm.dwn p (at' lr i) : Nat) : Int) → ∃ acc, H'' R = some (.lst acc) ∧ acc.length < sizeLine ∧ (Same H5 (upd H'' R (.lst (acc ++ [V.int z]))) ∧ (upd H'' R (.lst (acc ++ [V.int z]))) R = some (.lst (vn ((lr.map (Rm.dwn p)).take (i + 1))))) := fun z hz => by
        refine ⟨_, hR, ?_, same_upd sm nR, ?_⟩
        · rw [vn_len, List.length_take, List.length_map]
          exact small63 (by omega)
        · rw [upd_same, hz, vn_take _ _ _ (by rw [List.getElem?_map, List.getElem?_eq_getElem hi]; simp [at', List.getD_eq_getElem?_getD, hi])]
      have hd := Rm.dwn_cases p (at' lr i)
      have hru := Rm.rem_up hAa hp hpe (k := i) (by omega)
      have hv := Rm.up_cases p (Rm.remF p (at' fa) i)
      have hlr := hal i (by omega)
      rw [← hlr] at hru
      refine ⟨_, rfl, .int p, rfl, _, _, rfl, rfl, _, rfl, ite2 (fun e => ?_) (fun e => ?_)⟩
      · have := of_decide_eq_true e
        exact ⟨_, rfl, fin _ (by omega)⟩
      · have := dn e
        exact ⟨_, rfl, _, _, rfl, rfl, fin _ (by omega)⟩
    obtain ⟨s6, hR⟩ := hP
    rw [vn_len, vn_full (m := lr.length) (by rw [List.length_map]), hre] at hR
    have S6 := S3.trans s6
    -- below
    have hRA : Rm.ArcsL (n - 1) (remL p m fa) := by
      have h := Rm.mkL_arcs (n := n - 1) (f := Rm.remF p (at' fa)) (by rw [show 2 * (n - 1) = m by omega]; exact Rm.rem_arcs hAa hp hpe)
      rw [show 2 * (n - 1) = m by omega] at h
      exact h
    refine ⟨.ref R, rfl, R, n - 1, _, rfl, hR, hRA, by omega, by omega, fun H7 b fb hB hAll s7 nb hb => ?_⟩
    have hBl := hB.len
    have hBa := hB.arcs
    rw [show 2 * (n - 1) = m by omega] at hBl hBa hAll
    have S7 := S6.trans s7
    -- first, last
    refine ⟨.ref b, rfl, .int p, rfl, b, p, m, fb, rfl, hb, hBl, hBa, by omega, by omega, by omega, fun H8 t x y nx ny hV s8 ht => ?_⟩
    have hb8 := s8 _ _ hb
    have S8 := S7.trans s8
    refine ⟨t, _, rfl, sqT ht, rfl, _, [_], rfl, _, [], rfl, rfl, ?_⟩
    -- found
    refine ⟨.ref b, rfl, .int p, rfl, b, p, m, fb, rfl, hb8, hBl, by omega, by omega, fun H9 g s9 ng hg => ?_⟩
    have hg0 : ∀ k, at' (liftL p m fb) k = if k < m + 2 then liftF p (at' fb) k else 0 := fun k => by
      by_cases c : k < m + 2
      · rw [if_pos c]; exact Rm.mkL_at c
      · rw [if_neg c]
        unfold at'
        rw [List.getD_eq_getElem?_getD, List.getElem?_eq_none (by rw [show (liftL p m fb).length = m + 2 from Rm.mkL_len _ _]; omega)]
        rfl
    have hgl : (liftL p m fb).length = m + 2 := Rm.mkL_len _ _
    have S9 := S8.trans s9
    -- ends
    refine ⟨.int x, rfl, .int y, rfl, by show 2 ≤ sizeLine; decide, fun u nu => ?_⟩
    have s10 := same_new (o := .tup [V.int (x : Int), V.int (y : Int)]) nu
    have hu : upd H9 u (.tup [V.int (x : Int), V.int (y : Int)]) u = _ := upd_same
    have hg := s10 _ _ hg
    have S10 := S9.trans s10
    have fg : H g = none := S8.free ng
    generalize upd H9 u (.tup [V.int (x : Int), V.int (y : Int)]) = H10 at hu hg S10
    refine ⟨u, rfl, ⟨_, sqT hu⟩, fun e1 ne1 => ?_⟩
    have gne1 : g ≠ e1 := ne_of_none hg ne1
    refine lc_it (walk_tup (xs := vn [x, y])) (fun i H' => Same H10 H' ∧ H' e1 = some (.lst (vn (([x, y].map (Rm.up p)).take i)))) ⟨same_new ne1, upd_same⟩ (fun i H' hi hP => sqT (hP.1 _ _ hu)) (fun i z H' H'' hi hP hY => ?_) (fun H11 hP => ?_)
    · obtain ⟨sm, hE⟩ := hP
      obtain ⟨rfl, hx⟩ := hY
      rw [vn_len] at hi
      rw [vn_get hi] at hx
      cases hx
      refine ⟨rfl, ?_⟩
      unfold tYes
      refine iteT ?_
      have fin : ∀ z : Int, z = ((Rm.up p (at' [x, y] i) : Nat) : Int) → ∃ acc, H'' e1 = some (.lst acc) ∧ acc.length < sizeLine ∧ (Same H10 (upd H'' e1 (.lst (acc ++ [V.int z]))) ∧ (upd H'' e1 (.lst (acc ++ [V.int z]))) e1 = some (.lst (vn (([x, y].map (Rm.up p)).take (i + 1))))) := fun z hz => by
        refine ⟨_, hE, ?_, same_upd sm ne1, ?_⟩
        · rw [vn_len, List.length_take, List.length_map]
          exact small63 (by have : [x, y].length = 2 := rfl; omega)
        · rw [upd_same, hz, vn_take _ _ _ (by rw [List.getElem?_map, get_at hi]; rfl)]
      have hd := Rm.up_cases p (at' [x, y] i)
      refine ⟨_, rfl, .int p, rfl, _, _, rfl, rfl, _, rfl, ite2 (fun e => ?_) (fun e => ?_)⟩
      · have := of_decide_eq_true e
        exact ⟨_, rfl, fin _ (by omega)⟩
      · have := dn e
        exact ⟨_, rfl, _, _, rfl, rfl, fin _ (by omega)⟩
    obtain ⟨s11, hE⟩ := hP
    have hE : H11 e1 = some (.lst (vn [Rm.up p x, Rm.up p y])) := hE
    have hg := s11 _ _ hg
    have S11 := S10.trans s11
    -- near
    refine ⟨.int p, rfl, .int p, rfl, _, _, rfl, rfl, by show 2 ≤ sizeLine; decide, fun w1 nw => ?_⟩
    have s12 := same_new (o := .lst [V.int (p : Int), V.int ((p : Int) + 1)]) nw
    have hw : upd H11 w1 (.lst [V.int (p : Int), V.int ((p : Int) + 1)]) w1 = some (.lst (vn [p, p + 1])) := upd_same
    dsimp only
    have gnw : g ≠ w1 := ne_of_none hg nw
    have hg := s12 _ _ hg
    have hE := s12 _ _ hE
    have S12 := S11.trans s12
    generalize upd H11 w1 (.lst [V.int (p : Int), V.int ((p : Int) + 1)]) = H12 at hw hg hE S12
    have ux := Rm.up_cases p x
    have uy := Rm.up_cases p y
    have hV1 := hV.w
    have hV2 := hV.xl
    have hV3 := hV.yl
    have hV4 := hV.xy
    generalize hX : Rm.up p x = X at *
    generalize hY : Rm.up p y = Y at *
    refine ⟨fun σ H' => ∃ wn : Addr, σ = [some (.ref a), none, some (.int (p : Int)), some (.ref R), some (.ref b), some (.int (x : Int)), some (.int (y : Int)), some (.ref g), some (.ref e1), some (.ref wn), none] ∧ Same H12 H' ∧ g ≠ wn ∧ H' wn = some (.lst (vn [nx, ny])), ?_, ?_⟩
    · refine ⟨.ref e1, rfl, e1, _, _, _, rfl, rfl, sqL hE, vn_at (k := 1) (by simp) rfl, .int p, rfl, _, _, rfl, rfl, _, rfl, ite2 (fun e => ?_) (fun e => ?_)⟩
      · have e' : Y < p := by have := of_decide_eq_true e; rw [show at' [X, Y] 1 = Y from rfl] at this; omega
        refine ⟨.int p, rfl, _, _, rfl, rfl, .int p, rfl, by show 2 ≤ sizeLine; decide, fun w2 nw2 => ⟨w2, rfl, same_new nw2, ne_of_none hg nw2, ?_⟩⟩
        rw [upd_same, show nx = p + 1 by omega, show ny = p by omega]; rfl
      · have e' : ¬ Y < p := by have := dn e; rw [show at' [X, Y] 1 = Y from rfl] at this; omega
        refine ⟨.ref e1, rfl, e1, _, _, _, rfl, rfl, sqL hE, vn_at (k := 0) (by simp) rfl, .int p, rfl, _, _, rfl, rfl, _, rfl, ite2 (fun e2 => ?_) (fun e2 => ?_)⟩
        · have e3 : p < X := by have := of_decide_eq_true e2; rw [show at' [X, Y] 0 = X from rfl] at this; omega
          refine ⟨.int p, rfl, _, _, rfl, rfl, .int p, rfl, by show 2 ≤ sizeLine; decide, fun w2 nw2 => ⟨w2, rfl, same_new nw2, ne_of_none hg nw2, ?_⟩⟩
          rw [upd_same, show nx = p + 1 by omega, show ny = p by omega]; rfl
        · have e3 : ¬ p < X := by have := dn e2; rw [show at' [X, Y] 0 = X from rfl] at this; omega
          refine ⟨w1, rfl, Same.refl _, gnw, ?_⟩
          rw [show nx = p by omega, show ny = p + 1 by omega]
          exact hw
    rintro σ13 H13 ⟨wn, rfl, s13, gwn, hwn⟩
    have hg := s13 _ _ hg
    have hE := s13 _ _ hE
    have S13 := S12.trans s13
    have hnn : (nx = p ∧ ny = p + 1) ∨ (nx = p + 1 ∧ ny = p) := by omega
    have bX : ∀ i, i < 2 → at' [X, Y] i < m + 2 := fun i hi => by
      have : i = 0 ∨ i = 1 := by omega
      rcases this with rfl | rfl
      · show X < m + 2; omega
      · show Y < m + 2; omega
    have bN : ∀ i, i < 2 → at' [nx, ny] i < m + 2 := fun i hi => by
      have : i = 0 ∨ i = 1 := by omega
      rcases this with rfl | rfl
      · show nx < m + 2; omega
      · show ny < m + 2; omega
    let Fl : Nat → List Nat := fun i => (List.range i).foldl (fun l i => (l.set (at' [X, Y] i) (at' [nx, ny] i)).set (at' [nx, ny] i) (at' [X, Y] i)) (liftL p m fb)
    have Fs : ∀ i, Fl (i + 1) = ((Fl i).set (at' [X, Y] i) (at' [nx, ny] i)).set (at' [nx, ny] i) (at' [X, Y] i) := fun i => by
      show (List.range (i + 1)).foldl _ _ = _
      rw [List.range_succ, List.foldl_append]
      rfl
    have Fll : ∀ i, (Fl i).length = m + 2 := fun i => by
      induction i with
      | zero => exact hgl
      | succ i ih => rw [Fs, List.length_set, List.length_set, ih]
    refine ⟨_, rfl, by decide, by decide, ?_⟩
    refine for_range (lo := 0) (n := 2) (fun i σ H' => ∃ y1, σ = [some (.ref a), y1, some (.int (p : Int)), some (.ref R), some (.ref b), some (.int (x : Int)), some (.int (y : Int)), some (.ref g), some (.ref e1), some (.ref wn), none] ∧ Sx [g] H13 H' ∧ H' g = some (.lst (vn (Fl i)))) ⟨none, rfl, Sx.refl _ _, hg⟩ (fun i σ H' hi hP => ?_) (fun σ H' hP => ?_)
    · obtain ⟨y1, rfl, sx, hg'⟩ := hP
      rw [Int.zero_add]
      have hE' := sx _ _ (by simpa using gne1.symm) hE
      have hw' := sx _ _ (by simpa using gwn.symm) hwn
      have b1 := bX i hi
      have b2 := bN i hi
      have l0 := Fll i
      refine ⟨.ref wn, rfl, .int i, rfl, wn, _, _, _, rfl, rfl, sqL hw', vn_at (by simpa using hi) rfl, .ref g, rfl, .ref e1, rfl, .int i, rfl, e1, _, _, _, rfl, rfl, sqL hE', vn_at (by simpa using hi) rfl, g, _, _, at' [X, Y] i, rfl, rfl, hg', ixN_nat (by rw [vn_len, l0]; exact b1), ?_⟩
      rw [vn_set]
      have sx2 : Sx [g] H13 (upd H' g (.lst (vn ((Fl i).set (at' [X, Y] i) (at' [nx, ny] i))))) := sx.upd (by simp)
      have hg2 : (upd H' g (.lst (vn ((Fl i).set (at' [X, Y] i) (at' [nx, ny] i))))) g = _ := upd_same
      generalize upd H' g (.lst (vn ((Fl i).set (at' [X, Y] i) (at' [nx, ny] i)))) = H'' at sx2 hg2
      have hE' := sx2 _ _ (by simpa using gne1.symm) hE
      have hw' := sx2 _ _ (by simpa using gwn.symm) hwn
      refine ⟨.ref e1, rfl, .int i, rfl, e1, _, _, _, rfl, rfl, sqL hE', vn_at (by simpa using hi) rfl, .ref g, rfl, .ref wn, rfl, .int i, rfl, wn, _, _, _, rfl, rfl, sqL hw', vn_at (by simpa using hi) rfl, g, _, _, at' [nx, ny] i, rfl, rfl, hg2, ixN_nat (by rw [vn_len, List.length_set, l0]; exact b2), ?_⟩
      rw [vn_set]
      refine ⟨_, rfl, sx2.upd (by simp), ?_⟩
      rw [upd_same, ← Fs]
    obtain ⟨y1, rfl, sx, hg'⟩ := hP
    subst hX hY
    have hF : Fl 2 = Rm.mkL (m + 2) (Rm.joinF p (Rm.up p x) nx (Rm.up p y) ny (at' fb)) := by
      apply Rm.ext_at
      · rw [Fll, Rm.mkL_len]
      · intro k hk
        rw [Rm.mkL_len] at hk
        rw [Rm.mkL_at hk]
        show at' (((((liftL p m fb).set (Rm.up p x) nx).set nx (Rm.up p x)).set (Rm.up p y) ny).set ny (Rm.up p y)) k = _
        rw [Rm.at_set (by simp only [List.length_set, hgl]; omega), Rm.at_set (by simp only [List.length_set, hgl]; omega), Rm.at_set (by simp only [List.length_set, hgl]; omega), Rm.at_set (by rw [hgl]; omega), hg0, if_pos hk]
        unfold Rm.joinF liftF
        by_cases c1 : k = Rm.up p x
        · have n1 : ¬ k = ny := by omega
          have n2 : ¬ k = Rm.up p y := by omega
          have n3 : ¬ k = nx := by omega
          simp only [if_neg n1, if_neg n2, if_neg n3, if_pos c1]
        · by_cases c2 : k = nx
          · have n1 : ¬ k = ny := by omega
            have n2 : ¬ k = Rm.up p y := by omega
            simp only [if_neg c1, if_neg n1, if_neg n2, if_pos c2]
          · by_cases c3 : k = Rm.up p y
            · have n1 : ¬ k = ny := by omega
              simp only [if_neg c1, if_neg n1, if_neg c2, if_pos c3]
            · by_cases c4 : k = ny
              · simp only [if_neg c1, if_neg c2, if_neg c3, if_pos c4]
              · have n5 : ¬ k = p := by omega
                have n6 : ¬ k = p + 1 := by omega
                simp only [if_neg c1, if_neg c2, if_neg c3, if_neg c4, if_neg n5, if_neg n6]
    have JA := Rm.join_arcs hBa hV (by omega)
    rw [hF] at hg'
    have hFL : Rm.ArcsL n (Rm.mkL (m + 2) (Rm.joinF p (Rm.up p x) nx (Rm.up p y) ny (at' fb))) := by
      have h := Rm.mkL_arcs (n := n) (f := Rm.joinF p (Rm.up p x) nx (Rm.up p y) ny (at' fb)) (by rw [hm]; exact JA)
      rw [hm] at h
      exact h
    refine ⟨.ref g, rfl, ?_⟩
    refine q _ g _ hFL ?_ (fun z o hz => sx z o (by simp only [List.mem_singleton]; exact ne_of_none hz fg) (S13 _ _ hz)) fg hg'
    rw [hm]
    exact Rm.join_all hAa hBa hV (by omega) hpe (fun k hk => Rm.mkL_at hk) (fun k hk => Rm.mkL_at hk) hAll
theorem one_ups (D : Dfn K mg "one_road" s_one_road ["above"]) (B : Blt mg) (c_ask : Cal P w K mg base 2 "ask" (spAsk K)) (c_seen_from : Cal P w K mg base 1 "seen_from" (spSeen K)) (c_lifted : Cal P w K mg base 1 "lifted" spLifted) (N : Nat) (h20 : N ≤ 20) : Cal P w K mg base (N + 3) "one_road" (spOne N) := by
  induction N with
  | zero =>
    refine D.cal sc_one_road (fun vs H Q E h => ?_) (fun f cdv A outer s0 H vs Q E hr h => ?_)
    · obtain ⟨a, n, fa, rfl, _⟩ := h
      rfl
    · obtain ⟨a, n, fa, _, _, _, h1, h2, _⟩ := h
      omega
  | succ N ih => exact one_step D B c_ask c_seen_from c_lifted N h20 (ih (by omega))
theorem ok_one_road (D : Dfn K mg "one_road" s_one_road ["above"]) (B : Blt mg) (c_ask : Cal P w K mg base 2 "ask" (spAsk K)) (c_seen_from : Cal P w K mg base 1 "seen_from" (spSeen K)) (c_lifted : Cal P w K mg base 1 "lifted" spLifted) : Cal P w K mg base 23 "one_road" (spOne 20) := one_ups D B c_ask c_seen_from c_lifted 20 (by omega)
end

end Rv

namespace Rv
open PySem PySem.Spec PyProof.Rows L2
open Rm (zs at')
/-! ### the law -/
abbrev s_law : Stmt := topS 22
theorem sc_law : FnScope ["script", "above", "handed", "turn", "found"] ["script"] (defScope s_law) := ⟨rfl, rfl, rfl, by decide +kernel, rfl, by decide +kernel, by decide +kernel⟩
section
variable {P : Program} {w : World} {K : PySem.W.Frag} {mg : Str → Option Value} {base : Heap}
theorem ok_law {f : Addr} {fd : FuncData} (F : Fun K "law" "law" s_law f fd) (B : Blt mg) (c_law_arcs : Cal P w K mg base 2 "_law_arcs" (spLawArcs K)) (c_law_cell_at : Cal P w K mg base 1 "_law_cell_at" (spCell K)) (c_one_road : Cal P w K mg base 23 "one_road" (spOne 20))
    (c_law_numbers : Cal P w K mg base 2 "_law_numbers" (spNumbers K)) (c_law_good : Cal P w K mg base 1 "_law_good" (spGood K)) (c_law_roads : Cal P w K mg base 1 "_law_roads" (spRoadsBy K)) (c_many_roads : Cal P w K mg base 4 "many_roads" (spManyRoads K)) :
    FnOk P w K mg base CX0 24 f fd ["script"] (spLaw K) := by
  refine F.ok sc_law (fun vs H Q E h => ?_) (fun cdv A outer s0 H vs Q E hr h => ?_)
  · obtain ⟨a, ns, rfl, _⟩ := h
    rfl
  · obtain ⟨a, ns, rfl, hS, h63, q⟩ := h
    refine ⟨_, (C8.pss_cut (ps_set (i := 1) sc_law.nd rfl (.inl rfl) (pe_c c_law_arcs hr (by omega) (by rfl) (pa_cons (pv 0) (pa_cons pe_int (pa_cons (pe_op op_add pe_int (pe_op op_modN (pe_c c_law_cell_at hr (by omega) (by rfl) (pa_cons (pv 0) (pa_cons pe_int pa_nil))) pe_int)) pa_nil)))))
      (pss_cons (ps_set (i := 2) sc_law.nd rfl (.inl rfl) (pe_callTy call_list_of (by rfl) B.list_ (by decide +kernel) (pa_cons (pv 1) pa_nil)))
      (pss_cons (ps_for PassesOwn.never rfl (pi_range1 (by rfl) B.range_ (pa_cons pe_int pa_nil)) (pg_name (i := 3) sc_law.nd rfl (.inl rfl))
        (pss_cons (ps_set (i := 4) sc_law.nd rfl (.inl rfl) (pe_c c_one_road hr (by omega) (by rfl) (pa_cons (pv 2) pa_nil)))
        (pss_cons (ps_if (PW.pt (pw_or (pt_not (pt_val (pe_c c_law_numbers hr (by omega) (by rfl) (pa_cons (pv 4) (pa_cons (pe_callTy call_list_of (by rfl) B.list_ (by decide +kernel) (pa_cons (pv 4) pa_nil)) pa_nil))))) (pw_or (pt_cmpR op_ne (pe_callB call_len_seq (by rfl) B.len_ PySem.boot_len (pa_cons (pv 4) pa_nil)) (pe_callB call_len_seq (by rfl) B.len_ PySem.boot_len (pa_cons (pv 1) pa_nil)) (nomark _)) (pw_or1 (pt_not (pt_val (pe_c c_law_good hr (by omega) (by rfl) (pa_cons (pv 4) pa_nil))))))))
          (pss_one (ps_ret pe_bl))
          pss_nil)
        (pss_cons (ps_if (PW.pt (pw_or (pt_cmpR op_ne (pe_callB call_len_seq (by rfl) B.len_ PySem.boot_len (pa_cons (pe_c c_law_roads hr (by omega) (by rfl) (pa_cons (pv 1) (pa_cons (pv 4) pa_nil))) pa_nil)) pe_int (nomark _)) (pw_or (pt_cmpR op_ne (pe_c c_many_roads hr (by omega) (by rfl) (pa_cons (pv 1) (pa_cons (pe_callTy call_list_of (by rfl) B.list_ (by decide +kernel) (pa_cons (pv 4) pa_nil)) pa_nil))) pe_int (nomark _)) (pw_or1 (pt_cmpR (op_neD (hu64 hr)) (pv 2) (pv 1) (nomark _))))))
          (pss_one (ps_ret pe_bl))
          pss_nil)
        (pss_one (ps_expr (pe_bm PySem.F.plainAttrs_list PySem.F.slot_list_append PySem.F.type_list_append mt_append (pv 4) (pa_cons pe_int pa_nil))))))))
      (pss_one (ps_ret pe_bl))))), ?_⟩
    refine ⟨fun σ H' => ∃ (n : Nat) (p1 : Addr) (fa : List Nat), σ = [some (.ref a), some (.ref p1), none, none, none] ∧ Same H H' ∧ 1 ≤ n ∧ n ≤ 20 ∧ Rm.ArcsL n fa ∧ H' p1 = some (.lst (vn fa)), ?_, ?_⟩
    · refine ⟨.ref a, rfl, .ref a, rfl, a, ns, 0, rfl, hS, by decide, fun c => ?_⟩
      obtain ⟨n, hn, h1, h20⟩ := size_of (z := c) 20 (by decide) (by decide)
      refine ⟨_, _, rfl, rfl, (show (20 : Int) ≠ 0 by decide), _, _, rfl, rfl, a, ns, 1, n, by dsimp only; rw [hn]; rfl, hS, by decide, h1, by omega, fun H' p fd hA s1 _ hp => ⟨n, p, fd, rfl, s1, h1, by omega, hA, hp⟩⟩
    rintro σ1 H1 ⟨n, p1, fa, rfl, s1, h1, h20, hA, hp1⟩
    have hl := hA.len
    refine ⟨.ref p1, rfl, p1, _, rfl, .inl (sqL hp1), fun d nd => ?_⟩
    have s2 := same_new (o := .lst (vn fa)) nd
    have hd : upd H1 d (.lst (vn fa)) d = _ := upd_same
    have hp1 := s2 _ _ hp1
    generalize upd H1 d (.lst (vn fa)) = H2 at hd hp1
    refine ⟨_, rfl, by decide, by decide, ?_⟩
    refine for_range (lo := 0) (n := 2) (fun i σ H' => ∃ y3 y4, σ = [some (.ref a), some (.ref p1), some (.ref d), y3, y4] ∧ Same H2 H') ⟨_, _, rfl, Same.refl _⟩ (fun i σ H3 hi hP => ?_) (fun σ H3 hP => ?_)
    · obtain ⟨y3, y4, rfl, sm⟩ := hP
      have hd := sm _ _ hd
      have hp1 := sm _ _ hp1
      refine ⟨.ref d, rfl, d, n, fa, rfl, hd, hA, h1, h20, fun H4 t fb hB hAll s4 nt ht => ?_⟩
      have hbl := hB.len
      have hd := s4 _ _ hd
      have hp1 := s4 _ _ hp1
      refine ⟨_, rfl, .ref t, rfl, t, _, rfl, .inl (sqL ht), fun c1 nc1 => ?_⟩
      have s5 := same_new (o := .lst (vn fb)) nc1
      have hc : upd H4 c1 (.lst (vn fb)) c1 = _ := upd_same
      have hd := s5 _ _ hd
      have hp1 := s5 _ _ hp1
      have ht := s5 _ _ ht
      have S5 := s4.trans s5
      generalize upd H4 c1 (.lst (vn fb)) = H5 at hc hd hp1 ht S5
      refine ⟨t, c1, zs fb, zs fb, rfl, ht, sqL hc, fun _ => ⟨true, rfl, iteF ?_⟩, fun z => absurd rfl z⟩
      refine ⟨.ref t, rfl, t, _, rfl, .inl (sqL ht), .ref p1, rfl, p1, _, rfl, .inl (sqL hp1), rfl, _, rfl, ?_⟩
      rw [vn_len, vn_len, hbl, hl, decide_eq_true rfl]
      refine iteF ⟨.ref t, rfl, t, zs fb, rfl, sqL ht, by rw [Rm.len_zs]; omega, fun b hb => ?_⟩
      have hbt : b = true := hb.mpr (Rm.arcs_good hB h1 h20)
      subst hbt
      refine ⟨_, rfl, iteF ?_⟩
      have one : (Rm.roadsM (at' fa) (at' fb) (2 * n)).length = 1 := Rm.all_one hA.arcs.inv2 hB.arcs.inv2 hAll (by omega)
      refine ⟨.ref p1, rfl, .ref t, rfl, p1, t, 2 * n, fa, fb, rfl, sqL hp1, sqL ht, hl, hbl, by omega, hA.arcs.inv2, hB.arcs.lt, fun H6 r rs s6 nr hr hrl _ _ _ => ?_⟩
      have ht := s6 _ _ ht
      have hp1 := s6 _ _ hp1
      have hd := s6 _ _ hd
      refine ⟨r, _, rfl, .inl (sqL hr), rfl, _, rfl, ?_⟩
      rw [List.length_map, hrl.1, one, decide_eq_true (show V.int ((1 : Nat) : Int) = V.int 1 from rfl)]
      refine iteF ⟨.ref p1, rfl, .ref t, rfl, t, _, rfl, .inl (sqL ht), fun c2 nc2 => ?_⟩
      have s7 := same_new (o := .lst (vn fb)) nc2
      have hc2 : upd H6 c2 (.lst (vn fb)) c2 = _ := upd_same
      have hd := s7 _ _ hd
      have hp1 := s7 _ _ hp1
      have ht := s7 _ _ ht
      have S7 := (S5.trans s6).trans s7
      generalize upd H6 c2 (.lst (vn fb)) = H7 at hc2 hd hp1 ht S7
      refine ⟨p1, c2, n, fa, fb, rfl, sqL hp1, sqL hc2, hA, hB, h1, h20, fun H8 s8 => ?_⟩
      rw [one]
      have hd := s8 _ _ hd
      have hp1 := s8 _ _ hp1
      have ht := s8 _ _ ht
      refine ⟨rfl, _, rfl, ?_⟩
      rw [decide_eq_true (show V.int ((1 : Nat) : Int) = V.int 1 from rfl)]
      refine iteF ⟨.ref d, rfl, .ref p1, rfl, rNe_ints (sqL hd) (sqL hp1) ⟨_, rfl, ?_⟩⟩
      rw [decide_eq_true rfl]
      refine iteF ⟨.ref t, rfl, .inl ⟨rfl, _, sqL ht⟩, t, _, _, rfl, rfl, ht, by rw [vn_len]; exact small63 (by omega), ?_⟩
      exact ⟨_, _, rfl, same_upd ((sm.trans S7).trans s8) (sm.free nt)⟩
    · obtain ⟨y3, y4, rfl, sm⟩ := hP
      exact q _
end

end Rv

namespace Rv
open PySem PySem.Spec PyProof.Rows L2
theorem all_mk {l : PySem.W.OpenLaw} {w : World} {K : PySem.W.Frag} {h : Heap} {mg : Str → Option Value} {fa : Addr} (X : K.In h) (G : h.Ns mainGlobals mg) (hfa : mg "law" = some (.ref fa))
    {f_is_arcs : Addr} {od_is_arcs an_is_arcs : Option Addr} {sl_is_arcs : Array (Option Value)} {oc_is_arcs kV_is_arcs dc_is_arcs pm_is_arcs cd_is_arcs ct_is_arcs : Value}
    {f_ask : Addr} {od_ask an_ask : Option Addr} {sl_ask : Array (Option Value)} {oc_ask kV_ask dc_ask pm_ask cd_ask ct_ask : Value}
    {f_ask_both : Addr} {od_ask_both an_ask_both : Option Addr} {sl_ask_both : Array (Option Value)} {oc_ask_both kV_ask_both dc_ask_both pm_ask_both cd_ask_both ct_ask_both : Value}
    {f_roads_by : Addr} {od_roads_by an_roads_by : Option Addr} {sl_roads_by : Array (Option Value)} {oc_roads_by kV_roads_by dc_roads_by pm_roads_by cd_roads_by ct_roads_by : Value}
    {f_many_roads : Addr} {od_many_roads an_many_roads : Option Addr} {sl_many_roads : Array (Option Value)} {oc_many_roads kV_many_roads dc_many_roads pm_many_roads cd_many_roads ct_many_roads : Value}
    {f_lifted : Addr} {od_lifted an_lifted : Option Addr} {sl_lifted : Array (Option Value)} {oc_lifted kV_lifted dc_lifted pm_lifted cd_lifted ct_lifted : Value}
    {f_seen_from : Addr} {od_seen_from an_seen_from : Option Addr} {sl_seen_from : Array (Option Value)} {oc_seen_from kV_seen_from dc_seen_from pm_seen_from cd_seen_from ct_seen_from : Value}
    {f_one_road : Addr} {od_one_road an_one_road : Option Addr} {sl_one_road : Array (Option Value)} {oc_one_road kV_one_road dc_one_road pm_one_road cd_one_road ct_one_road : Value}
    {f_law_cell_at : Addr} {od_law_cell_at an_law_cell_at : Option Addr} {sl_law_cell_at : Array (Option Value)} {oc_law_cell_at kV_law_cell_at dc_law_cell_at pm_law_cell_at cd_law_cell_at ct_law_cell_at : Value}
    {f_law_whole : Addr} {od_law_whole an_law_whole : Option Addr} {sl_law_whole : Array (Option Value)} {oc_law_whole kV_law_whole dc_law_whole pm_law_whole cd_law_whole ct_law_whole : Value}
    {f_law_numbers : Addr} {od_law_numbers an_law_numbers : Option Addr} {sl_law_numbers : Array (Option Value)} {oc_law_numbers kV_law_numbers dc_law_numbers pm_law_numbers cd_law_numbers ct_law_numbers : Value}
    {f_law_arcs : Addr} {od_law_arcs an_law_arcs : Option Addr} {sl_law_arcs : Array (Option Value)} {oc_law_arcs kV_law_arcs dc_law_arcs pm_law_arcs cd_law_arcs ct_law_arcs : Value}
    {f_law_good : Addr} {od_law_good an_law_good : Option Addr} {sl_law_good : Array (Option Value)} {oc_law_good kV_law_good dc_law_good pm_law_good cd_law_good ct_law_good : Value}
    {f_law_roads : Addr} {od_law_roads an_law_roads : Option Addr} {sl_law_roads : Array (Option Value)} {oc_law_roads kV_law_roads dc_law_roads pm_law_roads cd_law_roads ct_law_roads : Value}
    {f_law : Addr} {od_law an_law : Option Addr} {sl_law : Array (Option Value)} {oc_law kV_law dc_law pm_law cd_law ct_law : Value}
    (a_is_arcs : PySem.W.nsIn K mainGlobals "is_arcs" = some (some (.ref f_is_arcs))) (l_is_arcs : K.lookup f_is_arcs = some ⟨oc_is_arcs, od_is_arcs, .func (PySem.W.fnOf "is_arcs" "is_arcs" (defArgs s_is_arcs) (defBody s_is_arcs) (defScope s_is_arcs) .none kV_is_arcs dc_is_arcs pm_is_arcs an_is_arcs cd_is_arcs ct_is_arcs), sl_is_arcs⟩) (x_is_arcs : PySem.W.codeIn K cd_is_arcs "is_arcs" = true) (k_is_arcs : PySem.W.keepIn K (.ref f_is_arcs) = true)
    (a_ask : PySem.W.nsIn K mainGlobals "ask" = some (some (.ref f_ask))) (l_ask : K.lookup f_ask = some ⟨oc_ask, od_ask, .func (PySem.W.fnOf "ask" "ask" (defArgs s_ask) (defBody s_ask) (defScope s_ask) .none kV_ask dc_ask pm_ask an_ask cd_ask ct_ask), sl_ask⟩) (x_ask : PySem.W.codeIn K cd_ask "ask" = true) (k_ask : PySem.W.keepIn K (.ref f_ask) = true)
    (a_ask_both : PySem.W.nsIn K mainGlobals "ask_both" = some (some (.ref f_ask_both))) (l_ask_both : K.lookup f_ask_both = some ⟨oc_ask_both, od_ask_both, .func (PySem.W.fnOf "ask_both" "ask_both" (defArgs s_ask_both) (defBody s_ask_both) (defScope s_ask_both) .none kV_ask_both dc_ask_both pm_ask_both an_ask_both cd_ask_both ct_ask_both), sl_ask_both⟩) (x_ask_both : PySem.W.codeIn K cd_ask_both "ask_both" = true) (k_ask_both : PySem.W.keepIn K (.ref f_ask_both) = true)
    (a_roads_by : PySem.W.nsIn K mainGlobals "roads_by" = some (some (.ref f_roads_by))) (l_roads_by : K.lookup f_roads_by = some ⟨oc_roads_by, od_roads_by, .func (PySem.W.fnOf "roads_by" "roads_by" (defArgs s_roads_by) (defBody s_roads_by) (defScope s_roads_by) .none kV_roads_by dc_roads_by pm_roads_by an_roads_by cd_roads_by ct_roads_by), sl_roads_by⟩) (x_roads_by : PySem.W.codeIn K cd_roads_by "roads_by" = true) (k_roads_by : PySem.W.keepIn K (.ref f_roads_by) = true)
    (a_many_roads : PySem.W.nsIn K mainGlobals "many_roads" = some (some (.ref f_many_roads))) (l_many_roads : K.lookup f_many_roads = some ⟨oc_many_roads, od_many_roads, .func (PySem.W.fnOf "many_roads" "many_roads" (defArgs s_many_roads) (defBody s_many_roads) (defScope s_many_roads) .none kV_many_roads dc_many_roads pm_many_roads an_many_roads cd_many_roads ct_many_roads), sl_many_roads⟩) (x_many_roads : PySem.W.codeIn K cd_many_roads "many_roads" = true) (k_many_roads : PySem.W.keepIn K (.ref f_many_roads) = true)
    (a_lifted : PySem.W.nsIn K mainGlobals "lifted" = some (some (.ref f_lifted))) (l_lifted : K.lookup f_lifted = some ⟨oc_lifted, od_lifted, .func (PySem.W.fnOf "lifted" "lifted" (defArgs s_lifted) (defBody s_lifted) (defScope s_lifted) .none kV_lifted dc_lifted pm_lifted an_lifted cd_lifted ct_lifted), sl_lifted⟩) (x_lifted : PySem.W.codeIn K cd_lifted "lifted" = true) (k_lifted : PySem.W.keepIn K (.ref f_lifted) = true)
    (a_seen_from : PySem.W.nsIn K mainGlobals "seen_from" = some (some (.ref f_seen_from))) (l_seen_from : K.lookup f_seen_from = some ⟨oc_seen_from, od_seen_from, .func (PySem.W.fnOf "seen_from" "seen_from" (defArgs s_seen_from) (defBody s_seen_from) (defScope s_seen_from) .none kV_seen_from dc_seen_from pm_seen_from an_seen_from cd_seen_from ct_seen_from), sl_seen_from⟩) (x_seen_from : PySem.W.codeIn K cd_seen_from "seen_from" = true) (k_seen_from : PySem.W.keepIn K (.ref f_seen_from) = true)
    (a_one_road : PySem.W.nsIn K mainGlobals "one_road" = some (some (.ref f_one_road))) (l_one_road : K.lookup f_one_road = some ⟨oc_one_road, od_one_road, .func (PySem.W.fnOf "one_road" "one_road" (defArgs s_one_road) (defBody s_one_road) (defScope s_one_road) .none kV_one_road dc_one_road pm_one_road an_one_road cd_one_road ct_one_road), sl_one_road⟩) (x_one_road : PySem.W.codeIn K cd_one_road "one_road" = true) (k_one_road : PySem.W.keepIn K (.ref f_one_road) = true)
    (a_law_cell_at : PySem.W.nsIn K mainGlobals "_law_cell_at" = some (some (.ref f_law_cell_at))) (l_law_cell_at : K.lookup f_law_cell_at = some ⟨oc_law_cell_at, od_law_cell_at, .func (PySem.W.fnOf "_law_cell_at" "_law_cell_at" (defArgs s_law_cell_at) (defBody s_law_cell_at) (defScope s_law_cell_at) .none kV_law_cell_at dc_law_cell_at pm_law_cell_at an_law_cell_at cd_law_cell_at ct_law_cell_at), sl_law_cell_at⟩) (x_law_cell_at : PySem.W.codeIn K cd_law_cell_at "_law_cell_at" = true) (k_law_cell_at : PySem.W.keepIn K (.ref f_law_cell_at) = true)
    (a_law_whole : PySem.W.nsIn K mainGlobals "_law_whole" = some (some (.ref f_law_whole))) (l_law_whole : K.lookup f_law_whole = some ⟨oc_law_whole, od_law_whole, .func (PySem.W.fnOf "_law_whole" "_law_whole" (defArgs s_law_whole) (defBody s_law_whole) (defScope s_law_whole) .none kV_law_whole dc_law_whole pm_law_whole an_law_whole cd_law_whole ct_law_whole), sl_law_whole⟩) (x_law_whole : PySem.W.codeIn K cd_law_whole "_law_whole" = true) (k_law_whole : PySem.W.keepIn K (.ref f_law_whole) = true)
    (a_law_numbers : PySem.W.nsIn K mainGlobals "_law_numbers" = some (some (.ref f_law_numbers))) (l_law_numbers : K.lookup f_law_numbers = some ⟨oc_law_numbers, od_law_numbers, .func (PySem.W.fnOf "_law_numbers" "_law_numbers" (defArgs s_law_numbers) (defBody s_law_numbers) (defScope s_law_numbers) .none kV_law_numbers dc_law_numbers pm_law_numbers an_law_numbers cd_law_numbers ct_law_numbers), sl_law_numbers⟩) (x_law_numbers : PySem.W.codeIn K cd_law_numbers "_law_numbers" = true) (k_law_numbers : PySem.W.keepIn K (.ref f_law_numbers) = true)
    (a_law_arcs : PySem.W.nsIn K mainGlobals "_law_arcs" = some (some (.ref f_law_arcs))) (l_law_arcs : K.lookup f_law_arcs = some ⟨oc_law_arcs, od_law_arcs, .func (PySem.W.fnOf "_law_arcs" "_law_arcs" (defArgs s_law_arcs) (defBody s_law_arcs) (defScope s_law_arcs) .none kV_law_arcs dc_law_arcs pm_law_arcs an_law_arcs cd_law_arcs ct_law_arcs), sl_law_arcs⟩) (x_law_arcs : PySem.W.codeIn K cd_law_arcs "_law_arcs" = true) (k_law_arcs : PySem.W.keepIn K (.ref f_law_arcs) = true)
    (a_law_good : PySem.W.nsIn K mainGlobals "_law_good" = some (some (.ref f_law_good))) (l_law_good : K.lookup f_law_good = some ⟨oc_law_good, od_law_good, .func (PySem.W.fnOf "_law_good" "_law_good" (defArgs s_law_good) (defBody s_law_good) (defScope s_law_good) .none kV_law_good dc_law_good pm_law_good an_law_good cd_law_good ct_law_good), sl_law_good⟩) (x_law_good : PySem.W.codeIn K cd_law_good "_law_good" = true) (k_law_good : PySem.W.keepIn K (.ref f_law_good) = true)
    (a_law_roads : PySem.W.nsIn K mainGlobals "_law_roads" = some (some (.ref f_law_roads))) (l_law_roads : K.lookup f_law_roads = some ⟨oc_law_roads, od_law_roads, .func (PySem.W.fnOf "_law_roads" "_law_roads" (defArgs s_law_roads) (defBody s_law_roads) (defScope s_law_roads) .none kV_law_roads dc_law_roads pm_law_roads an_law_roads cd_law_roads ct_law_roads), sl_law_roads⟩) (x_law_roads : PySem.W.codeIn K cd_law_roads "_law_roads" = true) (k_law_roads : PySem.W.keepIn K (.ref f_law_roads) = true)
    (a_law : PySem.W.nsIn K mainGlobals "law" = some (some (.ref f_law))) (l_law : K.lookup f_law = some ⟨oc_law, od_law, .func (PySem.W.fnOf "law" "law" (defArgs s_law) (defBody s_law) (defScope s_law) .none kV_law dc_law pm_law an_law cd_law ct_law), sl_law⟩) (x_law : PySem.W.codeIn K cd_law "law" = true) (k_law : PySem.W.keepIn K (.ref f_law) = true)
    {t_MOST : Tok} (m_MOST : PySem.W.nsIn K mainGlobals "MOST" = some (some (.int 20 t_MOST)))
    (z_len : PySem.W.nsIn K mainGlobals "len" = some none) (z_range : PySem.W.nsIn K mainGlobals "range" = some none) (z_isinstance : PySem.W.nsIn K mainGlobals "isinstance" = some none) (z_int : PySem.W.nsIn K mainGlobals "int" = some none) (z_bool : PySem.W.nsIn K mainGlobals "bool" = some none) (z_list : PySem.W.nsIn K mainGlobals "list" = some none) (z_str : PySem.W.nsIn K mainGlobals "str" = some none) (z_reversed : PySem.W.nsIn K mainGlobals "reversed" = some none) (z_min : PySem.W.nsIn K mainGlobals "min" = some none) (z_max : PySem.W.nsIn K mainGlobals "max" = some none) (z_abs : PySem.W.nsIn K mainGlobals "abs" = some none) (z_sum : PySem.W.nsIn K mainGlobals "sum" = some none) (z_set : PySem.W.nsIn K mainGlobals "set" = some none) (z_tuple : PySem.W.nsIn K mainGlobals "tuple" = some none)
    : ∃ fd : FuncData, (∀ (s : Shared) (v : Value), BindsTo s fd ⟨[v], []⟩ [("script", v)]) ∧ ∀ base : Heap, K.In base → base.Ns mainGlobals mg → FnOk l.prog w K mg base CX0 24 fa fd ["script"] (spLaw K) := by
  have e := hfa.symm.trans (PySem.W.mg_of X G a_law)
  cases e
  have B : Blt mg := ⟨PySem.W.mg_none_of X G z_len, PySem.W.mg_none_of X G z_range, PySem.W.mg_none_of X G z_isinstance, PySem.W.mg_none_of X G z_int, PySem.W.mg_none_of X G z_bool, PySem.W.mg_none_of X G z_list, PySem.W.mg_none_of X G z_str, PySem.W.mg_none_of X G z_reversed, PySem.W.mg_none_of X G z_min, PySem.W.mg_none_of X G z_max, PySem.W.mg_none_of X G z_abs, PySem.W.mg_none_of X G z_sum, PySem.W.mg_none_of X G z_set, PySem.W.mg_none_of X G z_tuple⟩
  have g_MOST := PySem.W.mg_of X G m_MOST
  have D_is_arcs : Dfn K mg "is_arcs" s_is_arcs ["some"] := ⟨f_is_arcs, _, fun_mk (st := s_is_arcs) l_is_arcs x_is_arcs k_is_arcs, PySem.W.mg_of X G a_is_arcs, (fun_mk (st := s_is_arcs) l_is_arcs x_is_arcs k_is_arcs).binds (ps := ["some"]) fun _ _ _ _ _ _ us hl => match us, hl with | [_], _ => rfl⟩
  have D_ask : Dfn K mg "ask" s_ask ["arcs"] := ⟨f_ask, _, fun_mk (st := s_ask) l_ask x_ask k_ask, PySem.W.mg_of X G a_ask, (fun_mk (st := s_ask) l_ask x_ask k_ask).binds (ps := ["arcs"]) fun _ _ _ _ _ _ us hl => match us, hl with | [_], _ => rfl⟩
  have D_ask_both : Dfn K mg "ask_both" s_ask_both ["one", "other"] := ⟨f_ask_both, _, fun_mk (st := s_ask_both) l_ask_both x_ask_both k_ask_both, PySem.W.mg_of X G a_ask_both, (fun_mk (st := s_ask_both) l_ask_both x_ask_both k_ask_both).binds (ps := ["one", "other"]) fun _ _ _ _ _ _ us hl => match us, hl with | [_, _], _ => rfl⟩
  have D_roads_by : Dfn K mg "roads_by" s_roads_by ["above", "below"] := ⟨f_roads_by, _, fun_mk (st := s_roads_by) l_roads_by x_roads_by k_roads_by, PySem.W.mg_of X G a_roads_by, (fun_mk (st := s_roads_by) l_roads_by x_roads_by k_roads_by).binds (ps := ["above", "below"]) fun _ _ _ _ _ _ us hl => match us, hl with | [_, _], _ => rfl⟩
  have D_many_roads : Dfn K mg "many_roads" s_many_roads ["above", "below"] := ⟨f_many_roads, _, fun_mk (st := s_many_roads) l_many_roads x_many_roads k_many_roads, PySem.W.mg_of X G a_many_roads, (fun_mk (st := s_many_roads) l_many_roads x_many_roads k_many_roads).binds (ps := ["above", "below"]) fun _ _ _ _ _ _ us hl => match us, hl with | [_, _], _ => rfl⟩
  have D_lifted : Dfn K mg "lifted" s_lifted ["arcs", "at"] := ⟨f_lifted, _, fun_mk (st := s_lifted) l_lifted x_lifted k_lifted, PySem.W.mg_of X G a_lifted, (fun_mk (st := s_lifted) l_lifted x_lifted k_lifted).binds (ps := ["arcs", "at"]) fun _ _ _ _ _ _ us hl => match us, hl with | [_, _], _ => rfl⟩
  have D_seen_from : Dfn K mg "seen_from" s_seen_from ["arcs", "at"] := ⟨f_seen_from, _, fun_mk (st := s_seen_from) l_seen_from x_seen_from k_seen_from, PySem.W.mg_of X G a_seen_from, (fun_mk (st := s_seen_from) l_seen_from x_seen_from k_seen_from).binds (ps := ["arcs", "at"]) fun _ _ _ _ _ _ us hl => match us, hl with | [_, _], _ => rfl⟩
  have D_one_road : Dfn K mg "one_road" s_one_road ["above"] := ⟨f_one_road, _, fun_mk (st := s_one_road) l_one_road x_one_road k_one_road, PySem.W.mg_of X G a_one_road, (fun_mk (st := s_one_road) l_one_road x_one_road k_one_road).binds (ps := ["above"]) fun _ _ _ _ _ _ us hl => match us, hl with | [_], _ => rfl⟩
  have D_law_cell_at : Dfn K mg "_law_cell_at" s_law_cell_at ["script", "k"] := ⟨f_law_cell_at, _, fun_mk (st := s_law_cell_at) l_law_cell_at x_law_cell_at k_law_cell_at, PySem.W.mg_of X G a_law_cell_at, (fun_mk (st := s_law_cell_at) l_law_cell_at x_law_cell_at k_law_cell_at).binds (ps := ["script", "k"]) fun _ _ _ _ _ _ us hl => match us, hl with | [_, _], _ => rfl⟩
  have D_law_whole : Dfn K mg "_law_whole" s_law_whole ["found"] := ⟨f_law_whole, _, fun_mk (st := s_law_whole) l_law_whole x_law_whole k_law_whole, PySem.W.mg_of X G a_law_whole, (fun_mk (st := s_law_whole) l_law_whole x_law_whole k_law_whole).binds (ps := ["found"]) fun _ _ _ _ _ _ us hl => match us, hl with | [_], _ => rfl⟩
  have D_law_numbers : Dfn K mg "_law_numbers" s_law_numbers ["found", "due"] := ⟨f_law_numbers, _, fun_mk (st := s_law_numbers) l_law_numbers x_law_numbers k_law_numbers, PySem.W.mg_of X G a_law_numbers, (fun_mk (st := s_law_numbers) l_law_numbers x_law_numbers k_law_numbers).binds (ps := ["found", "due"]) fun _ _ _ _ _ _ us hl => match us, hl with | [_, _], _ => rfl⟩
  have D_law_arcs : Dfn K mg "_law_arcs" s_law_arcs ["script", "at", "size"] := ⟨f_law_arcs, _, fun_mk (st := s_law_arcs) l_law_arcs x_law_arcs k_law_arcs, PySem.W.mg_of X G a_law_arcs, (fun_mk (st := s_law_arcs) l_law_arcs x_law_arcs k_law_arcs).binds (ps := ["script", "at", "size"]) fun _ _ _ _ _ _ us hl => match us, hl with | [_, _, _], _ => rfl⟩
  have D_law_good : Dfn K mg "_law_good" s_law_good ["some"] := ⟨f_law_good, _, fun_mk (st := s_law_good) l_law_good x_law_good k_law_good, PySem.W.mg_of X G a_law_good, (fun_mk (st := s_law_good) l_law_good x_law_good k_law_good).binds (ps := ["some"]) fun _ _ _ _ _ _ us hl => match us, hl with | [_], _ => rfl⟩
  have D_law_roads : Dfn K mg "_law_roads" s_law_roads ["above", "below"] := ⟨f_law_roads, _, fun_mk (st := s_law_roads) l_law_roads x_law_roads k_law_roads, PySem.W.mg_of X G a_law_roads, (fun_mk (st := s_law_roads) l_law_roads x_law_roads k_law_roads).binds (ps := ["above", "below"]) fun _ _ _ _ _ _ us hl => match us, hl with | [_, _], _ => rfl⟩
  refine ⟨PySem.W.fnOf "law" "law" (defArgs s_law) (defBody s_law) (defScope s_law) .none kV_law dc_law pm_law an_law cd_law ct_law, fun s v => .of_eq rfl, fun base _ _ => ?_⟩
  have c_law_cell_at := ok_law_cell_at (P := l.prog) (w := w) (K := K) (mg := mg) (base := base) D_law_cell_at B
  have c_law_arcs := ok_law_arcs (P := l.prog) (w := w) (K := K) (mg := mg) (base := base) D_law_arcs B c_law_cell_at
  have c_is_arcs := ok_is_arcs (P := l.prog) (w := w) (K := K) (mg := mg) (base := base) D_is_arcs B g_MOST
  have c_ask := ok_ask (P := l.prog) (w := w) (K := K) (mg := mg) (base := base) D_ask c_is_arcs
  have c_lifted := ok_lifted (P := l.prog) (w := w) (K := K) (mg := mg) (base := base) D_lifted B
  have c_seen_from := ok_seen_from (P := l.prog) (w := w) (K := K) (mg := mg) (base := base) D_seen_from B
  have c_one_road := ok_one_road (P := l.prog) (w := w) (K := K) (mg := mg) (base := base) D_one_road B c_ask c_seen_from c_lifted
  have c_law_whole := ok_law_whole (P := l.prog) (w := w) (K := K) (mg := mg) (base := base) D_law_whole B
  have c_law_numbers := ok_law_numbers (P := l.prog) (w := w) (K := K) (mg := mg) (base := base) D_law_numbers B c_law_whole
  have c_law_good := ok_law_good (P := l.prog) (w := w) (K := K) (mg := mg) (base := base) D_law_good B
  have c_law_roads := ok_law_roads (P := l.prog) (w := w) (K := K) (mg := mg) (base := base) D_law_roads B
  have c_roads_by := ok_roads_by (P := l.prog) (w := w) (K := K) (mg := mg) (base := base) D_roads_by B
  have c_ask_both := ok_ask_both (P := l.prog) (w := w) (K := K) (mg := mg) (base := base) D_ask_both B c_ask
  have c_many_roads := ok_many_roads (P := l.prog) (w := w) (K := K) (mg := mg) (base := base) D_many_roads B c_ask_both c_roads_by
  exact ok_law (fun_mk (st := s_law) l_law x_law k_law) B c_law_arcs c_law_cell_at c_one_road c_law_numbers c_law_good c_law_roads c_many_roads
end Rv
open PySem PySem.W PyProof.Rows
set_option maxHeartbeats 0 in
theorem PySem.Challenge.cw_riverloops_k08_whole_one_road_holds : PySem.Challenge.rw_riverloops_k08_whole_one_road.Holds := by
  w_on; o_law; k_head; (case hw => w_witness2)
  k_fill
  refine L2.walk_of (l := PySem.Challenge.rw_riverloops_k08_whole_one_road) (n := 63) (k := 24) (x := "script") (CX := fun _ => L2.CX0) (sp := fun w => Rv.spLaw _) rfl (by decide) rfl ⟨rfl, by decide, by decide⟩ (fun w h Y => PySem.W.kIn_of Y) ?F (fun _ _ a ns hl _ hS => ⟨a, ns, rfl, hS, hl, fun _ => rfl⟩) (fun _ _ _ _ _ h => h)
  case F =>
    intro w mg fa h KX G hmg
    refine' Rv.all_mk KX G hmg ?a_is_arcs ?l_is_arcs ?x_is_arcs ?k_is_arcs ?a_ask ?l_ask ?x_ask ?k_ask ?a_ask_both ?l_ask_both ?x_ask_both ?k_ask_both ?a_roads_by ?l_roads_by ?x_roads_by ?k_roads_by ?a_many_roads ?l_many_roads ?x_many_roads ?k_many_roads ?a_lifted ?l_lifted ?x_lifted ?k_lifted ?a_seen_from ?l_seen_from ?x_seen_from ?k_seen_from ?a_one_road ?l_one_road ?x_one_road ?k_one_road ?a_law_cell_at ?l_law_cell_at ?x_law_cell_at ?k_law_cell_at ?a_law_whole ?l_law_whole ?x_law_whole ?k_law_whole ?a_law_numbers ?l_law_numbers ?x_law_numbers ?k_law_numbers ?a_law_arcs ?l_law_arcs ?x_law_arcs ?k_law_arcs ?a_law_good ?l_law_good ?x_law_good ?k_law_good ?a_law_roads ?l_law_roads ?x_law_roads ?k_law_roads ?a_law ?l_law ?x_law ?k_law ?m_MOST ?z_len ?z_range ?z_isinstance ?z_int ?z_bool ?z_list ?z_str ?z_reversed ?z_min ?z_max ?z_abs ?z_sum ?z_set ?z_tuple
    (case a_is_arcs => k_is); (case l_is_arcs => k_is); (case x_is_arcs => k_is); (case k_is_arcs => k_is); (case a_ask => k_is); (case l_ask => k_is); (case x_ask => k_is); (case k_ask => k_is); (case a_ask_both => k_is); (case l_ask_both => k_is); (case x_ask_both => k_is); (case k_ask_both => k_is); (case a_roads_by => k_is); (case l_roads_by => k_is); (case x_roads_by => k_is); (case k_roads_by => k_is); (case a_many_roads => k_is); (case l_many_roads => k_is); (case x_many_roads => k_is); (case k_many_roads => k_is); (case a_lifted => k_is); (case l_lifted => k_is); (case x_lifted => k_is); (case k_lifted => k_is); (case a_seen_from => k_is); (case l_seen_from => k_is); (case x_seen_from => k_is); (case k_seen_from => k_is); (case a_one_road => k_is); (case l_one_road => k_is); (case x_one_road => k_is); (case k_one_road => k_is); (case a_law_cell_at => k_is); (case l_law_cell_at => k_is); (case x_law_cell_at => k_is); (case k_law_cell_at => k_is); (case a_law_whole => k_is); (case l_law_whole => k_is); (case x_law_whole => k_is); (case k_law_whole => k_is); (case a_law_numbers => k_is); (case l_law_numbers => k_is); (case x_law_numbers => k_is); (case k_law_numbers => k_is); (case a_law_arcs => k_is); (case l_law_arcs => k_is); (case x_law_arcs => k_is); (case k_law_arcs => k_is); (case a_law_good => k_is); (case l_law_good => k_is); (case x_law_good => k_is); (case k_law_good => k_is); (case a_law_roads => k_is); (case l_law_roads => k_is); (case x_law_roads => k_is); (case k_law_roads => k_is); (case a_law => k_is); (case l_law => k_is); (case x_law => k_is); (case k_law => k_is); (case m_MOST => k_is); (case z_len => k_is); (case z_range => k_is); (case z_isinstance => k_is); (case z_int => k_is); (case z_bool => k_is); (case z_list => k_is); (case z_str => k_is); (case z_reversed => k_is); (case z_min => k_is); (case z_max => k_is); (case z_abs => k_is); (case z_sum => k_is); (case z_set => k_is); (case z_tuple => k_is)
