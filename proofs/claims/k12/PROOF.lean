import PyProof.Rows.All
import Wide.All
import OpenK.AllK
import Wide.FinOn
import PySem.Challenge.RW_riverloops_k12_whole_hooks
import HandS.ForMost
import HandS.IsInst
import HandS.RevRange
import HandS.Style
import HandS.Conv
import HandS.SetFor
import HandS.More
import HandS.Walk
import KE.Datum
import HandS.Codes
set_option Elab.async false
set_option linter.all false
set_option maxRecDepth 100000
set_option maxHeartbeats 4000000

set_option linter.all false
namespace Rm

/-! ## lists of whole numbers that tell arcs -/
def g (s : List Int) (k : Nat) : Int := s.getD k 0
def OkAt (s : List Int) (k : Nat) : Prop := 0 ≤ g s k ∧ g s k < (s.length : Int) ∧ g s k ≠ (k : Int) ∧ g s (g s k).toNat = (k : Int)
def NcI (s : List Int) : Prop := ∀ j k : Nat, j < k → k < s.length → (k : Int) < g s j → g s j < g s k → False
def Good (s : List Int) : Prop := (2 ≤ s.length ∧ s.length ≤ 40) ∧ (∀ k : Nat, k < s.length → OkAt s k) ∧ NcI s
def opens (s : List Int) (k : Nat) : List Nat := (List.range k).filter (fun j => decide ((k : Int) ≤ g s j))
structure Stage (s : List Int) (k : Nat) : Prop where
  ok : ∀ j : Nat, j < k → OkAt s j
  top : ∀ j : Nat, j < k → g s j < (j : Int) → (opens s j).getLast? = some (g s j).toNat

theorem mem_opens {s : List Int} {k j : Nat} : j ∈ opens s k ↔ j < k ∧ (k : Int) ≤ g s j := by
  simp [opens, List.mem_filter, List.mem_range]
theorem opens_sorted (s : List Int) (k : Nat) : (opens s k).Pairwise (· < ·) := List.Pairwise.filter _ List.pairwise_lt_range
theorem opens_len (s : List Int) (k : Nat) : (opens s k).length ≤ k := by
  have h := List.length_filter_le (fun j : Nat => decide ((k : Int) ≤ g s j)) (List.range k)
  rw [List.length_range] at h
  exact h
theorem stage0 (s : List Int) : Stage s 0 := ⟨fun j h => absurd h (Nat.not_lt_zero j), fun j h => absurd h (Nat.not_lt_zero j)⟩
theorem opens0 (s : List Int) : opens s 0 = [] := rfl
/-- within the checked places, partners are one to one -/
theorem okAt_inj {s : List Int} {i j : Nat} (hi : OkAt s i) (e : g s i = (j : Int)) : g s j = (i : Int) := by
  have h := hi.2.2.2
  rw [e] at h
  simpa using h
theorem opens_succ (s : List Int) (k : Nat) : opens s (k + 1) = (List.range k).filter (fun j => decide (((k + 1 : Nat) : Int) ≤ g s j)) ++ (if ((k + 1 : Nat) : Int) ≤ g s k then [k] else []) := by
  unfold opens
  rw [List.range_succ, List.filter_append]
  congr 1
  by_cases h : ((k + 1 : Nat) : Int) ≤ g s k
  · rw [if_pos h]
    exact List.filter_cons_of_pos (p := fun j => decide (((k + 1 : Nat) : Int) ≤ g s j)) (decide_eq_true h)
  · rw [if_neg h]
    exact List.filter_cons_of_neg (p := fun j => decide (((k + 1 : Nat) : Int) ≤ g s j)) (fun z => h (of_decide_eq_true z))
theorem opens_push {s : List Int} {k : Nat} (st : Stage s k) (hk : (k : Int) < g s k) : opens s (k + 1) = opens s k ++ [k] := by
  rw [opens_succ, if_pos (by omega)]
  congr 1
  unfold opens
  apply List.filter_congr
  intro j hj
  rw [List.mem_range] at hj
  have hne : g s j ≠ (k : Int) := fun e => by
    have := okAt_inj (st.ok j hj) e
    omega
  exact decide_eq_decide.mpr (by omega)
theorem filter_ne_last : ∀ (l : List Nat) (t : Nat), (l ++ [t]).Nodup → (l ++ [t]).filter (fun j => decide (j ≠ t)) = l := by
  intro l t h
  rw [List.filter_append]
  have h1 : l.filter (fun j => decide (j ≠ t)) = l := by
    apply List.filter_eq_self.mpr
    intro a ha
    rw [List.nodup_append] at h
    exact decide_eq_true (h.2.2 a ha t (List.mem_singleton.mpr rfl))
  rw [h1]
  simp
theorem nodup_of_sorted {l : List Nat} (h : l.Pairwise (· < ·)) : l.Nodup := h.imp fun h => Nat.ne_of_lt h
theorem opens_pop {s : List Int} {k : Nat} {l : List Nat} {t : Nat} (st : Stage s k) (ok : OkAt s k) (hk : g s k < (k : Int)) (e : opens s k = l ++ [t]) (ht : (t : Int) = g s k) : opens s (k + 1) = l := by
  rw [opens_succ, if_neg (by omega), List.append_nil]
  have h1 : (List.range k).filter (fun j => decide (((k + 1 : Nat) : Int) ≤ g s j)) = (opens s k).filter (fun j => decide (j ≠ t)) := by
    unfold opens
    rw [List.filter_filter]
    apply List.filter_congr
    intro j hj
    rw [List.mem_range] at hj
    have hje : g s j = (k : Int) ↔ j = t := by
      constructor
      · intro q
        have := okAt_inj (st.ok j hj) q
        omega
      · intro q
        subst q
        have := okAt_inj (j := j) ok ht.symm
        exact this
    by_cases q : j = t
    · have := hje.mpr q
      simp [q]
      subst q
      omega
    · have : g s j ≠ (k : Int) := fun z => q (hje.mp z)
      simp [q]
      omega
  rw [h1, e]
  exact filter_ne_last l t (e ▸ nodup_of_sorted (opens_sorted s k))
/-- at a place that leads back something is open -/
theorem opens_ne {s : List Int} {k : Nat} (ok : OkAt s k) (hk : g s k < (k : Int)) : ∃ l t, opens s k = l ++ [t] := by
  have hm : (g s k).toNat ∈ opens s k := by
    rw [mem_opens]
    have h := ok.2.2.2
    have h0 := ok.1
    constructor
    · omega
    · omega
  rcases List.eq_nil_or_concat (opens s k) with e | ⟨l, t, e⟩
  · rw [e] at hm; cases hm
  · exact ⟨l, t, by rw [e]; exact List.concat_eq_append⟩
theorem stage_push {s : List Int} {k : Nat} (st : Stage s k) (ok : OkAt s k) (hk : (k : Int) < g s k) : Stage s (k + 1) := by
  refine ⟨fun j hj => ?_, fun j hj h => ?_⟩
  · by_cases e : j = k
    · subst e; exact ok
    · exact st.ok j (by omega)
  · by_cases e : j = k
    · subst e; omega
    · exact st.top j (by omega) h
theorem stage_pop {s : List Int} {k : Nat} {l : List Nat} {t : Nat} (st : Stage s k) (ok : OkAt s k) (e : opens s k = l ++ [t]) (ht : (t : Int) = g s k) : Stage s (k + 1) := by
  refine ⟨fun j hj => ?_, fun j hj h => ?_⟩
  · by_cases e : j = k
    · subst e; exact ok
    · exact st.ok j (by omega)
  · by_cases q : j = k
    · subst q
      rw [e, List.getLast?_append, ← ht]
      simp
    · exact st.top j (by omega) h
/-- the top is not the partner: two arcs cross -/
theorem stage_cross {s : List Int} {k : Nat} {l : List Nat} {t : Nat} (st : Stage s k) (ok : OkAt s k) (hk : g s k < (k : Int)) (hl : k < s.length) (e : opens s k = l ++ [t]) (ht : (t : Int) ≠ g s k) : ¬ NcI s := by
  intro nc
  have hm : (g s k).toNat ∈ opens s k := by
    rw [mem_opens]
    have h := ok.2.2.2
    have h0 := ok.1
    constructor
    · omega
    · omega
  have htm : t ∈ opens s k := by rw [e]; simp
  rw [mem_opens] at htm
  have hsrt := opens_sorted s k
  rw [e, List.pairwise_append] at hsrt
  rw [e, List.mem_append] at hm
  have h0 := ok.1
  have hlt : (g s k).toNat < t := by
    rcases hm with hm | hm
    · exact hsrt.2.2 _ hm t (by simp)
    · rw [List.mem_singleton] at hm
      omega
  have hne : g s t ≠ (k : Int) := fun q => by
    have := okAt_inj (st.ok t htm.1) q
    omega
  have hp := ok.2.2.2
  exact nc (g s k).toNat t hlt (by omega) (by omega) (by omega)
theorem stage_good {s : List Int} (h : 2 ≤ s.length ∧ s.length ≤ 40) (st : Stage s s.length) : Good s := by
  refine ⟨h, st.ok, fun j k hjk hk h1 h2 => ?_⟩
  have okj := st.ok j (by omega)
  have okk := st.ok k hk
  -- at the place where j's arc ends
  obtain ⟨e0, e1, e2, e3⟩ := okj
  have hm : g s (g s j).toNat < ((g s j).toNat : Int) := by omega
  have ht := st.top (g s j).toNat (by omega) hm
  rw [e3] at ht
  have hkm : k ∈ opens s (g s j).toNat := by
    rw [mem_opens]
    constructor <;> omega
  rcases List.eq_nil_or_concat (opens s (g s j).toNat) with q | ⟨l, t, q⟩
  · rw [q] at hkm; cases hkm
  · rw [List.concat_eq_append] at q
    rw [q, List.getLast?_append] at ht
    simp at ht
    have hsrt := opens_sorted s (g s j).toNat
    rw [q, List.pairwise_append] at hsrt
    rw [q, List.mem_append] at hkm
    rcases hkm with hkm | hkm
    · have := hsrt.2.2 _ hkm t (by simp)
      omega
    · rw [List.mem_singleton] at hkm
      omega
/-- of a good list the top at a place that leads back is its partner -/
theorem good_top {s : List Int} (G : Good s) {k : Nat} (hk : k < s.length) (hb : g s k < (k : Int)) : ∃ (l : List Nat) (t : Nat), opens s k = l ++ [t] ∧ (t : Int) = g s k := by
  obtain ⟨l, t, e⟩ := opens_ne (G.2.1 k hk) hb
  refine ⟨l, t, e, ?_⟩
  have okk := G.2.1 k hk
  have hm : (g s k).toNat ∈ opens s k := by
    rw [mem_opens]
    have h := okk.2.2.2
    have h0 := okk.1
    constructor <;> omega
  have htm : t ∈ opens s k := by rw [e]; simp
  rw [mem_opens] at htm
  have hsrt := opens_sorted s k
  rw [e, List.pairwise_append] at hsrt
  rw [e, List.mem_append] at hm
  have h0 := okk.1
  rcases hm with hm | hm
  · have hlt := hsrt.2.2 _ hm t (by simp)
    have hne : g s t ≠ (k : Int) := fun q => by
      have := okAt_inj (G.2.1 t (by omega)) q
      omega
    have hp := okk.2.2.2
    exact (G.2.2 (g s k).toNat t hlt (by omega) (by omega) (by omega)).elim
  · rw [List.mem_singleton] at hm
    omega
theorem good_stage {s : List Int} (G : Good s) : ∀ k : Nat, k ≤ s.length → Stage s k := fun k hk =>
  ⟨fun j hj => G.2.1 j (by omega), fun j hj h => by
    obtain ⟨l, t, e, ht⟩ := good_top G (show j < s.length by omega) h
    rw [e, List.getLast?_append, ← ht]
    simp⟩
end Rm

set_option linter.all false
namespace Rm
/-! ## arcs by lists of naturals -/
def at' (a : List Nat) (k : Nat) : Nat := a.getD k 0
structure Arcs (m : Nat) (f : Nat → Nat) : Prop where
  lt : ∀ k, k < m → f k < m
  ne : ∀ k, k < m → f k ≠ k
  inv : ∀ k, k < m → f (f k) = k
  nc : ∀ j k, j < k → k < m → k < f j → f j < f k → False
/-- a list of 2 n places that tells n arcs -/
structure ArcsL (n : Nat) (a : List Nat) : Prop where
  len : a.length = 2 * n
  arcs : Arcs (2 * n) (at' a)
abbrev zs (a : List Nat) : List Int := a.map (fun n : Nat => (n : Int))
theorem g_zs (a : List Nat) (k : Nat) : g (zs a) k = ((at' a k : Nat) : Int) := by
  simp only [g, at', zs, List.getD_eq_getElem?_getD, List.getElem?_map]
  cases a[k]? <;> simp
theorem len_zs (a : List Nat) : (zs a).length = a.length := by simp [zs]
theorem arcs_good {n : Nat} {a : List Nat} (h : ArcsL n a) (h1 : 1 ≤ n) (h2 : n ≤ 20) : Good (zs a) := by
  have hl := h.len
  refine ⟨by rw [len_zs]; omega, fun k hk => ?_, fun j k hjk hk h1 h2 => ?_⟩
  · rw [len_zs] at hk
    have a1 := h.arcs.lt k (by omega)
    have a2 := h.arcs.ne k (by omega)
    have a3 := h.arcs.inv k (by omega)
    refine ⟨?_, ?_, ?_, ?_⟩
    · rw [g_zs]; omega
    · rw [g_zs, len_zs]; omega
    · rw [g_zs]; omega
    · rw [g_zs, g_zs, Int.toNat_natCast, a3]
  · rw [len_zs] at hk
    rw [g_zs] at h1
    rw [g_zs, g_zs] at h2
    exact h.arcs.nc j k hjk (by omega) (by omega) (by omega)
/-! ## arcs built with a pile -/
structure Bld (m k : Nat) (fd st : List Nat) : Prop where
  len : fd.length = m
  km : k ≤ m
  srt : st.Pairwise (· < ·)
  slt : ∀ j, j ∈ st → j < k
  cl : ∀ j, j < k → j ∉ st → at' fd j < k ∧ at' fd j ∉ st ∧ at' fd j ≠ j ∧ at' fd (at' fd j) = j
  nc : ∀ i j, i < j → j < k → i ∉ st → j ∉ st → j < at' fd i → at' fd i < at' fd j → False
  cov : ∀ i j, i < k → i ∉ st → j ∈ st → i < j → j < at' fd i → False
theorem bld0 (m : Nat) (fd : List Nat) (h : fd.length = m) : Bld m 0 fd [] :=
  ⟨h, Nat.zero_le _, .nil, fun _ h => (nomatch h), fun _ h => absurd h (Nat.not_lt_zero _), fun _ _ _ h => absurd h (Nat.not_lt_zero _), fun _ _ h => absurd h (Nat.not_lt_zero _)⟩
theorem bld_push {m k : Nat} {fd st : List Nat} (B : Bld m k fd st) (hk : k < m) : Bld m (k + 1) fd (st ++ [k]) := by
  have hm : ∀ j, j ∈ st ++ [k] ↔ j ∈ st ∨ j = k := fun j => by simp
  refine ⟨B.len, hk, ?_, fun j h => ?_, fun j hj hn => ?_, fun i j hij hj hi hjn h1 h2 => ?_, fun i j hi hin hj h1 h2 => ?_⟩
  · rw [List.pairwise_append]
    exact ⟨B.srt, List.pairwise_singleton _ _, fun a ha b hb => by rw [List.mem_singleton] at hb; rw [hb]; exact B.slt a ha⟩
  · rcases (hm j).mp h with h | h
    · have := B.slt j h; omega
    · omega
  · rw [hm] at hn
    obtain ⟨c1, c2, c3, c4⟩ := B.cl j (by omega) (fun z => hn (.inl z))
    refine ⟨by omega, fun z => ?_, c3, c4⟩
    rcases (hm _).mp z with z | z
    · exact c2 z
    · omega
  · rw [hm] at hi hjn
    exact B.nc i j hij (by omega) (fun z => hi (.inl z)) (fun z => hjn (.inl z)) h1 h2
  · rw [hm] at hin
    rcases (hm j).mp hj with hj | hj
    · exact B.cov i j (by omega) (fun z => hin (.inl z)) hj h1 h2
    · have := (B.cl i (by omega) (fun z => hin (.inl z))).1
      omega
theorem at_set {a : List Nat} {k t j : Nat} (h : k < a.length) : at' (a.set k t) j = if j = k then t else at' a j := by
  unfold at'
  rw [List.getD_eq_getElem?_getD, List.getD_eq_getElem?_getD, List.getElem?_set]
  by_cases e : k = j
  · subst e
    simp [h]
  · rw [if_neg e, if_neg (fun z => e z.symm)]
theorem bld_pop {m k t : Nat} {fd l : List Nat} (B : Bld m k fd (l ++ [t])) (hk : k < m) : Bld m (k + 1) ((fd.set k t).set t k) l := by
  have hm : ∀ j, j ∈ l ++ [t] ↔ j ∈ l ∨ j = t := fun j => by simp
  have ht : t < k := B.slt t (by simp)
  have hsr := List.pairwise_append.mp B.srt
  have hlt : ∀ j, j ∈ l → j < t := fun j hj => hsr.2.2 j hj t (by simp)
  have hl := B.len
  have ha : ∀ j, at' ((fd.set k t).set t k) j = if j = t then k else if j = k then t else at' fd j := fun j => by
    rw [at_set (by rw [List.length_set]; omega), at_set (by omega)]
  have old : ∀ j, j < k + 1 → j ∉ l → j = t ∨ j = k ∨ (j < k ∧ j ∉ l ++ [t]) := fun j h1 h2 => by
    by_cases e : j = t
    · exact .inl e
    · by_cases e2 : j = k
      · exact .inr (.inl e2)
      · refine .inr (.inr ⟨by omega, fun z => ?_⟩)
        rcases (hm j).mp z with z | z
        · exact h2 z
        · exact e z
  have hao : ∀ j, j < k → j ∉ l ++ [t] → at' ((fd.set k t).set t k) j = at' fd j := fun j h1 h2 => by
    rw [ha, if_neg (fun z => h2 ((hm j).mpr (.inr z))), if_neg (by omega)]
  have hat : at' ((fd.set k t).set t k) t = k := by rw [ha, if_pos rfl]
  have hak : at' ((fd.set k t).set t k) k = t := by rw [ha, if_neg (by omega), if_pos rfl]
  refine ⟨by rw [List.length_set, List.length_set]; exact hl, hk, hsr.1, fun j h => ?_, fun j hj hn => ?_, fun i j hij hj hi hjn h1 h2 => ?_, fun i j hi hin hj h1 h2 => ?_⟩
  · have := hlt j h; omega
  · rcases old j hj hn with e | e | ⟨e1, e2⟩
    · subst e
      rw [hat]
      refine ⟨by omega, fun z => ?_, by omega, hak⟩
      have := hlt _ z; omega
    · subst e
      rw [hak]
      refine ⟨by omega, fun z => ?_, by omega, hat⟩
      have := hlt _ z; omega
    · obtain ⟨c1, c2, c3, c4⟩ := B.cl j e1 e2
      rw [hao j e1 e2, hao _ c1 c2]
      exact ⟨by omega, fun z => c2 ((hm _).mpr (.inl z)), c3, c4⟩
  · rcases old i (by omega) hi with e | e | ⟨e1, e2⟩
    · subst e
      rw [hat] at h1 h2
      rcases old j hj hjn with f | f | ⟨f1, f2⟩
      · omega
      · omega
      · rw [hao j f1 f2] at h2
        have := (B.cl j f1 f2).1
        omega
    · omega
    · rw [hao i e1 e2] at h1 h2
      have c1 := (B.cl i e1 e2).1
      rcases old j hj hjn with f | f | ⟨f1, f2⟩
      · subst f
        exact B.cov i j e1 e2 (by simp) hij h1
      · omega
      · rw [hao j f1 f2] at h2
        exact B.nc i j hij f1 e2 f2 h1 h2
  · have hjt := hlt j hj
    rcases old i hi hin with e | e | ⟨e1, e2⟩
    · omega
    · omega
    · rw [hao i e1 e2] at h2
      exact B.cov i j e1 e2 (by simp [hj]) h1 h2
theorem bld_arcs {n : Nat} {fd : List Nat} (B : Bld (2 * n) (2 * n) fd []) : ArcsL n fd :=
  ⟨B.len, fun k h => (B.cl k h (fun z => nomatch z)).1, fun k h => (B.cl k h (fun z => nomatch z)).2.2.1, fun k h => (B.cl k h (fun z => nomatch z)).2.2.2,
   fun j k a b c d => B.nc j k a b (fun z => nomatch z) (fun z => nomatch z) c d⟩
end Rm

set_option linter.all false
namespace Rm
/-! ## the word of arcs, by code points -/
def wcs (s : List Int) : List Nat := (List.range s.length).map fun k : Nat => if (k : Int) < g s k then 40 else 41
theorem wcs_len (s : List Int) : (wcs s).length = s.length := by simp [wcs]
theorem wcs_get {s : List Int} {k : Nat} (h : k < s.length) : (wcs s)[k]? = some (if (k : Int) < g s k then 40 else 41) := by
  unfold wcs
  rw [List.getElem?_map, List.getElem?_range h]
  rfl
theorem opens_end {s : List Int} (G : Good s) : opens s s.length = [] := by
  rw [List.eq_nil_iff_forall_not_mem]
  intro j hj
  rw [mem_opens] at hj
  have := (G.2.1 j hj.1).2.1
  omega
theorem g_set {s : List Int} {k j : Nat} {t : Int} (h : k < s.length) : g (s.set k t) j = if j = k then t else g s j := by
  unfold g
  rw [List.getD_eq_getElem?_getD, List.getD_eq_getElem?_getD, List.getElem?_set]
  by_cases e : k = j
  · subst e
    simp [h]
  · rw [if_neg e, if_neg (fun z => e z.symm)]
theorem ext_g {s t : List Int} (hl : s.length = t.length) (h : ∀ k : Nat, k < t.length → g s k = g t k) : s = t := by
  apply List.ext_getElem hl
  intro k h1 h2
  have := h k h2
  simpa [g, List.getD_eq_getElem?_getD, h1, h2] using this
/-- what has been read so far -/
def Rd (s : List Int) (i : Nat) (fd : List Int) : Prop := fd.length = s.length ∧ ∀ j : Nat, j < i → g s j < (i : Int) → g fd j = g s j
theorem rd0 (s : List Int) (fd : List Int) (h : fd.length = s.length) : Rd s 0 fd := ⟨h, fun j hj => absurd hj (Nat.not_lt_zero _)⟩
theorem rd_push {s : List Int} {i : Nat} {fd : List Int} (G : Good s) (hi : i < s.length) (h : (i : Int) < g s i) (R : Rd s i fd) : Rd s (i + 1) fd := by
  refine ⟨R.1, fun j hj hg => ?_⟩
  by_cases e : j = i
  · subst e; omega
  · refine R.2 j (by omega) ?_
    have hne : g s j ≠ (i : Int) := fun z => by
      have := okAt_inj (G.2.1 j (by omega)) z
      omega
    omega
theorem rd_pop {s : List Int} {i t : Nat} {fd : List Int} (G : Good s) (hi : i < s.length) (ht : (t : Int) = g s i) (hlt : g s i < (i : Int)) (R : Rd s i fd) : Rd s (i + 1) ((fd.set i (t : Int)).set t (i : Int)) := by
  have hl := R.1
  have hti : t < i := by omega
  refine ⟨by rw [List.length_set, List.length_set]; exact hl, fun j hj hg => ?_⟩
  rw [g_set (by rw [List.length_set]; omega), g_set (by omega)]
  by_cases e : j = t
  · subst e
    rw [if_pos rfl]
    exact (okAt_inj (G.2.1 i hi) ht.symm).symm
  · rw [if_neg e]
    by_cases e2 : j = i
    · subst e2
      rw [if_pos rfl, ht]
    · rw [if_neg e2]
      refine R.2 j (by omega) ?_
      have hne : g s j ≠ (i : Int) := fun z => by
        have := okAt_inj (G.2.1 j (by omega)) z
        omega
      omega
theorem rd_end {s fd : List Int} (G : Good s) (R : Rd s s.length fd) : fd = s := ext_g R.1 fun k hk => R.2 k hk (G.2.1 k hk).2.1
/-- a good list has an even number of places -/
theorem opens_par {s : List Int} (G : Good s) : ∀ k : Nat, k ≤ s.length → (opens s k).length % 2 = k % 2
  | 0, _ => rfl
  | k + 1, h => by
    have ih := opens_par G k (by omega)
    have st := good_stage G k (by omega)
    have ok := G.2.1 k (by omega)
    by_cases e : (k : Int) < g s k
    · rw [opens_push st e, List.length_append, List.length_singleton]
      omega
    · have e5 : g s k < (k : Int) := by have := ok.2.2.1; omega
      obtain ⟨l, t, eo, ht⟩ := good_top G (show k < s.length by omega) e5
      rw [opens_pop st ok e5 eo ht]
      rw [eo, List.length_append, List.length_singleton] at ih
      omega
theorem good_even {s : List Int} (G : Good s) : s.length % 2 = 0 := by
  have h := opens_par G s.length (Nat.le_refl _)
  rw [opens_end G] at h
  simp at h
  omega
end Rm

set_option linter.all false
namespace Rm
/-! ## lists by functions -/
def mkL (m : Nat) (f : Nat → Nat) : List Nat := (List.range m).map f
theorem mkL_len (m : Nat) (f : Nat → Nat) : (mkL m f).length = m := by simp [mkL]
theorem mkL_at {m : Nat} {f : Nat → Nat} {k : Nat} (h : k < m) : at' (mkL m f) k = f k := by
  simp [at', mkL, List.getD_eq_getElem?_getD, h]
theorem mkL_get {m : Nat} {f : Nat → Nat} {k : Nat} (h : k < m) : (mkL m f)[k]? = some (f k) := by simp [mkL, h]
theorem ext_at {a b : List Nat} (hl : a.length = b.length) (h : ∀ k, k < b.length → at' a k = at' b k) : a = b := by
  apply List.ext_getElem hl
  intro k h1 h2
  have := h k h2
  simpa [at', List.getD_eq_getElem?_getD, h1, h2] using this
theorem Arcs.congr {m : Nat} {f f' : Nat → Nat} (A : Arcs m f) (h : ∀ k, k < m → f' k = f k) : Arcs m f' where
  lt := fun k hk => by rw [h k hk]; exact A.lt k hk
  ne := fun k hk => by rw [h k hk]; exact A.ne k hk
  inv := fun k hk => by rw [h k hk, h _ (A.lt k hk)]; exact A.inv k hk
  nc := fun j k h1 h2 h3 h4 => by
    rw [h j (by omega)] at h3 h4
    rw [h k h2] at h4
    exact A.nc j k h1 h2 h3 h4
theorem mkL_arcs {n : Nat} {f : Nat → Nat} (A : Arcs (2 * n) f) : ArcsL n (mkL (2 * n) f) :=
  ⟨mkL_len _ _, A.congr fun k hk => mkL_at hk⟩
/-! ## turned -/
def phi (m b x : Nat) : Nat := if x < b then x + m - b else x - b
def psi (m b y : Nat) : Nat := if y + b < m then y + b else y + b - m
def rotF (m b : Nat) (f : Nat → Nat) (k : Nat) : Nat := psi m b (f (phi m b k))
theorem phi_lt {m b x : Nat} (hb : b < m) (h : x < m) : phi m b x < m := by unfold phi; split <;> omega
theorem psi_lt {m b x : Nat} (hb : b < m) (h : x < m) : psi m b x < m := by unfold psi; split <;> omega
theorem phi_psi {m b x : Nat} (hb : b < m) (h : x < m) : phi m b (psi m b x) = x := by unfold psi phi; split <;> split <;> omega
theorem psi_phi {m b x : Nat} (hb : b < m) (h : x < m) : psi m b (phi m b x) = x := by unfold phi psi; split <;> split <;> omega
theorem rot_arcs {m b : Nat} {f : Nat → Nat} (A : Arcs m f) (hb : b < m) : Arcs m (rotF m b f) := by
  have hp : ∀ k, k < m → phi m b (rotF m b f k) = f (phi m b k) := fun k hk => phi_psi hb (A.lt _ (phi_lt hb hk))
  refine ⟨fun k hk => psi_lt hb (A.lt _ (phi_lt hb hk)), fun k hk e => ?_, fun k hk => ?_, fun j k hjk hk h1 h2 => ?_⟩
  · have := hp k hk
    rw [e] at this
    exact A.ne _ (phi_lt hb hk) this.symm
  · show psi m b (f (phi m b (rotF m b f k))) = k
    rw [hp k hk, A.inv _ (phi_lt hb hk), psi_phi hb hk]
  · have hj : j < m := by omega
    have pj := hp j hj
    have pk := hp k hk
    have lj := phi_lt hb hj
    have lk := phi_lt hb hk
    have fj := A.lt _ lj
    have fk := A.lt _ lk
    have ij := A.inv _ lj
    have ik := A.inv _ lk
    have lfj : rotF m b f j < m := psi_lt hb (A.lt _ lj)
    have lfk : rotF m b f k < m := psi_lt hb (A.lt _ lk)
    have n1 := A.nc (phi m b j) (phi m b k)
    have n2 := A.nc (phi m b k) (f (phi m b j))
    have n3 := A.nc (f (phi m b j)) (f (phi m b k))
    have n4 := A.nc (f (phi m b k)) (phi m b j)
    rw [ij] at n2 n3
    rw [ik] at n3 n4
    rw [← pj, ← pk] at n1 n2 n3 n4
    rw [← pj] at fj
    rw [← pk] at fk
    generalize rotF m b f j = x at *
    generalize rotF m b f k = y at *
    unfold phi at *
    have : (x < b ∨ b ≤ x) ∧ (y < b ∨ b ≤ y) ∧ (j < b ∨ b ≤ j) ∧ (k < b ∨ b ≤ k) := by omega
    obtain ⟨c1, c2, c3, c4⟩ := this
    rcases c1 with c1 | c1 <;> rcases c2 with c2 | c2 <;> rcases c3 with c3 | c3 <;> rcases c4 with c4 | c4 <;>
      first
        | omega
        | (simp only [c1, c2, c3, c4, if_true, if_false, Nat.not_lt.mpr c1, Nat.not_lt.mpr c2, Nat.not_lt.mpr c3, Nat.not_lt.mpr c4] at n1 n2 n3 n4; first | exact n1 (by omega) (by omega) (by omega) (by omega) | exact n2 (by omega) (by omega) (by omega) (by omega) | exact n3 (by omega) (by omega) (by omega) (by omega) | exact n4 (by omega) (by omega) (by omega) (by omega))
/-! ## mirrored -/
def mirF (m : Nat) (f : Nat → Nat) (k : Nat) : Nat := m - 1 - f (m - 1 - k)
theorem mir_arcs {m : Nat} {f : Nat → Nat} (A : Arcs m f) : Arcs m (mirF m f) := by
  refine ⟨fun k hk => by unfold mirF; omega, fun k hk e => ?_, fun k hk => ?_, fun j k hjk hk h1 h2 => ?_⟩
  · have h1 := A.lt (m - 1 - k) (by omega)
    have h2 := A.ne (m - 1 - k) (by omega)
    unfold mirF at e
    omega
  · have h1 := A.lt (m - 1 - k) (by omega)
    have h3 := A.inv (m - 1 - k) (by omega)
    unfold mirF
    rw [show m - 1 - (m - 1 - f (m - 1 - k)) = f (m - 1 - k) by omega, h3]
    omega
  · have a1 := A.lt (m - 1 - j) (by omega)
    have a2 := A.lt (m - 1 - k) (by omega)
    have a3 := A.inv (m - 1 - j) (by omega)
    have a4 := A.inv (m - 1 - k) (by omega)
    unfold mirF at h1 h2
    refine A.nc (f (m - 1 - k)) (f (m - 1 - j)) (by omega) (by omega) (by omega) (by omega)
/-! ## side by side, covered -/
def sideF (m : Nat) (f f2 : Nat → Nat) (k : Nat) : Nat := if k < m then f k else m + f2 (k - m)
theorem side_arcs {m m2 : Nat} {f f2 : Nat → Nat} (A : Arcs m f) (B : Arcs m2 f2) : Arcs (m + m2) (sideF m f f2) := by
  refine ⟨fun k hk => ?_, fun k hk => ?_, fun k hk => ?_, fun j k hjk hk h1 h2 => ?_⟩
  · unfold sideF
    split
    · have := A.lt k (by omega); omega
    · have := B.lt (k - m) (by omega); omega
  · unfold sideF
    split
    · exact A.ne k (by omega)
    · have := B.ne (k - m) (by omega); omega
  · unfold sideF
    by_cases h : k < m
    · rw [if_pos h, if_pos (A.lt k h), A.inv k h]
    · rw [if_neg h, if_neg (by omega), show m + f2 (k - m) - m = f2 (k - m) by omega, B.inv (k - m) (by omega)]
      omega
  · unfold sideF at h1 h2
    by_cases hj : j < m
    · have a := A.lt j hj
      rw [if_pos hj] at h1 h2
      by_cases hk2 : k < m
      · rw [if_pos hk2] at h2
        exact A.nc j k hjk hk2 h1 h2
      · omega
    · rw [if_neg hj] at h1 h2
      rw [if_neg (by omega)] at h2
      exact B.nc (j - m) (k - m) (by omega) (by omega) (by omega) (by omega)
def overF (m : Nat) (f : Nat → Nat) (k : Nat) : Nat := if k = 0 then m + 1 else if k = m + 1 then 0 else f (k - 1) + 1
theorem over_arcs {m : Nat} {f : Nat → Nat} (A : Arcs m f) : Arcs (m + 2) (overF m f) := by
  have mid : ∀ k, k ≠ 0 → k < m + 1 → overF m f k = f (k - 1) + 1 := fun k h1 h2 => by
    unfold overF
    rw [if_neg h1, if_neg (by omega)]
  have z0 : overF m f 0 = m + 1 := rfl
  have z1 : overF m f (m + 1) = 0 := by unfold overF; rw [if_neg (by omega), if_pos rfl]
  have cs : ∀ k, k < m + 2 → k = 0 ∨ k = m + 1 ∨ (k ≠ 0 ∧ k < m + 1) := fun k h => by omega
  refine ⟨fun k hk => ?_, fun k hk => ?_, fun k hk => ?_, fun j k hjk hk h1 h2 => ?_⟩
  · rcases cs k hk with e | e | ⟨e1, e2⟩
    · subst e; rw [z0]; omega
    · subst e; rw [z1]; omega
    · rw [mid k e1 e2]; have := A.lt (k - 1) (by omega); omega
  · rcases cs k hk with e | e | ⟨e1, e2⟩
    · subst e; rw [z0]; omega
    · subst e; rw [z1]; omega
    · rw [mid k e1 e2]; have := A.ne (k - 1) (by omega); omega
  · rcases cs k hk with e | e | ⟨e1, e2⟩
    · subst e; rw [z0, z1]
    · subst e; rw [z1, z0]
    · have := A.lt (k - 1) (by omega)
      rw [mid k e1 e2, mid _ (by omega) (by omega), show f (k - 1) + 1 - 1 = f (k - 1) by omega, A.inv (k - 1) (by omega)]
      omega
  · have hk0 : k ≠ 0 := by omega
    by_cases hk1 : k = m + 1
    · subst hk1; rw [z1] at h2; omega
    · rw [mid k hk0 (by omega)] at h2
      by_cases hj : j = 0
      · subst hj; rw [z0] at h2; have := A.lt (k - 1) (by omega); omega
      · rw [mid j hj (by omega)] at h1 h2
        exact A.nc (j - 1) (k - 1) (by omega) (by omega) (by omega) (by omega)
/-! ## sums by the remainder -/
theorem mod_add {m : Nat} {by' : Int} {k : Nat} (hk : k < m) : ((k : Int) + by').fmod (m : Int) = ((psi m (by' % (m : Int)).toNat k : Nat) : Int) := by
  have hm : (0 : Int) < m := by omega
  rw [Int.fmod_eq_emod_of_nonneg _ (by omega)]
  have h0 := Int.emod_nonneg by' (show (m : Int) ≠ 0 by omega)
  have h1 := Int.emod_lt_of_pos by' hm
  have e : ((k : Int) + by') % (m : Int) = ((k : Int) + by' % (m : Int)) % (m : Int) := by rw [Int.add_emod, Int.add_emod (k : Int) (by' % (m : Int)), Int.emod_emod]
  rw [e]
  generalize hr : by' % (m : Int) = r at *
  unfold psi
  by_cases c : (k : Int) + r < m
  · rw [Int.emod_eq_of_lt (by omega) c, if_pos (by omega)]
    omega
  · rw [if_neg (by omega)]
    have : ((k : Int) + r) % (m : Int) = ((k : Int) + r - m) % (m : Int) := by
      rw [Int.sub_emod_right]
    rw [this, Int.emod_eq_of_lt (by omega) (by omega)]
    omega
theorem mod_sub {m : Nat} {by' : Int} {k : Nat} (hk : k < m) : ((k : Int) - by').fmod (m : Int) = ((phi m (by' % (m : Int)).toNat k : Nat) : Int) := by
  have hm : (0 : Int) < m := by omega
  rw [Int.fmod_eq_emod_of_nonneg _ (by omega)]
  have h0 := Int.emod_nonneg by' (show (m : Int) ≠ 0 by omega)
  have h1 := Int.emod_lt_of_pos by' hm
  have e : ((k : Int) - by') % (m : Int) = ((k : Int) - by' % (m : Int)) % (m : Int) := by rw [Int.sub_emod, Int.sub_emod (k : Int) (by' % (m : Int)), Int.emod_emod]
  rw [e]
  generalize hr : by' % (m : Int) = r at *
  unfold phi
  by_cases c : r ≤ (k : Int)
  · rw [Int.emod_eq_of_lt (by omega) (by omega), if_neg (by omega)]
    omega
  · rw [if_pos (by omega)]
    have : ((k : Int) - r) % (m : Int) = ((k : Int) - r + m) % (m : Int) := by
      rw [Int.add_emod_right]
    rw [this, Int.emod_eq_of_lt (by omega) (by omega)]
    omega
def rotB (m : Nat) (by' : Int) : Nat := (by' % (m : Int)).toNat
theorem rotB_lt {m : Nat} (by' : Int) (h : 0 < m) : rotB m by' < m := by
  have h0 := Int.emod_nonneg by' (show (m : Int) ≠ 0 by omega)
  have h1 := Int.emod_lt_of_pos by' (show (0 : Int) < m by omega)
  unfold rotB; omega
end Rm

set_option linter.all false
namespace Rm
/-! ## lists without a number twice -/
theorem nodup_len : ∀ (M : Nat) (l : List Nat), l.Nodup → (∀ x, x ∈ l → x < M) → l.length ≤ M
  | 0, l, _, h => by
    cases l with
    | nil => exact Nat.le_refl _
    | cons x r => exact absurd (h x (by simp)) (Nat.not_lt_zero _)
  | M + 1, l, hn, h => by
    by_cases c : M ∈ l
    · have h1 := nodup_len M (l.erase M) (hn.erase M) (fun x hx => by
        have h2 := (List.Nodup.mem_erase_iff hn).mp hx
        have h3 := h x h2.2
        have h4 := h2.1
        omega)
      rw [List.length_erase_of_mem c] at h1
      omega
    · have h1 := nodup_len M l hn (fun x hx => by
        have h3 := h x hx
        have : x ≠ M := fun e => c (e ▸ hx)
        omega)
      omega
theorem nodup_sub_len : ∀ {l k : List Nat}, l.Nodup → (∀ x, x ∈ l → x ∈ k) → l.length ≤ k.length
  | [], _, _, _ => Nat.zero_le _
  | x :: r, k, hn, h => by
    have h2 := List.nodup_cons.mp hn
    have hx := h x (by simp)
    have ih := nodup_sub_len (l := r) (k := k.erase x) h2.2 (fun y hy => (List.mem_erase_of_ne (show y ≠ x from fun e => h2.1 (by rw [← e]; exact hy))).mpr (h y (by simp [hy])))
    rw [List.length_erase_of_mem hx] at ih
    have : 0 < k.length := List.length_pos_of_mem hx
    rw [List.length_cons]
    omega
theorem nodup_full {M : Nat} {l : List Nat} (hn : l.Nodup) (h : ∀ x, x ∈ l → x < M) (hl : M ≤ l.length) {y : Nat} (hy : y < M) : y ∈ l := by
  by_cases c : y ∈ l
  · exact c
  · have h1 := nodup_len M (y :: l) (List.nodup_cons.mpr ⟨c, hn⟩) (fun x hx => by
      rcases List.mem_cons.mp hx with e | e
      · omega
      · exact h x e)
    rw [List.length_cons] at h1
    omega
theorem nodup_snoc2 {l : List Nat} {x y : Nat} (hn : l.Nodup) (hx : x ∉ l) (hy : y ∉ l) (hne : x ≠ y) : (l ++ [x, y]).Nodup := by
  rw [List.nodup_append]
  refine ⟨hn, by simp [hne], fun a ha b hb => ?_⟩
  simp at hb
  rcases hb with rfl | rfl
  · exact fun e => hx (e ▸ ha)
  · exact fun e => hy (e ▸ ha)
theorem eraseIdx_filter : ∀ (l : List Nat) (j k : Nat), l.Nodup → l[j]? = some k → l.eraseIdx j = l.filter (fun x => decide (x ≠ k))
  | [], j, k, _, h => by simp at h
  | x :: r, 0, k, hn, h => by
    have e : x = k := Option.some.inj h
    subst e
    have hx := (List.nodup_cons.mp hn).1
    rw [List.eraseIdx_cons_zero, List.filter_cons_of_neg (by simp)]
    exact (List.filter_eq_self.mpr fun a ha => decide_eq_true (show a ≠ x from fun e => hx (e ▸ ha))).symm
  | x :: r, j + 1, k, hn, h => by
    have h2 := List.nodup_cons.mp hn
    have ih := eraseIdx_filter r j k h2.2 h
    have hk : k ∈ r := List.mem_of_getElem? h
    have hne : x ≠ k := fun e => h2.1 (e ▸ hk)
    rw [List.eraseIdx_cons_succ, List.filter_cons_of_pos (by simp [hne]), ih]
/-! ## roads -/
/-- fixed-point-free turn on the places below M that leaves them below M -/
structure Inv2 (M : Nat) (a : Nat → Nat) : Prop where
  lt : ∀ k, k < M → a k < M
  ne : ∀ k, k < M → a k ≠ k
  inv : ∀ k, k < M → a (a k) = k
theorem Arcs.inv2 {M : Nat} {a : Nat → Nat} (A : Arcs M a) : Inv2 M a := ⟨A.lt, A.ne, A.inv⟩
def walk (a b : Nat → Nat) : Nat → List Nat → Nat → List Nat → List Nat
  | 0, _, _, road => road
  | f + 1, s, x, road => if x ∈ s ++ road then road else walk a b f s (b (a x)) (road ++ [x, a x])
def stepR (a b : Nat → Nat) (M : Nat) (s0 : List Nat) (F : List (List Nat)) (x : Nat) : List (List Nat) :=
  if x ∈ s0 ++ F.flatten then F else F ++ [walk a b M (s0 ++ F.flatten) x []]
def goR (a b : Nat → Nat) (M : Nat) (s0 : List Nat) (i : Nat) : List (List Nat) := (List.range i).foldl (stepR a b M s0) []
def roadsM (a b : Nat → Nat) (M : Nat) : List (List Nat) := goR a b M [] M
theorem goR_zero (a b : Nat → Nat) (M : Nat) (s0 : List Nat) : goR a b M s0 0 = [] := rfl
theorem goR_succ (a b : Nat → Nat) (M : Nat) (s0 : List Nat) (i : Nat) : goR a b M s0 (i + 1) = stepR a b M s0 (goR a b M s0 i) i := by
  unfold goR
  rw [List.range_succ, List.foldl_append]
  rfl
/-- what is seen: no place twice, all below M, with a place its arc's other end -/
structure Seen (a : Nat → Nat) (M : Nat) (l : List Nat) : Prop where
  nd : l.Nodup
  lt : ∀ x, x ∈ l → x < M
  cl : ∀ x, x ∈ l → a x ∈ l
theorem Seen.push {a : Nat → Nat} {M : Nat} {l : List Nat} (S : Seen a M l) (A : Inv2 M a) {x : Nat} (hx : x < M) (hn : x ∉ l) : a x ∉ l ∧ Seen a M (l ++ [x, a x]) := by
  have h2 : a x ∉ l := fun h => hn (by
    have := S.cl _ h
    rw [A.inv x hx] at this
    exact this)
  refine ⟨h2, nodup_snoc2 S.nd hn h2 (fun e => A.ne x hx e.symm), fun y hy => ?_, fun y hy => ?_⟩
  · rcases List.mem_append.mp hy with h | h
    · exact S.lt y h
    · simp at h
      rcases h with rfl | rfl
      · exact hx
      · exact A.lt x hx
  · rcases List.mem_append.mp hy with h | h
    · exact List.mem_append.mpr (.inl (S.cl y h))
    · simp at h
      rcases h with rfl | rfl
      · simp
      · rw [A.inv x hx]; simp
theorem walk_stop {a b : Nat → Nat} {f : Nat} {s road : List Nat} {x : Nat} (h : x ∈ s ++ road) : walk a b f s x road = road := by
  cases f with
  | zero => rfl
  | succ f => exact if_pos h
theorem walk_go {a b : Nat → Nat} {f : Nat} {s road : List Nat} {x : Nat} (h : x ∉ s ++ road) : walk a b (f + 1) s x road = walk a b f s (b (a x)) (road ++ [x, a x]) := if_neg h
/-- the fuel does not run out -/
theorem fuel_pos {a : Nat → Nat} {M f : Nat} {s road : List Nat} {x : Nat} (S : Seen a M (s ++ road)) (hx : x < M) (hn : x ∉ s ++ road) (hf : M ≤ f + (s ++ road).length) : ∃ f', f = f' + 1 := by
  cases f with
  | zero => exact absurd (nodup_full S.nd S.lt (by omega) hx) hn
  | succ f => exact ⟨f, rfl⟩
theorem walk_seen {a b : Nat → Nat} {M : Nat} (A : Inv2 M a) (hb : ∀ k, k < M → b k < M) : ∀ (f : Nat) (s road : List Nat) (x : Nat), Seen a M (s ++ road) → x < M → Seen a M (s ++ walk a b f s x road)
  | 0, _, _, _, S, _ => S
  | f + 1, s, road, x, S, hx => by
    by_cases h : x ∈ s ++ road
    · rw [walk_stop h]; exact S
    · rw [walk_go h]
      refine walk_seen A hb f s (road ++ [x, a x]) (b (a x)) ?_ (hb _ (A.lt x hx))
      rw [← List.append_assoc]
      exact (S.push A hx h).2
theorem walk_pre {a b : Nat → Nat} : ∀ (f : Nat) (s road : List Nat) (x : Nat), ∃ r, walk a b f s x road = road ++ r
  | 0, _, road, _ => ⟨[], (List.append_nil road).symm⟩
  | f + 1, s, road, x => by
    by_cases h : x ∈ s ++ road
    · rw [walk_stop h]; exact ⟨[], (List.append_nil road).symm⟩
    · rw [walk_go h]
      obtain ⟨r, e⟩ := walk_pre f s (road ++ [x, a x]) (b (a x))
      exact ⟨[x, a x] ++ r, by rw [e, List.append_assoc]⟩
theorem walk_first {a b : Nat → Nat} {M : Nat} {s : List Nat} {x : Nat} (hM : 0 < M) (h : x ∉ s) : ∃ r, walk a b M s x [] = x :: a x :: r := by
  obtain ⟨f, rfl⟩ : ∃ f, M = f + 1 := ⟨M - 1, by omega⟩
  rw [walk_go (by simpa using h)]
  obtain ⟨r, e⟩ := walk_pre f s ([] ++ [x, a x]) (b (a x))
  exact ⟨r, by rw [e]; rfl⟩
theorem flatten_snoc (F : List (List Nat)) (r : List Nat) : (F ++ [r]).flatten = F.flatten ++ r := by simp
theorem goR_seen {a b : Nat → Nat} {M : Nat} {s0 : List Nat} (A : Inv2 M a) (hb : ∀ k, k < M → b k < M) (S0 : Seen a M s0) : ∀ i, i ≤ M → Seen a M (s0 ++ (goR a b M s0 i).flatten)
  | 0, _ => by rw [goR_zero]; simpa using S0
  | i + 1, h => by
    have ih := goR_seen A hb S0 i (by omega)
    rw [goR_succ]
    unfold stepR
    split
    · exact ih
    · rw [flatten_snoc, ← List.append_assoc]
      exact walk_seen A hb M _ [] i (by rw [List.append_nil]; exact ih) (by omega)
theorem goR_mem {a b : Nat → Nat} {M : Nat} {s0 : List Nat} : ∀ i, i ≤ M → ∀ x, x < i → x ∈ s0 ++ (goR a b M s0 i).flatten
  | 0, _, x, hx => absurd hx (Nat.not_lt_zero _)
  | i + 1, h, x, hx => by
    have ih := goR_mem (a := a) (b := b) (M := M) (s0 := s0) i (by omega) x
    rw [goR_succ]
    unfold stepR
    split
    · rename_i hm
      by_cases e : x = i
      · rw [e]; exact hm
      · exact ih (by omega)
    · rename_i hm
      rw [flatten_snoc, ← List.append_assoc]
      by_cases e : x = i
      · subst e
        obtain ⟨r, er⟩ := walk_first (a := a) (b := b) (M := M) (show 0 < M by omega) hm
        rw [er]
        simp
      · exact List.mem_append.mpr (.inl (ih (by omega)))
/-- places that are seen are passed over -/
theorem goR_skip {a b : Nat → Nat} {M : Nat} {s0 : List Nat} {i : Nat} : ∀ j, i ≤ j → (∀ x, i ≤ x → x < j → x ∈ s0 ++ (goR a b M s0 i).flatten) → goR a b M s0 j = goR a b M s0 i
  | 0, h, _ => by
    have : i = 0 := by omega
    rw [this]
  | j + 1, h, hx => by
    by_cases e : i = j + 1
    · rw [e]
    · have ih := goR_skip (a := a) (b := b) (M := M) (s0 := s0) (i := i) j (by omega) (fun x h1 h2 => hx x h1 (by omega))
      rw [goR_succ, ih]
      unfold stepR
      rw [if_pos (hx j (by omega) (by omega))]
/-- what is left, in its order -/
def leftL (M : Nat) (s : List Nat) : List Nat := (List.range M).filter (fun x => decide (x ∉ s))
theorem mem_left {M : Nat} {s : List Nat} {x : Nat} : x ∈ leftL M s ↔ x < M ∧ x ∉ s := by simp [leftL]
theorem left_nodup (M : Nat) (s : List Nat) : (leftL M s).Nodup := List.Pairwise.filter _ List.nodup_range
theorem left_len (M : Nat) (s : List Nat) : (leftL M s).length ≤ M := by
  have h := List.length_filter_le (fun x : Nat => decide (x ∉ s)) (List.range M)
  rw [List.length_range] at h
  exact h
theorem left_drop {M : Nat} {s : List Nat} {x : Nat} : (leftL M s).filter (fun y => decide (y ≠ x)) = leftL M (s ++ [x]) := by
  unfold leftL
  rw [List.filter_filter]
  apply List.filter_congr
  intro y _
  simp [and_comm]
theorem left_head {M : Nat} {s : List Nat} {x : Nat} {r : List Nat} (h : leftL M s = x :: r) : x < M ∧ x ∉ s ∧ ∀ y, y < x → y ∈ s := by
  have h1 : x ∈ leftL M s := by rw [h]; simp
  rw [mem_left] at h1
  refine ⟨h1.1, h1.2, fun y hy => ?_⟩
  by_cases c : y ∈ s
  · exact c
  · have h2 : y ∈ leftL M s := mem_left.mpr ⟨by omega, c⟩
    have hs : (leftL M s).Pairwise (· < ·) := List.Pairwise.filter _ List.pairwise_lt_range
    rw [h] at h2 hs
    rcases List.mem_cons.mp h2 with e | e
    · omega
    · have := (List.pairwise_cons.mp hs).1 y e
      omega
theorem left_nil {M : Nat} {s : List Nat} (h : leftL M s = []) : ∀ y, y < M → y ∈ s := fun y hy => by
  by_cases c : y ∈ s
  · exact c
  · have h2 : y ∈ leftL M s := mem_left.mpr ⟨hy, c⟩
    rw [h] at h2
    cases h2
end Rm
namespace Rm
theorem goR_len {a b : Nat → Nat} {M : Nat} {s0 : List Nat} : ∀ i, i ≤ M → (goR a b M s0 i).length ≤ i
  | 0, _ => Nat.le_refl _
  | i + 1, h => by
    have ih := goR_len (a := a) (b := b) (M := M) (s0 := s0) i (by omega)
    rw [goR_succ]
    unfold stepR
    split
    · omega
    · rw [List.length_append, List.length_singleton]; omega
end Rm
namespace Rm
theorem left_lt {M : Nat} {s r : List Nat} {x : Nat} (hx : x < M) (hn : x ∉ s) (hr : x ∈ r) : (leftL M (s ++ r)).length < (leftL M s).length := by
  have hsub : ∀ y, y ∈ x :: leftL M (s ++ r) → y ∈ leftL M s := fun y hy => by
    rcases List.mem_cons.mp hy with e | e
    · rw [e]; exact mem_left.mpr ⟨hx, hn⟩
    · have h2 := mem_left.mp e
      exact mem_left.mpr ⟨h2.1, fun z => h2.2 (List.mem_append.mpr (.inl z))⟩
  have hnd : (x :: leftL M (s ++ r)).Nodup := List.nodup_cons.mpr ⟨fun h => (mem_left.mp h).2 (List.mem_append.mpr (.inr hr)), left_nodup _ _⟩
  have := nodup_sub_len hnd hsub
  rw [List.length_cons] at this
  omega
end Rm
namespace Rm
theorem roads_ne {a b : Nat → Nat} {M : Nat} (h : 0 < M) : roadsM a b M ≠ [] := fun e => by
  have := goR_mem (a := a) (b := b) (M := M) (s0 := []) M (Nat.le_refl _) 0 h
  unfold roadsM at e
  rw [e] at this
  simp at this
theorem road_len {a b : Nat → Nat} {M : Nat} (A : Inv2 M a) (hb : ∀ k, k < M → b k < M) {r : List Nat} (hr : r ∈ roadsM a b M) : r.length ≤ M := by
  have S := goR_seen (s0 := []) A hb ⟨.nil, by simp, by simp⟩ M (Nat.le_refl _)
  rw [List.nil_append] at S
  have h1 : ∀ x, x ∈ r → x < M := fun x hx => S.lt x (List.mem_flatten.mpr ⟨r, hr, hx⟩)
  have h2 : r.Nodup := (List.sublist_flatten_of_mem hr).nodup S.nd
  exact nodup_len M r h2 h1
end Rm

set_option linter.all false
namespace Rm
/-! ## what is joined, and how many parts there are -/
inductive Conn (R : Nat → Nat → Prop) : Nat → Nat → Prop
  | refl (x : Nat) : Conn R x x
  | step {x y z : Nat} : R x y → Conn R y z → Conn R x z
  | back {x y z : Nat} : R y x → Conn R y z → Conn R x z
theorem Conn.trans {R : Nat → Nat → Prop} {x y z : Nat} (h : Conn R x y) (k : Conn R y z) : Conn R x z := by
  induction h with
  | refl x => exact k
  | step r _ ih => exact .step r (ih k)
  | back r _ ih => exact .back r (ih k)
theorem Conn.one {R : Nat → Nat → Prop} {x y : Nat} (h : R x y) : Conn R x y := .step h (.refl y)
theorem Conn.symm {R : Nat → Nat → Prop} {x y : Nat} (h : Conn R x y) : Conn R y x := by
  induction h with
  | refl x => exact .refl x
  | step r _ ih => exact ih.trans (.back r (.refl _))
  | back r _ ih => exact ih.trans (.step r (.refl _))
theorem Conn.mono {R R' : Nat → Nat → Prop} {x y : Nat} (h : Conn R x y) (k : ∀ u v, R u v → Conn R' u v) : Conn R' x y := by
  induction h with
  | refl x => exact .refl x
  | step r _ ih => exact (k _ _ r).trans ih
  | back r _ ih => exact (k _ _ r).symm.trans ih
/-- a set that no step leaves -/
theorem Conn.stays {R : Nat → Nat → Prop} {C : Nat → Prop} {x y : Nat} (h : Conn R x y) (k : ∀ u v, C u → (R u v ∨ R v u) → C v) (hx : C x) : C y := by
  induction h with
  | refl x => exact hx
  | step r _ ih => exact ih (k _ _ hx (.inl r))
  | back r _ ih => exact ih (k _ _ hx (.inr r))
def Comp (V : Nat → Prop) (R : Nat → Nat → Prop) (c : Nat) : Prop :=
  ∃ f : Nat → Nat, (∀ v, V v → f v < c) ∧ (∀ i, i < c → ∃ v, V v ∧ f v = i) ∧ ∀ u v, V u → V v → (f u = f v ↔ Conn R u v)
/-- one to one into fewer is not -/
theorem inj_le {c d : Nat} (h : Nat → Nat) (hl : ∀ i, i < c → h i < d) (hi : ∀ i j, i < c → j < c → h i = h j → i = j) : c ≤ d := by
  have hn : ((List.range c).map h).Nodup := by
    rw [List.Nodup, List.pairwise_map]
    refine List.Pairwise.imp_of_mem ?_ List.pairwise_lt_range
    intro a b ha hb hab e
    rw [List.mem_range] at ha hb
    have := hi a b ha hb e
    omega
  have h2 := nodup_len d _ hn (fun x hx => by
    obtain ⟨i, hi2, rfl⟩ := List.mem_map.mp hx
    exact hl i (List.mem_range.mp hi2))
  rw [List.length_map, List.length_range] at h2
  exact h2
theorem Comp.le {V : Nat → Prop} {R : Nat → Nat → Prop} {c d : Nat} (h : Comp V R c) (k : Comp V R d) : c ≤ d := by
  obtain ⟨f, f1, f2, f3⟩ := h
  obtain ⟨g, g1, g2, g3⟩ := k
  have hr : ∀ i, ∃ v, i < c → V v ∧ f v = i := fun i => by
    by_cases q : i < c
    · obtain ⟨v, hv⟩ := f2 i q
      exact ⟨v, fun _ => hv⟩
    · exact ⟨0, fun z => absurd z q⟩
  have hch : ∃ r : Nat → Nat, ∀ i, i < c → V (r i) ∧ f (r i) = i := ⟨fun i => Classical.choose (hr i), fun i => Classical.choose_spec (hr i)⟩
  obtain ⟨r, hr⟩ := hch
  refine inj_le (fun i => g (r i)) (fun i hi => g1 _ (hr i hi).1) (fun i j hi hj e => ?_)
  have h1 := (g3 _ _ (hr i hi).1 (hr j hj).1).mp e
  have h2 := (f3 _ _ (hr i hi).1 (hr j hj).1).mpr h1
  rw [(hr i hi).2, (hr j hj).2] at h2
  exact h2
theorem Comp.unique {V : Nat → Prop} {R : Nat → Nat → Prop} {c d : Nat} (h : Comp V R c) (k : Comp V R d) : c = d := Nat.le_antisymm (h.le k) (k.le h)
/-- parts by a list of them -/
theorem comp_of_list {V : Nat → Prop} {R : Nat → Nat → Prop} (L : List (List Nat)) (nd : L.flatten.Nodup) (hV : ∀ v, V v ↔ v ∈ L.flatten) (ne : ∀ r, r ∈ L → r ≠ [])
    (cl : ∀ r, r ∈ L → ∀ x y, x ∈ r → (R x y ∨ R y x) → y ∈ r) (cn : ∀ r, r ∈ L → ∀ x y, x ∈ r → y ∈ r → Conn R x y) : Comp V R L.length := by
  have dis : ∀ i j x, ∀ (hi : i < L.length) (hj : j < L.length), x ∈ L[i] → x ∈ L[j] → i = j := by
    have h2 := (List.pairwise_flatten.mp nd).2
    intro i j x hi hj h1 h3
    rcases Nat.lt_trichotomy i j with c | c | c
    · exact absurd rfl (List.pairwise_iff_getElem.mp h2 i j hi hj c x h1 x h3)
    · exact c
    · exact absurd rfl (List.pairwise_iff_getElem.mp h2 j i hj hi c x h3 x h1)
  have at_ : ∀ v, V v → ∃ i, ∃ hi : i < L.length, v ∈ L[i] := fun v hv => by
    obtain ⟨r, hr, hvr⟩ := List.mem_flatten.mp ((hV v).mp hv)
    obtain ⟨i, hi, e⟩ := List.mem_iff_getElem.mp hr
    exact ⟨i, hi, by rw [e]; exact hvr⟩
  have hex : ∃ f : Nat → Nat, ∀ v, V v → ∃ hi : f v < L.length, v ∈ L[f v] := by
    have : ∀ v, ∃ i, V v → ∃ hi : i < L.length, v ∈ L[i] := fun v => by
      by_cases q : V v
      · obtain ⟨i, h⟩ := at_ v q
        exact ⟨i, fun _ => h⟩
      · exact ⟨0, fun z => absurd z q⟩
    exact ⟨fun v => Classical.choose (this v), fun v => Classical.choose_spec (this v)⟩
  obtain ⟨f, hf⟩ := hex
  refine ⟨f, fun v hv => (hf v hv).1, fun i hi => ?_, fun u v hu hv => ⟨fun e => ?_, fun h => ?_⟩⟩
  · have hne := ne L[i] (List.getElem_mem hi)
    obtain ⟨x, r, e⟩ : ∃ x r, L[i] = x :: r := by
      cases h : L[i] with
      | nil => exact absurd h hne
      | cons x r => exact ⟨x, r, rfl⟩
    have hx : x ∈ L[i] := by rw [e]; simp
    have hv : V x := (hV x).mpr (List.mem_flatten.mpr ⟨_, List.getElem_mem hi, hx⟩)
    obtain ⟨h1, h2⟩ := hf x hv
    exact ⟨x, hv, dis _ _ x h1 hi h2 hx⟩
  · obtain ⟨h1, h2⟩ := hf u hu
    obtain ⟨h3, h4⟩ := hf v hv
    have h5 : v ∈ L[f u] := by simpa [e] using h4
    exact cn _ (List.getElem_mem h1) u v h2 h5
  · obtain ⟨h1, h2⟩ := hf u hu
    obtain ⟨h3, h4⟩ := hf v hv
    have h5 : v ∈ L[f u] := h.stays (C := fun x => x ∈ L[f u]) (fun x y hx hr => cl _ (List.getElem_mem h1) x y hx hr) h2
    exact dis _ _ v h1 h3 h5 h4
theorem conn_map {V : Nat → Prop} {R R' : Nat → Nat → Prop} (φ : Nat → Nat) (hR : ∀ x y, V x → (R x y ∨ R y x) → V y ∧ Conn R' (φ x) (φ y)) {u v : Nat} (h : Conn R u v) (hu : V u) : V v ∧ Conn R' (φ u) (φ v) := by
  induction h with
  | refl x => exact ⟨hu, .refl _⟩
  | step r _ ih =>
    have h1 := hR _ _ hu (.inl r)
    have h2 := ih h1.1
    exact ⟨h2.1, h1.2.trans h2.2⟩
  | back r _ ih =>
    have h1 := hR _ _ hu (.inr r)
    have h2 := ih h1.1
    exact ⟨h2.1, h1.2.trans h2.2⟩
theorem comp_map {V V' : Nat → Prop} {R R' : Nat → Nat → Prop} {c : Nat} (φ ψ : Nat → Nat) (hφ : ∀ v, V v → V' (φ v)) (hψ : ∀ w, V' w → V (ψ w)) (h1 : ∀ v, V v → ψ (φ v) = v) (h2 : ∀ w, V' w → φ (ψ w) = w)
    (hR : ∀ x y, V x → (R x y ∨ R y x) → V y ∧ Conn R' (φ x) (φ y)) (hR' : ∀ x y, V' x → (R' x y ∨ R' y x) → V' y ∧ Conn R (ψ x) (ψ y)) (h : Comp V R c) : Comp V' R' c := by
  obtain ⟨f, f1, f2, f3⟩ := h
  refine ⟨fun w => f (ψ w), fun v hv => f1 _ (hψ v hv), fun i hi => ?_, fun u v hu hv => ⟨fun e => ?_, fun h => ?_⟩⟩
  · obtain ⟨v, hv, e⟩ := f2 i hi
    exact ⟨φ v, hφ v hv, by show f (ψ (φ v)) = i; rw [h1 v hv]; exact e⟩
  · have q := (f3 _ _ (hψ u hu) (hψ v hv)).mp e
    have q2 := (conn_map φ hR q (hψ u hu)).2
    rw [h2 u hu, h2 v hv] at q2
    exact q2
  · exact (f3 _ _ (hψ u hu) (hψ v hv)).mpr (conn_map ψ hR' h hu).2
/-- two sets with no step between them -/
theorem comp_add {V1 V2 : Nat → Prop} {R : Nat → Nat → Prop} {c1 c2 : Nat} (h1 : Comp V1 R c1) (h2 : Comp V2 R c2) (dis : ∀ v, V1 v → V2 v → False) (cl : ∀ x y, V1 x → (R x y ∨ R y x) → V1 y) : Comp (fun v => V1 v ∨ V2 v) R (c1 + c2) := by
  obtain ⟨f, f1, f2, f3⟩ := h1
  obtain ⟨g, g1, g2, g3⟩ := h2
  have hex : ∃ k : Nat → Nat, (∀ v, V1 v → k v = f v) ∧ ∀ v, ¬ V1 v → k v = c1 + g v :=
    ⟨fun v => @ite Nat (V1 v) (Classical.propDecidable _) (f v) (c1 + g v), fun v h => if_pos h, fun v h => if_neg h⟩
  obtain ⟨k, k1, k2⟩ := hex
  have n2 : ∀ v, V2 v → ¬ V1 v := fun v h z => dis v z h
  refine ⟨k, fun v hv => ?_, fun i hi => ?_, fun u v hu hv => ?_⟩
  · rcases hv with h | h
    · rw [k1 v h]; have := f1 v h; omega
    · rw [k2 v (n2 v h)]; have := g1 v h; omega
  · by_cases q : i < c1
    · obtain ⟨v, hv, e⟩ := f2 i q
      exact ⟨v, .inl hv, by rw [k1 v hv]; exact e⟩
    · obtain ⟨v, hv, e⟩ := g2 (i - c1) (by omega)
      exact ⟨v, .inr hv, by rw [k2 v (n2 v hv)]; omega⟩
  · have sep : ∀ u v, V1 u → V2 v → ¬ Conn R u v := fun u v a b h => dis v (h.stays cl a) b
    rcases hu with hu | hu <;> rcases hv with hv | hv
    · rw [k1 u hu, k1 v hv]; exact f3 u v hu hv
    · rw [k1 u hu, k2 v (n2 v hv)]
      have := f1 u hu
      exact ⟨fun e => by omega, fun h => absurd h (sep u v hu hv)⟩
    · rw [k2 u (n2 u hu), k1 v hv]
      have := f1 v hv
      exact ⟨fun e => by omega, fun h => absurd h.symm (sep v u hv hu)⟩
    · rw [k2 u (n2 u hu), k2 v (n2 v hv)]
      refine ⟨fun e => (g3 u v hu hv).mp (by omega), fun h => ?_⟩
      have := (g3 u v hu hv).mpr h
      omega
theorem Comp.congr {V V' : Nat → Prop} {R R' : Nat → Nat → Prop} {c : Nat} (h : Comp V R c) (hV : ∀ v, V v ↔ V' v) (hR : ∀ u v, V u → V v → (Conn R u v ↔ Conn R' u v)) : Comp V' R' c := by
  obtain ⟨f, f1, f2, f3⟩ := h
  exact ⟨f, fun v hv => f1 v ((hV v).mpr hv), fun i hi => by obtain ⟨v, hv, e⟩ := f2 i hi; exact ⟨v, (hV v).mp hv, e⟩, fun u v hu hv => (f3 u v ((hV u).mpr hu) ((hV v).mpr hv)).trans (hR u v ((hV u).mpr hu) ((hV v).mpr hv))⟩
/-! ## roads are the parts -/
def R2 (a b : Nat → Nat) (M : Nat) : Nat → Nat → Prop := fun x y => x < M ∧ (a x = y ∨ b x = y)
structure RoadInv (a b : Nat → Nat) (M x0 : Nat) (road : List Nat) (x : Nat) : Prop where
  cn : ∀ y, y ∈ road → Conn (R2 a b M) x0 y
  cx : Conn (R2 a b M) x0 x
  br : (road = [] ∧ x = x0) ∨ (x0 ∈ road ∧ ∃ L, L ∈ road ∧ b L = x ∧ ∀ y, y ∈ road → y ≠ x0 → y ≠ L → b y ∈ road ∧ b y ≠ L)
theorem walk_class {a b : Nat → Nat} {M x0 : Nat} (A : Inv2 M a) (B : Inv2 M b) {s : List Nat} (hsb : ∀ y, y ∈ s → b y ∈ s) (hx0 : x0 < M) (h0 : x0 ∉ s) : ∀ (f : Nat) (road : List Nat) (x : Nat), Seen a M (s ++ road) → x < M → RoadInv a b M x0 road x → M ≤ f + (s ++ road).length →
    (∀ y, y ∈ walk a b f s x road → Conn (R2 a b M) x0 y ∧ b y ∈ walk a b f s x road) ∧ x0 ∈ walk a b f s x road := by
  have stop : ∀ (road : List Nat) (x : Nat), Seen a M (s ++ road) → x < M → RoadInv a b M x0 road x → x ∈ s ++ road → (∀ y, y ∈ road → Conn (R2 a b M) x0 y ∧ b y ∈ road) ∧ x0 ∈ road := by
    intro road x S hx I hm
    rcases I.br with ⟨e1, e2⟩ | ⟨h1, L, hL, hbL, hy⟩
    · subst e1 e2
      rw [List.append_nil] at hm
      exact absurd hm h0
    · have hLM : L < M := S.lt L (by simp [hL])
      have hLs : L ∉ s := fun z => (List.nodup_append.mp S.nd).2.2 L z L hL rfl
      have hbx : b x = L := by rw [← hbL]; exact B.inv L hLM
      have hxs : x ∉ s := fun z => hLs (by rw [← hbx]; exact hsb x z)
      have hxr : x ∈ road := by
        rcases List.mem_append.mp hm with z | z
        · exact absurd z hxs
        · exact z
      have hxL : x ≠ L := by rw [← hbL]; exact B.ne L hLM
      have hx0 : x = x0 := by
        by_cases q : x = x0
        · exact q
        · exact absurd hbx (hy x hxr q hxL).2
      refine ⟨fun y hyr => ⟨I.cn y hyr, ?_⟩, h1⟩
      by_cases q1 : y = x0
      · rw [q1, ← hx0, hbx]; exact hL
      · by_cases q2 : y = L
        · rw [q2, hbL]; exact hxr
        · exact (hy y hyr q1 q2).1
  intro f
  induction f with
  | zero =>
    intro road x S hx I hf
    exact stop road x S hx I (nodup_full S.nd S.lt (by omega) hx)
  | succ f ih =>
    intro road x S hx I hf
    by_cases hm : x ∈ s ++ road
    · rw [walk_stop hm]
      exact stop road x S hx I hm
    · rw [walk_go hm]
      have hp := S.push A hx hm
      have hax := A.lt x hx
      have c1 : Conn (R2 a b M) x (a x) := .one ⟨hx, .inl rfl⟩
      have c2 : Conn (R2 a b M) (a x) (b (a x)) := .one ⟨hax, .inr rfl⟩
      refine ih (road ++ [x, a x]) (b (a x)) (by rw [← List.append_assoc]; exact hp.2) (B.lt _ hax) ⟨fun y hy => ?_, (I.cx.trans c1).trans c2, .inr ⟨?_, a x, by simp, rfl, fun y hy q1 q2 => ?_⟩⟩ (by simp at hf ⊢; omega)
      · rcases List.mem_append.mp hy with z | z
        · exact I.cn y z
        · simp at z
          rcases z with rfl | rfl
          · exact I.cx
          · exact I.cx.trans c1
      · rcases I.br with ⟨e1, e2⟩ | ⟨h1, _⟩
        · rw [e2]; simp
        · simp [h1]
      · have nr : ∀ z, z ∈ road → z ≠ a x := fun z hz e => hp.1 (by rw [← e]; simp [hz])
        rcases List.mem_append.mp hy with z | z
        · rcases I.br with ⟨e1, e2⟩ | ⟨h1, L, hL, hbL, hyy⟩
          · rw [e1] at z; cases z
          · by_cases q3 : y = L
            · rw [q3, hbL]
              exact ⟨by simp, fun e => A.ne x hx e.symm⟩
            · have h4 := hyy y z q1 q3
              exact ⟨by simp [h4.1], nr _ h4.1⟩
        · simp at z
          rcases z with rfl | rfl
          · rcases I.br with ⟨e1, e2⟩ | ⟨h1, L, hL, hbL, hyy⟩
            · exact absurd e2 q1
            · have hLM : L < M := S.lt L (by simp [hL])
              have : b y = L := by rw [← hbL]; exact B.inv L hLM
              rw [this]
              exact ⟨by simp [hL], nr L hL⟩
          · exact absurd rfl q2
structure GoInv (a b : Nat → Nat) (M : Nat) (s0 : List Nat) (F : List (List Nat)) : Prop where
  seen : Seen a M (s0 ++ F.flatten)
  bcl : ∀ y, y ∈ s0 ++ F.flatten → b y ∈ s0 ++ F.flatten
  each : ∀ r, r ∈ F → r ≠ [] ∧ (∀ x, x ∈ r → a x ∈ r ∧ b x ∈ r) ∧ ∀ x y, x ∈ r → y ∈ r → Conn (R2 a b M) x y
theorem go_inv {a b : Nat → Nat} {M : Nat} (A : Inv2 M a) (B : Inv2 M b) {s0 : List Nat} (S0 : Seen a M s0) (b0 : ∀ y, y ∈ s0 → b y ∈ s0) : ∀ i, i ≤ M → GoInv a b M s0 (goR a b M s0 i)
  | 0, _ => ⟨by rw [goR_zero]; simpa using S0, fun y hy => by rw [goR_zero] at hy ⊢; simp at hy ⊢; exact b0 y hy, fun r hr => by rw [goR_zero] at hr; cases hr⟩
  | i + 1, h => by
    have I := go_inv A B S0 b0 i (by omega)
    rw [goR_succ]
    unfold stepR
    split
    · exact I
    · rename_i hm
      generalize goR a b M s0 i = F at *
      have w := walk_class A B (s := s0 ++ F.flatten) I.bcl (show i < M by omega) hm M [] i (by rw [List.append_nil]; exact I.seen) (by omega) ⟨fun y hy => (nomatch hy), .refl _, .inl ⟨rfl, rfl⟩⟩ (by omega)
      have ws := walk_seen A B.lt M (s0 ++ F.flatten) [] i (by rw [List.append_nil]; exact I.seen) (by omega)
      generalize walk a b M (s0 ++ F.flatten) i [] = R at *
      have hnd := List.nodup_append.mp ws.nd
      refine ⟨by rw [flatten_snoc, ← List.append_assoc]; exact ws, fun y hy => ?_, fun r hr => ?_⟩
      · rw [flatten_snoc, ← List.append_assoc] at hy ⊢
        rcases List.mem_append.mp hy with z | z
        · exact List.mem_append.mpr (.inl (I.bcl y z))
        · exact List.mem_append.mpr (.inr (w.1 y z).2)
      · rcases List.mem_append.mp hr with z | z
        · exact I.each r z
        · simp at z
          subst z
          refine ⟨fun e => (by rw [e] at w; cases w.2), fun x hx => ⟨?_, (w.1 x hx).2⟩, fun x y hx hy => (w.1 x hx).1.symm.trans (w.1 y hy).1⟩
          have h1 := ws.cl x (List.mem_append.mpr (.inr hx))
          rcases List.mem_append.mp h1 with z | z
          · have h2 := I.seen.cl _ z
            rw [A.inv x (ws.lt x (List.mem_append.mpr (.inr hx)))] at h2
            exact absurd rfl (hnd.2.2 x h2 x hx)
          · exact z
theorem comp_goR {a b : Nat → Nat} {M : Nat} (A : Inv2 M a) (B : Inv2 M b) {s0 : List Nat} (S0 : Seen a M s0) (b0 : ∀ y, y ∈ s0 → b y ∈ s0) : Comp (fun v => v < M ∧ v ∉ s0) (R2 a b M) (goR a b M s0 M).length := by
  have I := go_inv A B S0 b0 M (Nat.le_refl _)
  have hm := goR_mem (a := a) (b := b) (M := M) (s0 := s0) M (Nat.le_refl _)
  generalize goR a b M s0 M = F at *
  have hnd := List.nodup_append.mp I.seen.nd
  refine comp_of_list F hnd.2.1 (fun v => ⟨fun h => ?_, fun h => ?_⟩) (fun r hr => (I.each r hr).1) (fun r hr x y hx hxy => ?_) (fun r hr => (I.each r hr).2.2)
  · rcases List.mem_append.mp (hm v h.1) with z | z
    · exact absurd z h.2
    · exact z
  · exact ⟨I.seen.lt v (List.mem_append.mpr (.inr h)), fun z => hnd.2.2 v z v h rfl⟩
  · have hE := (I.each r hr).2.1 x hx
    have hxM : x < M := I.seen.lt x (List.mem_append.mpr (.inr (List.mem_flatten.mpr ⟨r, hr, hx⟩)))
    rcases hxy with ⟨_, e | e⟩ | ⟨hy, e | e⟩
    · rw [← e]; exact hE.1
    · rw [← e]; exact hE.2
    · rw [← e, A.inv y hy] at hE; exact hE.1
    · rw [← e, B.inv y hy] at hE; exact hE.2
theorem comp_roads {a b : Nat → Nat} {M : Nat} (A : Inv2 M a) (B : Inv2 M b) : Comp (fun v => v < M) (R2 a b M) (roadsM a b M).length := by
  have h := comp_goR A B (s0 := []) ⟨.nil, by simp, by simp⟩ (by simp)
  exact h.congr (fun v => by simp) (fun u v _ _ => Iff.rfl)
theorem R2_symm {a b : Nat → Nat} {M : Nat} (A : Inv2 M a) (B : Inv2 M b) {x y : Nat} (hx : x < M) (h : R2 a b M x y ∨ R2 a b M y x) : y < M ∧ (a x = y ∨ b x = y) := by
  rcases h with ⟨_, e | e⟩ | ⟨hy, e | e⟩
  · exact ⟨by rw [← e]; exact A.lt x hx, .inl e⟩
  · exact ⟨by rw [← e]; exact B.lt x hx, .inr e⟩
  · exact ⟨hy, .inl (by rw [← e]; exact A.inv y hy)⟩
  · exact ⟨hy, .inr (by rw [← e]; exact B.inv y hy)⟩
/-- no more roads than arcs -/
theorem roads_le {a b : Nat → Nat} {n : Nat} (A : Inv2 (2 * n) a) (B : Inv2 (2 * n) b) : (roadsM a b (2 * n)).length ≤ n := by
  have I := go_inv A B (s0 := []) ⟨.nil, by simp, by simp⟩ (by simp) (2 * n) (Nat.le_refl _)
  unfold roadsM
  generalize goR a b (2 * n) [] (2 * n) = F at *
  have h2 : ∀ r, r ∈ F → 2 ≤ r.length := fun r hr => by
    have hE := I.each r hr
    match r, hE, hr with
    | [], hE, _ => exact absurd rfl hE.1
    | [x], hE, hr =>
      have h3 := (hE.2.1 x (by simp)).1
      simp at h3
      exact absurd h3 (A.ne x (I.seen.lt x (by simp; exact ⟨[x], hr, by simp⟩)))
    | x :: y :: r, _, _ => simp
  have h3 := nodup_len (2 * n) _ I.seen.nd I.seen.lt
  rw [List.nil_append] at h3
  have h4 : ∀ F : List (List Nat), (∀ r, r ∈ F → 2 ≤ r.length) → 2 * F.length ≤ F.flatten.length := by
    intro F
    induction F with
    | nil => intro _; exact Nat.le_refl _
    | cons r F ih =>
      intro h
      have h5 := h r (by simp)
      have h6 := ih (fun r hr => h r (by simp [hr]))
      rw [List.flatten_cons, List.length_append, List.length_cons]
      omega
  have := h4 F h2
  omega
end Rm

set_option linter.all false
namespace Rm
/-! ## how the number of roads goes -/
theorem cnt_map {a b a' b' : Nat → Nat} {M : Nat} (A : Inv2 M a) (B : Inv2 M b) (A' : Inv2 M a') (B' : Inv2 M b') (φ ψ : Nat → Nat) (hφ : ∀ v, v < M → φ v < M) (hψ : ∀ v, v < M → ψ v < M) (h1 : ∀ v, v < M → ψ (φ v) = v) (h2 : ∀ v, v < M → φ (ψ v) = v)
    (ha : ∀ v, v < M → a' (φ v) = φ (a v)) (hb : ∀ v, v < M → b' (φ v) = φ (b v)) : (roadsM a' b' M).length = (roadsM a b M).length := by
  refine (comp_roads A' B').unique (comp_map φ ψ hφ hψ h1 h2 (fun x y hx h => ?_) (fun x y hx h => ?_) (comp_roads A B))
  · obtain ⟨hy, e⟩ := R2_symm A B hx h
    refine ⟨hy, .one ⟨hφ x hx, ?_⟩⟩
    rw [ha x hx, hb x hx]
    rcases e with e | e <;> rw [e]
    · exact .inl rfl
    · exact .inr rfl
  · obtain ⟨hy, e⟩ := R2_symm A' B' hx h
    have hx' := hψ x hx
    have e1 := ha (ψ x) hx'
    have e2 := hb (ψ x) hx'
    rw [h2 x hx] at e1 e2
    refine ⟨hy, .one ⟨hx', ?_⟩⟩
    rcases e with e | e
    · left; rw [← e, e1, h1 _ (A.lt _ hx')]
    · right; rw [← e, e2, h1 _ (B.lt _ hx')]
theorem cnt_swap {a b : Nat → Nat} {M : Nat} (A : Inv2 M a) (B : Inv2 M b) : (roadsM b a M).length = (roadsM a b M).length := by
  refine (comp_roads B A).unique ((comp_roads A B).congr (fun _ => Iff.rfl) fun u v _ _ => ⟨fun h => h.mono fun x y r => .one ⟨r.1, r.2.symm⟩, fun h => h.mono fun x y r => .one ⟨r.1, r.2.symm⟩⟩)
theorem Inv2.congr {M : Nat} {f f' : Nat → Nat} (A : Inv2 M f) (h : ∀ k, k < M → f' k = f k) : Inv2 M f' :=
  ⟨fun k hk => by rw [h k hk]; exact A.lt k hk, fun k hk => by rw [h k hk]; exact A.ne k hk, fun k hk => by rw [h k hk, h _ (A.lt k hk)]; exact A.inv k hk⟩
theorem cnt_rot {m r : Nat} {a b a' b' : Nat → Nat} (A : Arcs m a) (B : Arcs m b) (hr : r < m) (ha : ∀ k, k < m → a' k = rotF m r a k) (hb : ∀ k, k < m → b' k = rotF m r b k) : (roadsM a' b' m).length = (roadsM a b m).length :=
  cnt_map A.inv2 B.inv2 ((rot_arcs A hr).inv2.congr ha) ((rot_arcs B hr).inv2.congr hb) (psi m r) (phi m r) (fun v h => psi_lt hr h) (fun v h => phi_lt hr h) (fun v h => phi_psi hr h) (fun v h => psi_phi hr h)
    (fun v h => by rw [ha _ (psi_lt hr h)]; unfold rotF; rw [phi_psi hr h]) (fun v h => by rw [hb _ (psi_lt hr h)]; unfold rotF; rw [phi_psi hr h])
theorem cnt_mir {m : Nat} {a b a' b' : Nat → Nat} (A : Arcs m a) (B : Arcs m b) (ha : ∀ k, k < m → a' k = mirF m a k) (hb : ∀ k, k < m → b' k = mirF m b k) : (roadsM a' b' m).length = (roadsM a b m).length :=
  cnt_map A.inv2 B.inv2 ((mir_arcs A).inv2.congr ha) ((mir_arcs B).inv2.congr hb) (fun k => m - 1 - k) (fun k => m - 1 - k) (fun v h => by (try dsimp only); omega) (fun v h => by (try dsimp only); omega) (fun v h => by (try dsimp only); omega) (fun v h => by (try dsimp only); omega)
    (fun v h => by (try dsimp only); rw [ha _ (by omega)]; unfold mirF; rw [show m - 1 - (m - 1 - v) = v by omega]) (fun v h => by (try dsimp only); rw [hb _ (by omega)]; unfold mirF; rw [show m - 1 - (m - 1 - v) = v by omega])
theorem cnt_side {m m2 : Nat} {a b a2 b2 a' b' : Nat → Nat} (A : Arcs m a) (B : Arcs m b) (A2 : Arcs m2 a2) (B2 : Arcs m2 b2) (ha : ∀ k, k < m + m2 → a' k = sideF m a a2 k) (hb : ∀ k, k < m + m2 → b' k = sideF m b b2 k) :
    (roadsM a' b' (m + m2)).length = (roadsM a b m).length + (roadsM a2 b2 m2).length := by
  have IA := (side_arcs A A2).inv2.congr ha
  have IB := (side_arcs B B2).inv2.congr hb
  have lo : ∀ k, k < m → a' k = a k ∧ b' k = b k := fun k h => by
    rw [ha k (by omega), hb k (by omega)]
    unfold sideF
    rw [if_pos h, if_pos h]
    exact ⟨rfl, rfl⟩
  have hi : ∀ k, k < m2 → a' (m + k) = m + a2 k ∧ b' (m + k) = m + b2 k := fun k h => by
    rw [ha (m + k) (by omega), hb (m + k) (by omega)]
    unfold sideF
    rw [if_neg (by omega), if_neg (by omega), show m + k - m = k by omega]
    exact ⟨rfl, rfl⟩
  have c1 : Comp (fun v => v < m) (R2 a' b' (m + m2)) (roadsM a b m).length := by
    refine comp_map (V := fun v => v < m) (fun v => v) (fun v => v) (fun _ h => h) (fun _ h => h) (fun _ _ => rfl) (fun _ _ => rfl) (fun x y hx h => ?_) (fun x y hx h => ?_) (comp_roads A.inv2 B.inv2)
    · obtain ⟨hy, e⟩ := R2_symm A.inv2 B.inv2 hx h
      refine ⟨hy, .one ⟨by (try dsimp only); omega, ?_⟩⟩
      rw [(lo x hx).1, (lo x hx).2]
      exact e
    · obtain ⟨hy, e⟩ := R2_symm IA IB (by (try dsimp only at hx); omega) h
      rw [(lo x hx).1, (lo x hx).2] at e
      have : y < m := by
        rcases e with e | e <;> rw [← e]
        · exact A.lt x hx
        · exact B.lt x hx
      exact ⟨this, .one ⟨hx, e⟩⟩
  have c2 : Comp (fun v => m ≤ v ∧ v < m + m2) (R2 a' b' (m + m2)) (roadsM a2 b2 m2).length := by
    refine comp_map (V := fun v => v < m2) (fun v => m + v) (fun v => v - m) (fun _ h => ⟨by omega, by omega⟩) (fun _ h => by (try dsimp only at h ⊢); omega) (fun _ _ => by (try dsimp only); omega) (fun _ h => by (try dsimp only at h ⊢); omega) (fun x y hx h => ?_) (fun x y hx h => ?_) (comp_roads A2.inv2 B2.inv2)
    · obtain ⟨hy, e⟩ := R2_symm A2.inv2 B2.inv2 hx h
      refine ⟨hy, .one ⟨by (try dsimp only); omega, ?_⟩⟩
      rw [(hi x hx).1, (hi x hx).2]
      rcases e with e | e <;> rw [e]
      · exact .inl rfl
      · exact .inr rfl
    · (try dsimp only at hx)
      obtain ⟨hy, e⟩ := R2_symm IA IB hx.2 h
      have h1 := hi (x - m) (by omega)
      rw [show m + (x - m) = x by omega] at h1
      rw [h1.1, h1.2] at e
      have k1 := A2.lt (x - m) (by omega)
      have k2 := B2.lt (x - m) (by omega)
      refine ⟨by (try dsimp only); omega, .one ⟨by omega, ?_⟩⟩
      rcases e with e | e
      · left; omega
      · right; omega
  refine (comp_roads IA IB).unique (Comp.congr (comp_add c1 c2 (fun v h1 h2 => by (try dsimp only at h1 h2); omega) (fun x y hx h => ?_)) (fun v => by omega) (fun _ _ _ _ => Iff.rfl))
  obtain ⟨hy, e⟩ := R2_symm IA IB (by omega) h
  rw [(lo x hx).1, (lo x hx).2] at e
  rcases e with e | e <;> rw [← e]
  · exact A.lt x hx
  · exact B.lt x hx
theorem cnt_over {m : Nat} {a b a' b' : Nat → Nat} (A : Arcs m a) (B : Arcs m b) (ha : ∀ k, k < m + 2 → a' k = overF m a k) (hb : ∀ k, k < m + 2 → b' k = overF m b k) : (roadsM a' b' (m + 2)).length = (roadsM a b m).length + 1 := by
  have IA := (over_arcs A).inv2.congr ha
  have IB := (over_arcs B).inv2.congr hb
  have mid : ∀ k, k < m → a' (k + 1) = a k + 1 ∧ b' (k + 1) = b k + 1 := fun k h => by
    rw [ha _ (by omega), hb _ (by omega)]
    unfold overF
    rw [if_neg (by omega), if_neg (by omega), if_neg (by omega), if_neg (by omega)]
    exact ⟨rfl, rfl⟩
  have z0 : a' 0 = m + 1 ∧ b' 0 = m + 1 := by
    rw [ha _ (by omega), hb _ (by omega)]
    exact ⟨rfl, rfl⟩
  have z1 : a' (m + 1) = 0 ∧ b' (m + 1) = 0 := by
    rw [ha _ (by omega), hb _ (by omega)]
    unfold overF
    rw [if_neg (by omega), if_pos rfl, if_neg (by omega), if_pos rfl]
    exact ⟨rfl, rfl⟩
  have c1 : Comp (fun v => 1 ≤ v ∧ v < m + 1) (R2 a' b' (m + 2)) (roadsM a b m).length := by
    refine comp_map (V := fun v => v < m) (fun v => v + 1) (fun v => v - 1) (fun _ h => ⟨by omega, by omega⟩) (fun _ h => by (try dsimp only at h ⊢); omega) (fun _ _ => by (try dsimp only); omega) (fun _ h => by (try dsimp only at h ⊢); omega) (fun x y hx h => ?_) (fun x y hx h => ?_) (comp_roads A.inv2 B.inv2)
    · obtain ⟨hy, e⟩ := R2_symm A.inv2 B.inv2 hx h
      refine ⟨hy, .one ⟨by (try dsimp only at hx ⊢); omega, ?_⟩⟩
      rw [(mid x hx).1, (mid x hx).2]
      rcases e with e | e <;> rw [e]
      · exact .inl rfl
      · exact .inr rfl
    · (try dsimp only at hx)
      obtain ⟨hy, e⟩ := R2_symm IA IB (by omega) h
      have h1 := mid (x - 1) (by omega)
      rw [show x - 1 + 1 = x by omega] at h1
      rw [h1.1, h1.2] at e
      have k1 := A.lt (x - 1) (by omega)
      have k2 := B.lt (x - 1) (by omega)
      refine ⟨by (try dsimp only); omega, .one ⟨by omega, ?_⟩⟩
      rcases e with e | e
      · left; omega
      · right; omega
  have c2 : Comp (fun v => v = 0 ∨ v = m + 1) (R2 a' b' (m + 2)) 1 := by
    have h := comp_of_list (V := fun v => v = 0 ∨ v = m + 1) (R := R2 a' b' (m + 2)) [[0, m + 1]] (by simp) (fun v => by simp) (by simp) (fun r hr x y hx h => ?_) (fun r hr x y hx hy => ?_)
    · exact h
    · simp at hr
      subst hr
      simp at hx ⊢
      obtain ⟨hy, e⟩ := R2_symm IA IB (by omega) h
      rcases hx with rfl | rfl
      · rw [z0.1, z0.2] at e; omega
      · rw [z1.1, z1.2] at e; omega
    · simp at hr
      subst hr
      simp at hx hy
      have k : Conn (R2 a' b' (m + 2)) 0 (m + 1) := .one ⟨by omega, .inl z0.1⟩
      rcases hx with rfl | rfl <;> rcases hy with rfl | rfl
      · exact .refl _
      · exact k
      · exact k.symm
      · exact .refl _
  refine (comp_roads IA IB).unique (Comp.congr (comp_add c1 c2 (fun v h1 h2 => by (try dsimp only at h1 h2); omega) (fun x y hx h => ?_)) (fun v => by omega) (fun _ _ _ _ => Iff.rfl))
  (try dsimp only at hx)
  obtain ⟨hy, e⟩ := R2_symm IA IB (by omega) h
  have h1 := mid (x - 1) (by omega)
  rw [show x - 1 + 1 = x by omega] at h1
  rw [h1.1, h1.2] at e
  have k1 := A.lt (x - 1) (by omega)
  have k2 := B.lt (x - 1) (by omega)
  (try dsimp only)
  omega
/-! ## straight -/
def strF (m k : Nat) : Nat := m - 1 - k
theorem str_arcs (n : Nat) : Arcs (2 * n) (strF (2 * n)) := by
  refine ⟨fun k h => by unfold strF; omega, fun k h => by unfold strF; omega, fun k h => by unfold strF; omega, fun j k h1 h2 h3 h4 => by unfold strF at h3 h4; omega⟩
/-- ties from an upper end to its lower one are roads by themselves -/
theorem alone_le {a b : Nat → Nat} {n : Nat} (A : Inv2 (2 * n) a) (B : Inv2 (2 * n) b) (hb : ∀ k, k < 2 * n → b k = strF (2 * n) k) (l : List Nat) (hn : l.Nodup) (hl : ∀ k, k ∈ l → k < n ∧ a k = 2 * n - 1 - k) : l.length ≤ (roadsM a b (2 * n)).length := by
  obtain ⟨f, f1, f2, f3⟩ := comp_roads A B
  have hnd : (l.map f).Nodup := by
    rw [List.Nodup, List.pairwise_map]
    refine List.Pairwise.imp_of_mem ?_ hn
    intro x y hx hy hne e
    obtain ⟨h1, h2⟩ := hl x hx
    obtain ⟨h3, h4⟩ := hl y hy
    have hc := (f3 x y (by omega) (by omega)).mp e
    have hs := hc.stays (C := fun z => z = x ∨ z = 2 * n - 1 - x) (fun u v hu hr => by
      obtain ⟨hv, e9⟩ := R2_symm A B (by omega) hr
      rw [hb u (by omega)] at e9
      unfold strF at e9
      have e5 := A.inv x (by omega)
      rw [h2] at e5
      rcases hu with rfl | rfl
      · rw [h2] at e9; omega
      · rw [e5] at e9; omega) (.inl rfl)
    (try dsimp only at hs)
    omega
  have := nodup_len _ _ hnd (fun z hz => by
    obtain ⟨x, hx, rfl⟩ := List.mem_map.mp hz
    exact f1 x (by have := (hl x hx).1; omega))
  rw [List.length_map] at this
  exact this
end Rm

set_option linter.all false
namespace Rm
/-! ## one road -/
def up (p k : Nat) : Nat := if k < p then k else k + 2
def dwn (p k : Nat) : Nat := if k < p then k else k - 2
theorem up_cases (p k : Nat) : (k < p ∧ up p k = k) ∨ (p ≤ k ∧ up p k = k + 2) := by unfold up; split <;> omega
theorem dwn_cases (p k : Nat) : (k < p ∧ dwn p k = k) ∨ (p ≤ k ∧ dwn p k = k - 2) := by unfold dwn; split <;> omega
def remF (p : Nat) (a : Nat → Nat) (k : Nat) : Nat := dwn p (a (up p k))
theorem rem_up {m p k : Nat} {a : Nat → Nat} (A : Arcs (m + 2) a) (hp : p + 1 < m + 2) (e : a p = p + 1) (hk : k < m) : remF p a k < m ∧ up p (remF p a k) = a (up p k) := by
  have hu := up_cases p k
  have e1 := A.inv p (by omega)
  rw [e] at e1
  have hl := A.lt (up p k) (by omega)
  have hi := A.inv (up p k) (by omega)
  have n1 : a (up p k) ≠ p := fun z => by rw [z, e] at hi; omega
  have n2 : a (up p k) ≠ p + 1 := fun z => by rw [z, e1] at hi; omega
  unfold remF
  have hd := dwn_cases p (a (up p k))
  have hv := up_cases p (dwn p (a (up p k)))
  omega
theorem rem_arcs {m p : Nat} {a : Nat → Nat} (A : Arcs (m + 2) a) (hp : p + 1 < m + 2) (e : a p = p + 1) : Arcs m (remF p a) := by
  refine ⟨fun k hk => (rem_up A hp e hk).1, fun k hk z => ?_, fun k hk => ?_, fun j k hjk hk h1 h2 => ?_⟩
  · have h := (rem_up A hp e hk).2
    rw [z] at h
    exact A.ne _ (by have := up_cases p k; omega) h.symm
  · have h := rem_up A hp e hk
    have h2 := (rem_up A hp e h.1).2
    rw [h.2, A.inv _ (by have := up_cases p k; omega)] at h2
    have u1 := up_cases p k
    have u2 := up_cases p (remF p a (remF p a k))
    omega
  · have h := rem_up A hp e hk
    have h' := rem_up A hp e (show j < m by omega)
    have u1 := up_cases p k
    have u2 := up_cases p j
    have u3 := up_cases p (remF p a k)
    have u4 := up_cases p (remF p a j)
    refine A.nc (up p j) (up p k) (by omega) (by omega) ?_ ?_
    · rw [← h'.2]; omega
    · rw [← h.2, ← h'.2]; omega
/-- an arc beside -/
theorem near_arc {m : Nat} {a : Nat → Nat} (A : Arcs m a) : ∀ (d k : Nat), k < m → k < a k → a k - k ≤ d + 1 → ∃ p, p + 1 < m ∧ a p = p + 1
  | 0, k, hk, h1, h2 => ⟨k, by have := A.lt k hk; omega, by omega⟩
  | d + 1, k, hk, h1, h2 => by
    by_cases c : a k = k + 1
    · exact ⟨k, by have := A.lt k hk; omega, c⟩
    · have l1 := A.lt k hk
      have hk1 : k + 1 < m := by omega
      have i1 := A.inv (k + 1) hk1
      have n1 := A.ne (k + 1) hk1
      have i0 := A.inv k hk
      have l2 := A.lt (k + 1) hk1
      have nk : a (k + 1) ≠ k := fun z => by rw [z] at i1; exact c i1
      have nk2 : a (k + 1) ≠ a k := fun z => by rw [z, i0] at i1; omega
      by_cases h : k + 1 < a (k + 1)
      · have := A.nc k (k + 1) (by omega) hk1 (by omega)
        have h5 : ¬ a k < a (k + 1) := this
        exact near_arc A d (k + 1) hk1 h (by omega)
      · exfalso
        exact A.nc (a (k + 1)) k (by omega) hk (by rw [i1]; omega) (by rw [i1]; omega)
theorem near_some {m : Nat} {a : Nat → Nat} (A : Arcs m a) (hm : 0 < m) : ∃ p, p + 1 < m ∧ a p = p + 1 := by
  have := A.ne 0 hm
  exact near_arc A (a 0) 0 hm (by omega) (by omega)
/-- seen from a gap -/
structure Vis (m p x y nx ny : Nat) (b : Nat → Nat) : Prop where
  xl : x < m
  yl : y < m
  xy : x < y
  e : b x = y
  w : (x < p ∧ p ≤ y ∧ nx = p ∧ ny = p + 1 ∧ ∀ k, x < k → k < p → b k < p) ∨ (y + 1 = p ∧ nx = p + 1 ∧ ny = p ∧ ∀ k, k < p → b k < p) ∨ (p = 0 ∧ x = 0 ∧ nx = p + 1 ∧ ny = p)
def joinF (p X nx Y ny : Nat) (b : Nat → Nat) (k : Nat) : Nat := if k = X then nx else if k = nx then X else if k = Y then ny else if k = ny then Y else up p (b (dwn p k))
theorem join_old {m p x y nx ny : Nat} {b : Nat → Nat} (B : Arcs m b) (V : Vis m p x y nx ny b) (hp : p ≤ m) {k : Nat} (hk : k < m + 2) (h1 : k ≠ up p x) (h2 : k ≠ nx) (h3 : k ≠ up p y) (h4 : k ≠ ny) :
    ∃ k' z, k' < m ∧ b k' = z ∧ b z = k' ∧ z < m ∧ z ≠ k' ∧ ((k' < p ∧ k = k') ∨ (p ≤ k' ∧ k = k' + 2)) ∧ ((z < p ∧ joinF p (up p x) nx (up p y) ny b k = z) ∨ (p ≤ z ∧ joinF p (up p x) nx (up p y) ny b k = z + 2)) ∧ k' ≠ x ∧ k' ≠ y ∧ z ≠ x ∧ z ≠ y := by
  have hn : (nx = p ∧ ny = p + 1) ∨ (nx = p + 1 ∧ ny = p) := by have := V.w; omega
  have hd := dwn_cases p k
  have ux := up_cases p x
  have uy := up_cases p y
  have hx := V.xl
  have hy := V.yl
  have e1 := V.e
  have e2 := B.inv x hx
  rw [e1] at e2
  have hk' : dwn p k < m := by omega
  have l1 := B.lt _ hk'
  have i1 := B.inv _ hk'
  refine ⟨dwn p k, b (dwn p k), hk', rfl, i1, l1, B.ne _ hk', by omega, ?_, by omega, by omega, fun z => ?_, fun z => ?_⟩
  · unfold joinF
    rw [if_neg h1, if_neg h2, if_neg h3, if_neg h4]
    have := up_cases p (b (dwn p k))
    omega
  · rw [z, e1] at i1; omega
  · rw [z, e2] at i1; omega
theorem join_arcs {m p x y nx ny : Nat} {b : Nat → Nat} (B : Arcs m b) (V : Vis m p x y nx ny b) (hp : p ≤ m) : Arcs (m + 2) (joinF p (up p x) nx (up p y) ny b) := by
  have hn : (nx = p ∧ ny = p + 1) ∨ (nx = p + 1 ∧ ny = p) := by have := V.w; omega
  have ux := up_cases p x
  have uy := up_cases p y
  have hx := V.xl
  have hy := V.yl
  have hxy := V.xy
  have f1 : joinF p (up p x) nx (up p y) ny b (up p x) = nx := by unfold joinF; rw [if_pos rfl]
  have f2 : joinF p (up p x) nx (up p y) ny b nx = up p x := by unfold joinF; rw [if_neg (by omega), if_pos rfl]
  have f3 : joinF p (up p x) nx (up p y) ny b (up p y) = ny := by unfold joinF; rw [if_neg (by omega), if_neg (by omega), if_pos rfl]
  have f4 : joinF p (up p x) nx (up p y) ny b ny = up p y := by unfold joinF; rw [if_neg (by omega), if_neg (by omega), if_neg (by omega), if_pos rfl]
  have old := fun k hk h1 h2 h3 h4 => join_old B V hp (k := k) hk h1 h2 h3 h4
  have w := V.w
  have e1 := V.e
  have e2 := B.inv x hx
  rw [e1] at e2
  have nc1 := fun j => B.nc j x
  have nc2 := fun j => B.nc x j
  have nc3 := B.nc
  generalize up p x = X at *
  generalize up p y = Y at *
  generalize hF : joinF p X nx Y ny b = F at *
  have cs : (X = x ∧ Y = y + 2 ∧ nx = p ∧ ny = p + 1 ∧ x < p ∧ p ≤ y ∧ ∀ k, x < k → k < p → b k < p) ∨ (X = x ∧ Y = y ∧ nx = p + 1 ∧ ny = p ∧ y + 1 = p ∧ ∀ k, k < p → b k < p) ∨ (p = 0 ∧ x = 0 ∧ X = 2 ∧ Y = y + 2 ∧ nx = 1 ∧ ny = 0) := by
    rcases w with ⟨a1, a2, a3, a4, a5⟩ | ⟨a1, a2, a3, a4⟩ | ⟨a1, a2, a3, a4⟩
    · exact .inl ⟨by omega, by omega, a3, a4, a1, a2, a5⟩
    · exact .inr (.inl ⟨by omega, by omega, a2, a3, a1, a4⟩)
    · exact .inr (.inr ⟨a1, a2, by omega, by omega, by omega, by omega⟩)
  clear w hn ux uy V hF
  have all : ∀ k, k = X ∨ k = nx ∨ k = Y ∨ k = ny ∨ (k ≠ X ∧ k ≠ nx ∧ k ≠ Y ∧ k ≠ ny) := fun k => by omega
  have hX : X < m + 2 ∧ Y < m + 2 ∧ nx < m + 2 ∧ ny < m + 2 ∧ X ≠ nx ∧ Y ≠ ny := by rcases cs with c | c | c <;> omega
  obtain ⟨l1, l2, l3, l4, l5, l6⟩ := hX
  have oldn : ∀ k, k < m + 2 → k ≠ X → k ≠ nx → k ≠ Y → k ≠ ny → F k < m + 2 ∧ F k ≠ k ∧ F k ≠ X ∧ F k ≠ nx ∧ F k ≠ Y ∧ F k ≠ ny ∧ F (F k) = k := fun k hk a1 a2 a3 a4 => by
    obtain ⟨k', z, q1, q2, q3, q4, q5, q6, q7, q8, q9, q10, q11⟩ := old k hk a1 a2 a3 a4
    have hz : F k < m + 2 ∧ F k ≠ k ∧ F k ≠ X ∧ F k ≠ nx ∧ F k ≠ Y ∧ F k ≠ ny := by
      clear old all nc1 nc2 nc3
      rcases cs with ⟨rfl, rfl, rfl, rfl, c1, c2, c3⟩ | ⟨rfl, rfl, rfl, rfl, rfl, c3⟩ | ⟨rfl, rfl, rfl, rfl, rfl, rfl⟩
      · clear c3; rcases q7 with ⟨_, h⟩ | ⟨_, h⟩ <;> rcases q6 with ⟨_, h'⟩ | ⟨_, h'⟩ <;> omega
      · clear c3; rcases q7 with ⟨_, h⟩ | ⟨_, h⟩ <;> rcases q6 with ⟨_, h'⟩ | ⟨_, h'⟩ <;> omega
      · rcases q7 with ⟨_, h⟩ | ⟨_, h⟩ <;> rcases q6 with ⟨_, h'⟩ | ⟨_, h'⟩ <;> omega
    obtain ⟨z1, z2, z3, z4, z5, z6⟩ := hz
    refine ⟨z1, z2, z3, z4, z5, z6, ?_⟩
    obtain ⟨k2, y2, r1, r2, r3, r4, r5, r6, r7, r8⟩ := old (F k) z1 z3 z4 z5 z6
    have hkz : k2 = z := by
      clear old all nc1 nc2 nc3 cs
      rcases q7 with ⟨_, h⟩ | ⟨_, h⟩ <;> rcases r6 with ⟨_, h'⟩ | ⟨_, h'⟩ <;> omega
    subst hkz
    have : y2 = k' := by rw [← r2, q3]
    subst this
    clear old all nc1 nc2 nc3 cs
    rcases q6 with ⟨_, h⟩ | ⟨_, h⟩ <;> rcases r7 with ⟨_, h'⟩ | ⟨_, h'⟩ <;> omega
  refine ⟨fun k hk => ?_, fun k hk => ?_, fun k hk => ?_, fun j k hjk hk h1 h2 => ?_⟩
  · rcases all k with h | h | h | h | ⟨a1, a2, a3, a4⟩
    · rw [h, f1]; exact l3
    · rw [h, f2]; exact l1
    · rw [h, f3]; exact l4
    · rw [h, f4]; exact l2
    · exact (oldn k hk a1 a2 a3 a4).1
  · rcases all k with h | h | h | h | ⟨a1, a2, a3, a4⟩
    · rw [h, f1]; exact fun z => l5 z.symm
    · rw [h, f2]; exact l5
    · rw [h, f3]; exact fun z => l6 z.symm
    · rw [h, f4]; exact l6
    · exact (oldn k hk a1 a2 a3 a4).2.1
  · rcases all k with h | h | h | h | ⟨a1, a2, a3, a4⟩
    · rw [h, f1, f2]
    · rw [h, f2, f1]
    · rw [h, f3, f4]
    · rw [h, f4, f3]
    · exact (oldn k hk a1 a2 a3 a4).2.2.2.2.2.2
  · have hj : j < m + 2 := by omega
    -- an old one and a new one
    have new : ∀ k, k = X ∨ k = nx ∨ k = Y ∨ k = ny → k < F k → (k = X ∧ F k = nx) ∨ (k = nx ∧ F k = X) ∨ (k = Y ∧ F k = ny) ∨ (k = ny ∧ F k = Y) := fun k h _ => by
      rcases h with h | h | h | h
      · exact .inl ⟨h, by rw [h, f1]⟩
      · exact .inr (.inl ⟨h, by rw [h, f2]⟩)
      · exact .inr (.inr (.inl ⟨h, by rw [h, f3]⟩))
      · exact .inr (.inr (.inr ⟨h, by rw [h, f4]⟩))
    have facts : ∀ k, k < m + 2 → k ≠ X → k ≠ nx → k ≠ Y → k ≠ ny → ∃ k' z, k' < m ∧ b k' = z ∧ z < m ∧ ((k' < p ∧ k = k') ∨ (p ≤ k' ∧ k = k' + 2)) ∧ ((z < p ∧ F k = z) ∨ (p ≤ z ∧ F k = z + 2)) ∧ k' ≠ x ∧ k' ≠ y ∧ z ≠ x ∧ z ≠ y ∧ ¬ (k' < x ∧ x < z ∧ z < y) ∧ ¬ (x < k' ∧ k' < y ∧ y < z) ∧ b z = k' := fun k hk a1 a2 a3 a4 => by
      obtain ⟨k', z, q1, q2, q3, q4, q5, q6, q7, q8, q9, q10, q11⟩ := old k hk a1 a2 a3 a4
      refine ⟨k', z, q1, q2, q4, q6, q7, q8, q9, q10, q11, fun ⟨g1, g2, g3⟩ => ?_, fun ⟨g1, g2, g3⟩ => ?_, q3⟩
      · exact nc1 k' g1 hx (by rw [q2]; exact g2) (by rw [q2, e1]; exact g3)
      · exact nc2 k' g1 q1 (by rw [e1]; exact g2) (by rw [q2, e1]; exact g3)
    by_cases nj : j = X ∨ j = nx ∨ j = Y ∨ j = ny
    · have Nj := new j nj (by omega)
      by_cases nk : k = X ∨ k = nx ∨ k = Y ∨ k = ny
      · have Nk := new k nk (by omega)
        clear old oldn facts new nc1 nc2 nc3 all
        rcases cs with ⟨d1, d2, d3, d4, c1, c2, c3⟩ | ⟨d1, d2, d3, d4, d5, c3⟩ | ⟨d1, d2, d3, d4, d5, d6⟩ <;> omega
      · obtain ⟨k', z, q1, q2, q3, q4, q5, q6, q7, q8, q9, q10, q11, q12⟩ := facts k hk (by omega) (by omega) (by omega) (by omega)
        clear old oldn facts new nc1 nc2 nc3 all
        rcases cs with ⟨d1, d2, d3, d4, c1, c2, c3⟩ | ⟨d1, d2, d3, d4, d5, c3⟩ | ⟨d1, d2, d3, d4, d5, d6⟩
        · have c4 : ¬ (x < k' ∧ k' < p ∧ p ≤ z) := fun ⟨g1, g2, g3⟩ => by have := c3 k' g1 g2; omega
          clear c3
          omega
        · have c4 : ¬ (k' < y + 1 ∧ y + 1 ≤ z) := fun ⟨g1, g2⟩ => by have := c3 k' (by omega); omega
          clear c3
          omega
        · omega
    · obtain ⟨j', zj, t1, t2, t3, t4, t5, t6, t7, t8, t9, t10, t11, t12⟩ := facts j hj (by omega) (by omega) (by omega) (by omega)
      by_cases nk : k = X ∨ k = nx ∨ k = Y ∨ k = ny
      · have Nk := new k nk (by omega)
        clear old oldn facts new nc1 nc2 nc3 all
        rcases cs with ⟨d1, d2, d3, d4, c1, c2, c3⟩ | ⟨d1, d2, d3, d4, d5, c3⟩ | ⟨d1, d2, d3, d4, d5, d6⟩
        · have c4 : ¬ (x < j' ∧ j' < p ∧ p ≤ zj) := fun ⟨g1, g2, g3⟩ => by have := c3 j' g1 g2; omega
          have c5 : ¬ (x < zj ∧ zj < p ∧ p ≤ j') := fun ⟨g1, g2, g3⟩ => by have := c3 zj g1 g2; omega
          clear c3
          omega
        · have c4 : ¬ (j' < y + 1 ∧ y + 1 ≤ zj) := fun ⟨g1, g2⟩ => by have := c3 j' (by omega); omega
          have c5 : ¬ (zj < y + 1 ∧ y + 1 ≤ j') := fun ⟨g1, g2⟩ => by have := c3 zj (by omega); omega
          clear c3
          omega
        · omega
      · obtain ⟨k', z, q1, q2, q3, q4, q5, q6, q7, q8, q9, q10, q11, q12⟩ := facts k hk (by omega) (by omega) (by omega) (by omega)
        exact nc3 j' k' (by clear old oldn facts new nc1 nc2 nc3 all cs t10 t11 q10 q11 q5 t5; omega) q1 (by rw [t2]; clear old oldn facts new nc1 nc2 nc3 all cs t10 t11 q10 q11 q5 t4; omega) (by rw [t2, q2]; clear old oldn facts new nc1 nc2 nc3 all cs t10 t11 q10 q11 q4 t4; omega)
/-- all is joined -/
def AllC (a b : Nat → Nat) (m : Nat) : Prop := ∀ u v, u < m → v < m → Conn (R2 a b m) u v
theorem all_one {a b : Nat → Nat} {m : Nat} (A : Inv2 m a) (B : Inv2 m b) (h : AllC a b m) (hm : 0 < m) : (roadsM a b m).length = 1 :=
  (comp_roads A B).unique ⟨fun _ => 0, fun _ _ => Nat.zero_lt_one, fun i hi => ⟨0, hm, by show 0 = i; omega⟩, fun u v hu hv => ⟨fun _ => h u v hu hv, fun _ => rfl⟩⟩
theorem join_all {m p x y nx ny : Nat} {a b r F : Nat → Nat} (A : Arcs (m + 2) a) (B : Arcs m b) (V : Vis m p x y nx ny b) (hp : p ≤ m) (e : a p = p + 1) (hr : ∀ k, k < m → r k = remF p a k) (hF : ∀ k, k < m + 2 → F k = joinF p (up p x) nx (up p y) ny b k)
    (h : AllC r b m) : AllC a F (m + 2) := by
  have hn : (nx = p ∧ ny = p + 1) ∨ (nx = p + 1 ∧ ny = p) := by have := V.w; omega
  have ux := up_cases p x
  have uy := up_cases p y
  have hx := V.xl
  have hy := V.yl
  have hxy := V.xy
  have e1 := V.e
  have e2 := B.inv x hx
  rw [e1] at e2
  have JA := join_arcs B V hp
  have FI : Inv2 (m + 2) F := (JA.congr hF).inv2
  have RA : Arcs m r := (rem_arcs A (by omega) e).congr hr
  have ep := A.inv p (by omega)
  rw [e] at ep
  have f1 : F (up p x) = nx := by rw [hF _ (by omega)]; unfold joinF; rw [if_pos rfl]
  have f3 : F (up p y) = ny := by rw [hF _ (by omega)]; unfold joinF; rw [if_neg (by omega), if_neg (by omega), if_pos rfl]
  have cF : ∀ u, u < m + 2 → Conn (R2 a F (m + 2)) u (F u) := fun u hu => .one ⟨hu, .inr rfl⟩
  have cA : ∀ u, u < m + 2 → Conn (R2 a F (m + 2)) u (a u) := fun u hu => .one ⟨hu, .inl rfl⟩
  have n12 : Conn (R2 a F (m + 2)) nx ny := by
    rcases hn with ⟨q1, q2⟩ | ⟨q1, q2⟩
    · rw [q1, q2, ← e]; exact cA p (by omega)
    · rw [q1, q2, ← e]; exact (cA p (by omega)).symm
  have xy : Conn (R2 a F (m + 2)) (up p x) (up p y) := by
    have h1 := cF (up p x) (by omega)
    have h3 := cF (up p y) (by omega)
    rw [f1] at h1
    rw [f3] at h3
    exact (h1.trans n12).trans h3.symm
  have cU : ∀ u, u < m → Conn (R2 a F (m + 2)) (up p x) (up p u) := fun u hu => by
    refine (conn_map (V := fun v => v < m) (up p) (fun s t hs hst => ?_) (h x u hx hu) hx).2
    obtain ⟨ht, q⟩ := R2_symm RA.inv2 B.inv2 hs hst
    refine ⟨ht, ?_⟩
    have us := up_cases p s
    rcases q with q | q
    · rw [← q, hr s hs, (rem_up A (by omega) e hs).2]
      exact cA _ (by omega)
    · by_cases c1 : s = x
      · have : t = y := by rw [← q, c1, e1]
        rw [c1, this]; exact xy
      · by_cases c2 : s = y
        · have : t = x := by rw [← q, c2, e2]
          rw [c2, this]; exact xy.symm
        · have hus : F (up p s) = up p t := by
            rw [hF _ (by omega)]
            unfold joinF
            rw [if_neg (by omega), if_neg (by omega), if_neg (by omega), if_neg (by omega)]
            have : dwn p (up p s) = s := by have := dwn_cases p (up p s); omega
            rw [this, q]
          rw [← hus]
          exact cF _ (by omega)
  have cAll : ∀ u, u < m + 2 → Conn (R2 a F (m + 2)) (up p x) u := fun u hu => by
    have cx : Conn (R2 a F (m + 2)) (up p x) nx := by rw [← f1]; exact cF _ (by omega)
    by_cases c1 : u = nx
    · rw [c1]; exact cx
    · by_cases c2 : u = ny
      · rw [c2]; exact cx.trans n12
      · have h1 : dwn p u < m := by have := dwn_cases p u; omega
        have h2 : up p (dwn p u) = u := by have := dwn_cases p u; have := up_cases p (dwn p u); omega
        have := cU _ h1
        rw [h2] at this
        exact this
  exact fun u v hu hv => (cAll u hu).symm.trans (cAll v hv)
end Rm

set_option linter.all false
namespace Rm
/-! ## two neighbours tied and taken out -/
def capF (p : Nat) (f : Nat → Nat) (k : Nat) : Nat := if f (up p k) = p then dwn p (f (p + 1)) else if f (up p k) = p + 1 then dwn p (f p) else dwn p (f (up p k))
/-- what is known of a point that stays -/
theorem cap_up {m p k : Nat} {f : Nat → Nat} (A : Arcs (m + 2) f) (hp : p + 1 < m + 2) (hk : k < m) : capF p f k < m ∧
    ((f (up p k) = p ∧ f p = up p k ∧ f (p + 1) ≠ p ∧ f (p + 1) ≠ p + 1 ∧ up p (capF p f k) = f (p + 1)) ∨ (f (up p k) = p + 1 ∧ f (p + 1) = up p k ∧ f p ≠ p + 1 ∧ f p ≠ p ∧ up p (capF p f k) = f p) ∨ (f (up p k) ≠ p ∧ f (up p k) ≠ p + 1 ∧ up p (capF p f k) = f (up p k))) := by
  have hu := up_cases p k
  have hul : up p k < m + 2 := by omega
  have l1 := A.lt _ hul
  have i1 := A.inv _ hul
  have lp := A.lt p (by omega)
  have lq := A.lt (p + 1) hp
  have ip := A.inv p (by omega)
  have iq := A.inv (p + 1) hp
  have np := A.ne p (by omega)
  have nq := A.ne (p + 1) hp
  unfold capF
  by_cases c1 : f (up p k) = p
  · rw [if_pos c1]
    rw [c1] at i1
    have n1 : f (p + 1) ≠ p := fun z => by rw [z] at iq; omega
    have hd := dwn_cases p (f (p + 1))
    have hv := up_cases p (dwn p (f (p + 1)))
    exact ⟨by omega, .inl ⟨c1, i1, n1, nq, by omega⟩⟩
  · rw [if_neg c1]
    by_cases c2 : f (up p k) = p + 1
    · rw [if_pos c2]
      rw [c2] at i1
      have n1 : f p ≠ p + 1 := fun z => by rw [z] at ip; omega
      have hd := dwn_cases p (f p)
      have hv := up_cases p (dwn p (f p))
      exact ⟨by omega, .inr (.inl ⟨c2, i1, n1, np, by omega⟩)⟩
    · rw [if_neg c2]
      have hd := dwn_cases p (f (up p k))
      have hv := up_cases p (dwn p (f (up p k)))
      exact ⟨by omega, .inr (.inr ⟨c1, c2, by omega⟩)⟩
theorem up_inj {p x y : Nat} (h : up p x = up p y) : x = y := by
  have := up_cases p x
  have := up_cases p y
  omega
theorem up_lt {p x y : Nat} : up p x < up p y ↔ x < y := by
  have := up_cases p x
  have := up_cases p y
  omega
theorem cap_arcs {m p : Nat} {f : Nat → Nat} (A : Arcs (m + 2) f) (hp : p + 1 < m + 2) : Arcs m (capF p f) := by
  have cu := fun k hk => cap_up A hp (k := k) hk
  have inv : ∀ k, k < m → capF p f (capF p f k) = k := fun k hk => by
    obtain ⟨l1, c1⟩ := cu k hk
    obtain ⟨l2, c2⟩ := cu _ l1
    apply up_inj (p := p)
    have ik := A.inv (up p k) (by have := up_cases p k; omega)
    have ip := A.inv p (by omega)
    have iq := A.inv (p + 1) hp
    rcases c1 with ⟨a1, a2, a3, a4, a5⟩ | ⟨a1, a2, a3, a4, a5⟩ | ⟨a1, a2, a3⟩
    · rw [a5, iq] at c2
      rcases c2 with ⟨b1, _⟩ | ⟨b1, b2, b3, b4, b5⟩ | ⟨_, b2, _⟩
      · omega
      · rw [b5, a2]
      · exact absurd rfl b2
    · rw [a5, ip] at c2
      rcases c2 with ⟨b1, b2, b3, b4, b5⟩ | ⟨b1, _⟩ | ⟨b1, _⟩
      · rw [b5, a2]
      · omega
      · exact absurd rfl b1
    · rw [a3, ik] at c2
      have hu := up_cases p k
      rcases c2 with ⟨b1, _⟩ | ⟨b1, _⟩ | ⟨_, _, b3⟩
      · omega
      · omega
      · exact b3
  refine ⟨fun k hk => (cu k hk).1, fun k hk e => ?_, inv, fun j k hjk hk h1 h2 => ?_⟩
  · obtain ⟨l1, c1⟩ := cu k hk
    rw [e] at c1
    have hu := up_cases p k
    have ik := A.inv (up p k) (by omega)
    have ip := A.inv p (by omega)
    have iq := A.inv (p + 1) hp
    have nk := A.ne (up p k) (by omega)
    rcases c1 with ⟨a1, a2, a3, a4, a5⟩ | ⟨a1, a2, a3, a4, a5⟩ | ⟨a1, a2, a3⟩
    · rw [← a5, a1] at iq; omega
    · rw [← a5, a1] at ip; omega
    · exact nk a3.symm
  · obtain ⟨lj, cj⟩ := cu j (by omega)
    obtain ⟨lk, ck⟩ := cu k hk
    have u1 := up_lt (p := p) (x := j) (y := k)
    have u2 := up_lt (p := p) (x := k) (y := capF p f j)
    have u3 := up_lt (p := p) (x := capF p f j) (y := capF p f k)
    have uj := up_cases p j
    have uk := up_cases p k
    have ij := A.inv (up p j) (by omega)
    have ik := A.inv (up p k) (by omega)
    have ip := A.inv p (by omega)
    have iq := A.inv (p + 1) hp
    have lp := A.lt p (by omega)
    have lq := A.lt (p + 1) hp
    have N : ∀ x y, x < m + 2 → y < m + 2 → ¬ (x < y ∧ y < f x ∧ f x < f y) := fun x y _ hy ⟨g1, g2, g3⟩ => A.nc x y g1 hy g2 g3
    have bJ : up p (capF p f j) < m + 2 := by have := up_cases p (capF p f j); omega
    have bK : up p (capF p f k) < m + 2 := by have := up_cases p (capF p f k); omega
    have nJ := up_cases p (capF p f j)
    have nK := up_cases p (capF p f k)
    have hJp : up p (capF p f j) ≠ p ∧ up p (capF p f j) ≠ p + 1 := by omega
    have hKp : up p (capF p f k) ≠ p ∧ up p (capF p f k) ≠ p + 1 := by omega
    have hjp : up p j ≠ p ∧ up p j ≠ p + 1 := by omega
    have hkp : up p k ≠ p ∧ up p k ≠ p + 1 := by omega
    have o1 : up p j < up p k := by omega
    have o2 : up p k < up p (capF p f j) := by omega
    have o3 : up p (capF p f j) < up p (capF p f k) := by omega
    have bj : up p j < m + 2 := by omega
    have bk : up p k < m + 2 := by omega
    clear nJ nK u1 u2 u3 uj uk cu inv
    have iJ := A.inv (up p (capF p f j)) bJ
    have iK := A.inv (up p (capF p f k)) bK
    generalize up p (capF p f j) = J at *
    generalize up p (capF p f k) = K at *
    generalize up p j = x at *
    generalize up p k = y at *
    rcases cj with ⟨a1, a2, a3, a4, a5⟩ | ⟨a1, a2, a3, a4, a5⟩ | ⟨a1, a2, a3⟩
    · rw [← a5] at iq
      rcases ck with ⟨b1, b2, b3, b4, b5⟩ | ⟨b1, b2, b3, b4, b5⟩ | ⟨b1, b2, b3⟩
      · omega
      · omega
      · rw [← b3] at ik
        have n1 := N x y bj bk
        have n2 := N y J bk bJ
        have n3 := N (p + 1) y hp bk
        have n4 := N y p bk (by omega)
        have n5 := N p y (by omega) bk
        have n6 := N y (p + 1) bk hp
        have n7 := N J y bJ bk
        have n8 := N x K bj bK
        have n9 := N J K bJ bK
        clear N A
        omega
    · rw [← a5] at ip
      rcases ck with ⟨b1, b2, b3, b4, b5⟩ | ⟨b1, b2, b3, b4, b5⟩ | ⟨b1, b2, b3⟩
      · omega
      · omega
      · rw [← b3] at ik
        have n1 := N x y bj bk
        have n2 := N y J bk bJ
        have n3 := N (p + 1) y hp bk
        have n4 := N y p bk (by omega)
        have n5 := N p y (by omega) bk
        have n6 := N y (p + 1) bk hp
        have n7 := N J y bJ bk
        have n8 := N x K bj bK
        have n9 := N J K bJ bK
        clear N A
        omega
    · rw [← a3] at ij
      rcases ck with ⟨b1, b2, b3, b4, b5⟩ | ⟨b1, b2, b3, b4, b5⟩ | ⟨b1, b2, b3⟩
      · rw [← b5] at iq
        have n1 := N x y bj bk
        have n2 := N x K bj bK
        have n3 := N (p + 1) x hp bj
        have n4 := N x p bj (by omega)
        have n5 := N p x (by omega) bj
        have n6 := N x (p + 1) bj hp
        have n7 := N K x bK bj
        have n8 := N y J bk bJ
        have n9 := N J K bJ bK
        clear N A
        omega
      · rw [← b5] at ip
        have n1 := N x y bj bk
        have n2 := N x K bj bK
        have n3 := N (p + 1) x hp bj
        have n4 := N x p bj (by omega)
        have n5 := N p x (by omega) bj
        have n6 := N x (p + 1) bj hp
        have n7 := N K x bK bj
        have n8 := N y J bk bJ
        have n9 := N J K bJ bK
        clear N A
        omega
      · have n1 := N x y bj bk
        clear N A
        omega
def CapR (m p : Nat) (f : Nat → Nat) (S : Nat → Nat → Prop) : Nat → Nat → Prop := fun u v => (u < m + 2 ∧ f u = v) ∨ (u = p ∧ v = p + 1) ∨ ∃ x y, S x y ∧ u = up p x ∧ v = up p y
def FR (m : Nat) (f : Nat → Nat) (S : Nat → Nat → Prop) : Nat → Nat → Prop := fun x y => (x < m ∧ f x = y) ∨ S x y
theorem up_dwn {p x : Nat} (h1 : x ≠ p) (h2 : x ≠ p + 1) : up p (dwn p x) = x := by
  have := dwn_cases p x
  have := up_cases p (dwn p x)
  omega
theorem dwn_up (p x : Nat) : dwn p (up p x) = x := by
  have := up_cases p x
  have := dwn_cases p (up p x)
  omega
theorem cap_conn {m p : Nat} {f : Nat → Nat} {S : Nat → Nat → Prop} (A : Arcs (m + 2) f) (hp : p + 1 < m + 2) (hS : ∀ x y, S x y → x < m ∧ y < m) {x y : Nat} (hx : x < m) (hy : y < m) :
    Conn (CapR m p f S) (up p x) (up p y) ↔ Conn (FR m (capF p f) S) x y := by
  have cu := fun k hk => cap_up A hp (k := k) hk
  have CA := cap_arcs A hp
  have ip := A.inv p (by omega)
  have iq := A.inv (p + 1) hp
  have np := A.ne p (by omega)
  have nq := A.ne (p + 1) hp
  have lp := A.lt p (by omega)
  have lq := A.lt (p + 1) hp
  have ub : ∀ k, k < m → up p k < m + 2 := fun k hk => by have := up_cases p k; omega
  have une : ∀ k, up p k ≠ p ∧ up p k ≠ p + 1 := fun k => by have := up_cases p k; omega
  have db : ∀ u, u < m + 2 → u ≠ p → u ≠ p + 1 → dwn p u < m := fun u hu h1 h2 => by have := dwn_cases p u; omega
  constructor
  · intro h
    let C : Nat → Prop := fun z => (∃ y, y < m ∧ z = up p y ∧ Conn (FR m (capF p f) S) x y) ∨ (z = p ∧ f p ≠ p + 1 ∧ Conn (FR m (capF p f) S) x (dwn p (f p))) ∨ (z = p + 1 ∧ f p ≠ p + 1 ∧ Conn (FR m (capF p f) S) x (dwn p (f (p + 1))))
    have fstep : ∀ u, u < m + 2 → C u → C (f u) := fun u hu hC => by
      rcases hC with ⟨y, hy, rfl, hc⟩ | ⟨rfl, hne, hc⟩ | ⟨rfl, hne, hc⟩
      · obtain ⟨l, c⟩ := cu y hy
        rcases c with ⟨a1, a2, a3, a4, a5⟩ | ⟨a1, a2, a3, a4, a5⟩ | ⟨a1, a2, a3⟩
        · rw [a1]
          exact .inr (.inl ⟨rfl, by rw [a2]; exact (une y).2, by rw [a2, dwn_up]; exact hc⟩)
        · rw [a1]
          exact .inr (.inr ⟨rfl, a3, by rw [a2, dwn_up]; exact hc⟩)
        · rw [← a3]
          exact .inl ⟨_, l, rfl, hc.trans (.one (.inl ⟨hy, rfl⟩))⟩
      · exact .inl ⟨_, db _ lp np hne, (up_dwn np hne).symm, hc⟩
      · have hq : f (p + 1) ≠ p := fun z => hne (by have := iq; rw [z] at this; exact this)
        exact .inl ⟨_, db _ lq hq nq, (up_dwn hq nq).symm, hc⟩
    have pq : f p ≠ p + 1 → capF p f (dwn p (f p)) = dwn p (f (p + 1)) ∧ dwn p (f p) < m := fun hne => by
      have hd := up_dwn np hne
      refine ⟨?_, db _ lp np hne⟩
      unfold capF
      rw [hd, ip, if_pos rfl]
    have hC : C (up p y) := by
      refine h.stays (C := C) (fun u v hu huv => ?_) (.inl ⟨x, hx, rfl, .refl x⟩)
      rcases huv with (⟨h1, rfl⟩ | ⟨rfl, rfl⟩ | ⟨s, t, hst, rfl, rfl⟩) | (⟨h1, rfl⟩ | ⟨rfl, rfl⟩ | ⟨s, t, hst, rfl, rfl⟩)
      · exact fstep u h1 hu
      · rcases hu with ⟨y, _, e, _⟩ | ⟨_, hne, hc⟩ | ⟨e, _⟩
        · exact absurd e.symm (une y).1
        · obtain ⟨e, l⟩ := pq hne
          exact .inr (.inr ⟨rfl, hne, hc.trans (.one (.inl ⟨l, e⟩))⟩)
        · omega
      · rcases hu with ⟨y, hy, e, hc⟩ | ⟨e, _⟩ | ⟨e, _⟩
        · have := up_inj e
          subst this
          exact .inl ⟨t, (hS _ _ hst).2, rfl, hc.trans (.one (.inr hst))⟩
        · exact absurd e (une s).1
        · exact absurd e (une s).2
      · have := fstep _ (A.lt v h1) hu
        rw [A.inv v h1] at this
        exact this
      · rcases hu with ⟨y, _, e, _⟩ | ⟨e, _⟩ | ⟨_, hne, hc⟩
        · exact absurd e.symm (une y).2
        · omega
        · obtain ⟨e, l⟩ := pq hne
          exact .inr (.inl ⟨rfl, hne, hc.trans (.back (.inl ⟨l, e⟩) (.refl _))⟩)
      · rcases hu with ⟨y, hy, e, hc⟩ | ⟨e, _⟩ | ⟨e, _⟩
        · have := up_inj e
          subst this
          exact .inl ⟨s, (hS _ _ hst).1, rfl, hc.trans (.back (.inr hst) (.refl _))⟩
        · exact absurd e (une t).1
        · exact absurd e (une t).2
    rcases hC with ⟨y', _, e, hc⟩ | ⟨e, _⟩ | ⟨e, _⟩
    · rw [up_inj e]; exact hc
    · exact absurd e (une y).1
    · exact absurd e (une y).2
  · intro h
    refine (conn_map (V := fun v => v < m) (up p) (fun s t hs hst => ?_) h hx).2
    have key : ∀ s, s < m → Conn (CapR m p f S) (up p s) (up p (capF p f s)) := fun s hs => by
      obtain ⟨l, c⟩ := cu s hs
      have e1 : Conn (CapR m p f S) (up p s) (f (up p s)) := .one (.inl ⟨ub s hs, rfl⟩)
      have e2 : Conn (CapR m p f S) p (p + 1) := .one (.inr (.inl ⟨rfl, rfl⟩))
      have e3 : Conn (CapR m p f S) p (f p) := .one (.inl ⟨by omega, rfl⟩)
      have e4 : Conn (CapR m p f S) (p + 1) (f (p + 1)) := .one (.inl ⟨hp, rfl⟩)
      rcases c with ⟨a1, a2, a3, a4, a5⟩ | ⟨a1, a2, a3, a4, a5⟩ | ⟨a1, a2, a3⟩
      · rw [a5]; rw [a1] at e1; exact (e1.trans e2).trans e4
      · rw [a5]; rw [a1] at e1; exact (e1.trans e2.symm).trans e3
      · rw [a3]; exact e1
    rcases hst with (⟨h1, rfl⟩ | hst) | (⟨h1, rfl⟩ | hst)
    · exact ⟨CA.lt s h1, key s h1⟩
    · exact ⟨(hS _ _ hst).2, .one (.inr (.inr ⟨s, t, hst, rfl, rfl⟩))⟩
    · exact ⟨h1, (key t h1).symm⟩
    · exact ⟨(hS _ _ hst).1, .back (.inr (.inr ⟨t, s, hst, rfl, rfl⟩)) (.refl _)⟩
/-- the glue: what is left in the middle is tied in mirror order -/
def GlueR (n t : Nat) : Nat → Nat → Prop := fun u v => n ≤ u ∧ u < n + 2 * t ∧ v = 2 * n + 2 * t - 1 - u
def ext (n t x : Nat) : Nat := if x < n then x else x + 2 * t
theorem conn_congr {R R' : Nat → Nat → Prop} {x y : Nat} (h1 : ∀ u v, R u v → Conn R' u v) (h2 : ∀ u v, R' u v → Conn R u v) : Conn R x y ↔ Conn R' x y := ⟨fun h => h.mono h1, fun h => h.mono h2⟩
theorem arcs_conn {m : Nat} {f : Nat → Nat} (A : Arcs m f) {x y : Nat} (hx : x < m) : Conn (fun u v => u < m ∧ f u = v) x y ↔ x = y ∨ f x = y := by
  constructor
  · intro h
    refine h.stays (C := fun z => x = z ∨ f x = z) (fun u v hu huv => ?_) (.inl rfl)
    rcases huv with ⟨h1, rfl⟩ | ⟨h1, rfl⟩
    · rcases hu with rfl | rfl
      · exact .inr rfl
      · exact .inl (A.inv x hx).symm
    · rcases hu with e | e
      · right
        rw [e, A.inv v h1]
      · left
        have := congrArg f e
        rw [A.inv x hx, A.inv v h1] at this
        exact this
  · rintro (rfl | rfl)
    · exact .refl x
    · exact .one ⟨hx, rfl⟩
/-- all the middle taken out -/
theorem cap_all {n : Nat} : ∀ (t : Nat) (f : Nat → Nat), Arcs (2 * n + 2 * t) f → ∃ g, Arcs (2 * n) g ∧ ∀ x y, x < 2 * n → y < 2 * n → (Conn (FR (2 * n + 2 * t) f (GlueR n t)) (ext n t x) (ext n t y) ↔ x = y ∨ g x = y)
  | 0, f, A => by
    refine ⟨f, A, fun x y hx hy => ?_⟩
    have e : ∀ x, ext n 0 x = x := fun x => by unfold ext; split <;> omega
    rw [e, e, ← arcs_conn A hx]
    refine conn_congr (fun u v h => ?_) (fun u v h => .one (.inl h))
    rcases h with h | ⟨h1, h2, _⟩
    · exact .one h
    · omega
  | t + 1, f, A => by
    have A' : Arcs (2 * n + 2 * t + 2) f := A
    have hp : n + t + 1 < 2 * n + 2 * t + 2 := by omega
    obtain ⟨g, G, hg⟩ := cap_all t (capF (n + t) f) (cap_arcs A' hp)
    refine ⟨g, G, fun x y hx hy => ?_⟩
    rw [← hg x y hx hy]
    have eu : ∀ x, x < 2 * n → ext n t x < 2 * n + 2 * t ∧ ext n (t + 1) x = up (n + t) (ext n t x) := fun x hx => by
      unfold ext
      have h1 := up_cases (n + t) x
      have h2 := up_cases (n + t) (x + 2 * t)
      split
      · omega
      · omega
    have hS : ∀ u v, GlueR n t u v → u < 2 * n + 2 * t ∧ v < 2 * n + 2 * t := fun u v ⟨h1, h2, h3⟩ => by omega
    rw [(eu x hx).2, (eu y hy).2, ← cap_conn A' hp hS (eu x hx).1 (eu y hy).1]
    refine conn_congr (fun u v h => ?_) (fun u v h => ?_)
    · rcases h with h | ⟨h1, h2, h3⟩
      · exact .one (.inl h)
      · by_cases c1 : u = n + t
        · exact .one (.inr (.inl ⟨c1, by omega⟩))
        · by_cases c2 : u = n + t + 1
          · exact .back (.inr (.inl ⟨by omega, c2⟩)) (.refl _)
          · refine .one (.inr (.inr ⟨dwn (n + t) u, dwn (n + t) v, ?_, (up_dwn c1 c2).symm, (up_dwn (by omega) (by omega)).symm⟩))
            have d1 := dwn_cases (n + t) u
            have d2 := dwn_cases (n + t) v
            exact ⟨by omega, by omega, by omega⟩
    · rcases h with h | ⟨h1, h2⟩ | ⟨s, r, ⟨h1, h2, h3⟩, h4, h5⟩
      · exact .one (.inl h)
      · exact .one (.inr ⟨by omega, by omega, by omega⟩)
      · have d1 := up_cases (n + t) s
        have d2 := up_cases (n + t) r
        exact .one (.inr ⟨by omega, by omega, by omega⟩)
end Rm

set_option linter.all false
namespace Rm
/-! ## one row laid beneath another -/
def LR (n : Nat) (a b : Nat → Nat) : Nat → Nat → Prop := FR (2 * n + 2 * n) (sideF (2 * n) a b) (GlueR n n)
theorem laid_some {n : Nat} {a b : Nat → Nat} (A : Arcs (2 * n) a) (B : Arcs (2 * n) b) : ∃ g, Arcs (2 * n) g ∧ ∀ x y, x < 2 * n → y < 2 * n → (Conn (LR n a b) (ext n n x) (ext n n y) ↔ x = y ∨ g x = y) :=
  cap_all n _ (side_arcs A B)
/-- what comes is told by what is joined -/
theorem laid_one {n : Nat} {R : Nat → Nat → Prop} {g h : Nat → Nat} (hg : ∀ x y, x < 2 * n → y < 2 * n → (Conn R (ext n n x) (ext n n y) ↔ x = y ∨ g x = y)) {x : Nat} (hx : x < 2 * n) (hl : h x < 2 * n) (hne : h x ≠ x) (hc : Conn R (ext n n x) (ext n n (h x))) : h x = g x := by
  rcases (hg x (h x) hx hl).mp hc with e | e
  · exact absurd e.symm hne
  · exact e.symm
/-- an arc goes from an even place to an odd one or back -/
theorem par_aux {m : Nat} {f : Nat → Nat} (A : Arcs m f) : ∀ (d k : Nat), k < m → k < f k → f k - k ≤ d → (f k - k) % 2 = 1
  | 0, k, hk, h1, h2 => by omega
  | d + 1, k, hk, h1, h2 => by
    have lk := A.lt k hk
    have ik := A.inv k hk
    have inner : ∀ (e q : Nat), k < q → q ≤ f k → f k - q ≤ e → (q - k) % 2 = 1 → (∀ r, k < r → r < q → f r < q ∧ k < f r) → (f k - k) % 2 = 1 := by
      intro e
      induction e with
      | zero =>
        intro q g1 g2 g3 g4 _
        have : q = f k := by omega
        rw [← this]
        exact g4
      | succ e ih =>
        intro q g1 g2 g3 g4 g5
        by_cases c : q = f k
        · rw [← c]; exact g4
        · have hq : q < m := by omega
          have lq := A.lt q hq
          have iq := A.inv q hq
          have nq := A.ne q hq
          have n1 : f q ≠ k := fun z => by rw [z] at iq; exact c iq.symm
          have n2 : f q ≠ f k := fun z => by rw [z, ik] at iq; omega
          have up1 : q < f q := by
            by_cases h : q < f q
            · exact h
            · exfalso
              by_cases h3 : k < f q
              · have := (g5 (f q) h3 (by omega)).1
                rw [iq] at this
                omega
              · exact A.nc (f q) k (by omega) hk (by rw [iq]; omega) (by rw [iq]; omega)
          have up2 : f q < f k := by
            by_cases h : f q < f k
            · exact h
            · exact (A.nc k q g1 hq (by omega) (by omega)).elim
          have odd := par_aux A d q hq up1 (by omega)
          refine ih (f q + 1) (by omega) (by omega) (by omega) (by omega) (fun r r1 r2 => ?_)
          by_cases c1 : r < q
          · have := g5 r r1 c1
            omega
          · by_cases c2 : r = q
            · subst c2; omega
            · by_cases c3 : r = f q
              · subst c3; omega
              · have hr : r < m := by omega
                have ir := A.inv r hr
                have lr := A.lt r hr
                have w1 : ¬ f q < f r := fun h => A.nc q r (by omega) hr (by omega) h
                have w2 : f r ≠ f q := fun z => by rw [z, iq] at ir; omega
                have w3 : ¬ f r < q := fun h => by
                  by_cases h3 : k < f r
                  · have := (g5 (f r) h3 h).1
                    rw [ir] at this
                    omega
                  · by_cases h4 : f r = k
                    · rw [h4] at ir; omega
                    · exact A.nc (f r) k (by omega) hk (by rw [ir]; omega) (by rw [ir]; omega)
                omega
    exact inner (f k - (k + 1)) (k + 1) (by omega) (by omega) (by omega) (by omega) (fun r r1 r2 => by omega)
theorem arcs_par {m : Nat} {f : Nat → Nat} (A : Arcs m f) {k : Nat} (hk : k < m) : (k + f k) % 2 = 1 := by
  have ne := A.ne k hk
  by_cases h : k < f k
  · have := par_aux A _ k hk h (Nat.le_refl _)
    omega
  · have ik := A.inv k hk
    have lk := A.lt k hk
    have := par_aux A _ (f k) lk (by rw [ik]; omega) (Nat.le_refl _)
    rw [ik] at this
    omega
/-! ### the way that is gone from an outer end -/
def rowsA (n : Nat) (a b : Nat → Nat) : Nat → Nat := sideF (2 * n) a b
def mid (n v : Nat) : Prop := n ≤ v ∧ v < 3 * n
def gi (n w : Nat) : Nat := if w < 2 * n then 2 * n - 1 - w else w - 2 * n
def way (n : Nat) (a b : Nat → Nat) (k : Nat) : Nat → Nat
  | 0 => ext n n k
  | i + 1 => 4 * n - 1 - rowsA n a b (way n a b k i)
theorem rows_arcs {n : Nat} {a b : Nat → Nat} (A : Arcs (2 * n) a) (B : Arcs (2 * n) b) : Arcs (4 * n) (rowsA n a b) := by
  have := side_arcs A B
  rw [show 2 * n + 2 * n = 4 * n by omega] at this
  exact this
theorem ext_lt {n x : Nat} (h : x < 2 * n) : ext n n x < 4 * n ∧ ¬ mid n (ext n n x) := by
  unfold ext mid
  split <;> omega
theorem way_lt {n : Nat} {a b : Nat → Nat} {k : Nat} (A : Arcs (2 * n) a) (B : Arcs (2 * n) b) (hk : k < 2 * n) : ∀ t, (∀ i, i < t → mid n (rowsA n a b (way n a b k i))) → way n a b k t < 4 * n ∧ (0 < t → mid n (way n a b k t))
  | 0, _ => ⟨(ext_lt hk).1, fun h => absurd h (Nat.lt_irrefl 0)⟩
  | t + 1, h => by
    have := h t (by omega)
    have e : way n a b k (t + 1) = 4 * n - 1 - rowsA n a b (way n a b k t) := rfl
    unfold mid at this ⊢
    omega
/-- no place comes twice -/
theorem way_inj {n : Nat} {a b : Nat → Nat} {k : Nat} (A : Arcs (2 * n) a) (B : Arcs (2 * n) b) (hk : k < 2 * n) {t : Nat} (h : ∀ i, i < t → mid n (rowsA n a b (way n a b k i))) : ∀ i j, i < j → j ≤ t → way n a b k i ≠ way n a b k j
  | 0, j, hij, hj, e => by
    have h1 := (way_lt A B hk j (fun i hi => h i (by omega))).2 hij
    rw [← e] at h1
    exact (ext_lt hk).2 h1
  | i + 1, 0, hij, _, _ => absurd hij (Nat.not_lt_zero _)
  | i + 1, j + 1, hij, hj, e => by
    have R := rows_arcs A B
    have l1 := (way_lt A B hk i (fun x hx => h x (by omega))).1
    have l2 := (way_lt A B hk j (fun x hx => h x (by omega))).1
    have m1 := h i (by omega)
    have m2 := h j (by omega)
    have e' : 4 * n - 1 - rowsA n a b (way n a b k i) = 4 * n - 1 - rowsA n a b (way n a b k j) := e
    unfold mid at m1 m2
    have e2 : rowsA n a b (way n a b k i) = rowsA n a b (way n a b k j) := by omega
    have e3 := congrArg (rowsA n a b) e2
    rw [R.inv _ l1, R.inv _ l2] at e3
    exact way_inj A B hk h i j (by omega) (by omega) e3
theorem way_len {n : Nat} {a b : Nat → Nat} {k : Nat} (A : Arcs (2 * n) a) (B : Arcs (2 * n) b) (hk : k < 2 * n) {t : Nat} (h : ∀ i, i < t → mid n (rowsA n a b (way n a b k i))) : t + 1 ≤ 4 * n :=
  inj_le (fun i => way n a b k i) (fun i hi => (way_lt A B hk i (fun x hx => h x (by omega))).1) (fun i j hi hj e => by
    rcases Nat.lt_trichotomy i j with c | c | c
    · exact absurd e (way_inj A B hk h i j c (by omega))
    · exact c
    · exact absurd e.symm (way_inj A B hk h j i c (by omega)))
theorem lr_row {n : Nat} {a b : Nat → Nat} {v : Nat} (h : v < 4 * n) : Conn (LR n a b) v (rowsA n a b v) := .one (.inl ⟨by omega, rfl⟩)
theorem lr_glue {n : Nat} {a b : Nat → Nat} {v : Nat} (h : mid n v) : Conn (LR n a b) v (4 * n - 1 - v) := by
  unfold mid at h
  exact .one (.inr ⟨by omega, by omega, by omega⟩)
theorem way_conn {n : Nat} {a b : Nat → Nat} {k : Nat} (A : Arcs (2 * n) a) (B : Arcs (2 * n) b) (hk : k < 2 * n) : ∀ t, (∀ i, i < t → mid n (rowsA n a b (way n a b k i))) → Conn (LR n a b) (ext n n k) (way n a b k t) ∧ (way n a b k t + ext n n k) % 2 = 0
  | 0, _ => ⟨.refl _, by show (ext n n k + ext n n k) % 2 = 0; omega⟩
  | t + 1, h => by
    have ih := way_conn A B hk t (fun i hi => h i (by omega))
    have l1 := (way_lt A B hk t (fun x hx => h x (by omega))).1
    have m := h t (by omega)
    have p := arcs_par (rows_arcs A B) l1
    have e : way n a b k (t + 1) = 4 * n - 1 - rowsA n a b (way n a b k t) := rfl
    refine ⟨(ih.1.trans (lr_row l1)).trans (lr_glue m), ?_⟩
    rw [e]
    unfold mid at m
    omega
/-- where the way comes out -/
theorem way_out {n : Nat} {a b g : Nat → Nat} {k x t : Nat} (A : Arcs (2 * n) a) (B : Arcs (2 * n) b) (hk : k < 2 * n) (hg : ∀ x y, x < 2 * n → y < 2 * n → (Conn (LR n a b) (ext n n x) (ext n n y) ↔ x = y ∨ g x = y))
    (h : ∀ i, i < t → mid n (rowsA n a b (way n a b k i))) (hx : x < 2 * n) (hxe : ext n n x = rowsA n a b (way n a b k t)) : x = g k := by
  have l1 := (way_lt A B hk t h).1
  have c := way_conn A B hk t h
  have p := arcs_par (rows_arcs A B) l1
  have hc : Conn (LR n a b) (ext n n k) (ext n n x) := by rw [hxe]; exact c.1.trans (lr_row l1)
  rcases (hg k x hk hx).mp hc with e | e
  · rw [← e] at hxe
    rw [← hxe] at p
    omega
  · exact e.symm
end Rm

set_option linter.all false
namespace Rm
/-! ## what comes of two rows: all of it -/
theorem comp_eqv {V V' : Nat → Prop} {R R' : Nat → Nat → Prop} {c : Nat} (φ ψ : Nat → Nat) (hφ : ∀ v, V v → V' (φ v)) (hψ : ∀ w, V' w → V (ψ w)) (h1 : ∀ v, V v → Conn R (ψ (φ v)) v) (h2 : ∀ w, V' w → Conn R' (φ (ψ w)) w)
    (hR : ∀ x y, V x → (R x y ∨ R y x) → V y ∧ Conn R' (φ x) (φ y)) (hR' : ∀ x y, V' x → (R' x y ∨ R' y x) → V' y ∧ Conn R (ψ x) (ψ y)) (h : Comp V R c) : Comp V' R' c := by
  obtain ⟨f, f1, f2, f3⟩ := h
  refine ⟨fun w => f (ψ w), fun v hv => f1 _ (hψ v hv), fun i hi => ?_, fun u v hu hv => ⟨fun e => ?_, fun h => ?_⟩⟩
  · obtain ⟨v, hv, e⟩ := f2 i hi
    refine ⟨φ v, hφ v hv, ?_⟩
    show f (ψ (φ v)) = i
    rw [(f3 _ _ (hψ _ (hφ v hv)) hv).mpr (h1 v hv)]
    exact e
  · have q := (f3 _ _ (hψ u hu) (hψ v hv)).mp e
    have q2 := (conn_map φ hR q (hψ u hu)).2
    exact ((h2 u hu).symm.trans q2).trans (h2 v hv)
  · exact (f3 _ _ (hψ u hu) (hψ v hv)).mpr (conn_map ψ hR' h hu).2
/-- what is said of the arcs f and the number r of rings that come of the rows a, b -/
structure Lrn (n : Nat) (a b f : Nat → Nat) (r : Nat) : Prop where
  arcs : Arcs (2 * n) f
  con : ∀ x y, x < 2 * n → y < 2 * n → (Conn (LR n a b) (ext n n x) (ext n n y) ↔ x = y ∨ f x = y)
  rings : Comp (fun v => v < 4 * n ∧ ∀ x, x < 2 * n → ¬ Conn (LR n a b) (ext n n x) v) (LR n a b) r
/-! ### what is met -/
def Far (n : Nat) (a b : Nat → Nat) (T : Nat → Nat) : Prop := ∀ k, k < 2 * n → (∀ i, i < T k → mid n (rowsA n a b (way n a b k i))) ∧ ¬ mid n (rowsA n a b (way n a b k (T k)))
theorem gi_lt {n w : Nat} (h : mid n w) : gi n w < n := by
  unfold mid at h
  unfold gi
  split <;> omega
theorem gi_glue {n w : Nat} (h : mid n w) : gi n (4 * n - 1 - w) = gi n w := by
  unfold mid at h
  unfold gi
  split <;> split <;> omega
theorem gi_eq {n v w : Nat} (hv : mid n v) (hw : mid n w) (h : gi n v = gi n w) : v = w ∨ v = 4 * n - 1 - w := by
  unfold mid at hv hw
  unfold gi at h
  split at h <;> split at h <;> omega
theorem lr_gi {n : Nat} {a b : Nat → Nat} {w : Nat} (h : mid n w) : Conn (LR n a b) w (2 * n + gi n w) := by
  have h2 := lr_glue (a := a) (b := b) h
  unfold mid at h
  unfold gi
  split
  · rw [show 2 * n + (2 * n - 1 - w) = 4 * n - 1 - w by omega]; exact h2
  · rw [show 2 * n + (w - 2 * n) = w by omega]; exact .refl _
theorem ext_of {n v : Nat} (hv : v < 4 * n) (h : ¬ mid n v) : ∃ x, x < 2 * n ∧ ext n n x = v := by
  unfold mid at h
  by_cases c : v < n
  · exact ⟨v, by omega, by unfold ext; rw [if_pos c]⟩
  · exact ⟨v - 2 * n, by omega, by unfold ext; rw [if_neg (by omega)]; omega⟩
theorem lr_step {n : Nat} {a b : Nat → Nat} (A : Arcs (2 * n) a) (B : Arcs (2 * n) b) {u v : Nat} (hu : u < 4 * n) (h : LR n a b u v ∨ LR n a b v u) : v < 4 * n ∧ (v = rowsA n a b u ∨ (mid n u ∧ mid n v ∧ v = 4 * n - 1 - u)) := by
  have R := rows_arcs A B
  rcases h with (⟨h1, e⟩ | ⟨h1, h2, h3⟩) | (⟨h1, e⟩ | ⟨h1, h2, h3⟩)
  · have e' : rowsA n a b u = v := e
    exact ⟨by rw [← e']; exact R.lt u hu, .inl e'.symm⟩
  · refine ⟨by omega, .inr ?_⟩
    unfold mid
    omega
  · have e' : rowsA n a b v = u := e
    exact ⟨by omega, .inl (by rw [← e', R.inv v (by omega)])⟩
  · refine ⟨by omega, .inr ?_⟩
    unfold mid
    omega
theorem met_iff {n : Nat} {a b T : Nat → Nat} (A : Arcs (2 * n) a) (B : Arcs (2 * n) b) (hT : Far n a b T) {j : Nat} (hj : j < n) :
    (∃ k i, k < 2 * n ∧ i < T k ∧ j = gi n (rowsA n a b (way n a b k i))) ↔ ∃ x, x < 2 * n ∧ Conn (LR n a b) (ext n n x) (2 * n + j) := by
  have R := rows_arcs A B
  constructor
  · rintro ⟨k, i, hk, hi, rfl⟩
    have hm := (hT k hk).1
    have c := (way_conn A B hk i (fun x hx => hm x (by omega))).1
    have l := (way_lt A B hk i (fun x hx => hm x (by omega))).1
    exact ⟨k, hk, (c.trans (lr_row l)).trans (lr_gi (hm i hi))⟩
  · rintro ⟨x, hx, h⟩
    let C : Nat → Prop := fun v => v < 4 * n ∧ (mid n v → ∃ k i, k < 2 * n ∧ i < T k ∧ gi n v = gi n (rowsA n a b (way n a b k i)))
    have hC : C (2 * n + j) := by
      refine h.stays (C := C) (fun u v hu huv => ?_) ⟨(ext_lt hx).1, fun z => absurd z (ext_lt hx).2⟩
      obtain ⟨hu4, hum⟩ := hu
      obtain ⟨hv4, hv⟩ := lr_step A B hu4 huv
      refine ⟨hv4, fun hvm => ?_⟩
      rcases hv with e | ⟨h1, h2, e⟩
      · by_cases c : mid n u
        · obtain ⟨k, i, hk, hi, hg⟩ := hum c
          have hm := (hT k hk).1
          have l := (way_lt A B hk i (fun x hx => hm x (by omega))).1
          rcases gi_eq c (hm i hi) hg with e1 | e1
          · rw [e1, R.inv _ l] at e
            cases i with
            | zero => rw [e] at hvm; exact absurd hvm (ext_lt hk).2
            | succ i =>
              refine ⟨k, i, hk, by omega, ?_⟩
              rw [e]
              exact gi_glue (hm i (by omega))
          · have e2 : u = way n a b k (i + 1) := e1
            rw [e2] at e
            by_cases c2 : i + 1 < T k
            · exact ⟨k, i + 1, hk, c2, by rw [e]⟩
            · have : i + 1 = T k := by omega
              rw [this] at e
              rw [e] at hvm
              exact absurd hvm (hT k hk).2
        · obtain ⟨k, hk, ek⟩ := ext_of hu4 c
          refine ⟨k, 0, hk, ?_, ?_⟩
          · by_cases c2 : 0 < T k
            · exact c2
            · have h0 : T k = 0 := by omega
              have := (hT k hk).2
              rw [h0] at this
              have e3 : way n a b k 0 = u := ek
              rw [e3, ← e] at this
              exact absurd hvm this
          · have e3 : way n a b k 0 = u := ek
            rw [e3, ← e]
      · obtain ⟨k, i, hk, hi, hg⟩ := hum h1
        exact ⟨k, i, hk, hi, by rw [e, gi_glue h1]; exact hg⟩
    obtain ⟨k, i, hk, hi, hg⟩ := hC.2 (by unfold mid; omega)
    refine ⟨k, i, hk, hi, ?_⟩
    rw [← hg]
    unfold gi
    rw [if_neg (by omega)]
    omega
/-! ### the rings -/
def alF (n : Nat) (c : Nat → Nat) (s : List Nat) (j : Nat) : Nat := if j < n then (if j ∈ s then n + j else c j) else if j - n ∈ s then j - n else n + c (j - n)
theorem alF_in {n j : Nat} {c : Nat → Nat} {s : List Nat} (h : j < n) (hs : j ∉ s) : alF n c s j = c j := by unfold alF; rw [if_pos h, if_neg hs]
theorem alF_met {n j : Nat} {c : Nat → Nat} {s : List Nat} (h : j < n) (hs : j ∈ s) : alF n c s j = n + j := by unfold alF; rw [if_pos h, if_pos hs]
theorem alF_up {n j : Nat} {c : Nat → Nat} {s : List Nat} (hs : j ∈ s) : alF n c s (n + j) = j := by unfold alF; rw [if_neg (by omega), Nat.add_sub_cancel_left, if_pos hs]
theorem alF_up' {n j : Nat} {c : Nat → Nat} {s : List Nat} (hs : j ∉ s) : alF n c s (n + j) = n + c j := by unfold alF; rw [if_neg (by omega), Nat.add_sub_cancel_left, if_neg hs]
def Own (n : Nat) (c : Nat → Nat) (s : List Nat) : Prop := ∀ j, j < n → j ∉ s → c j < n ∧ c j ∉ s ∧ c j ≠ j ∧ c (c j) = j
theorem alF_inv2 {n : Nat} {c : Nat → Nat} {s : List Nat} (hs : ∀ j, j ∈ s → j < n) (h : Own n c s) : Inv2 (2 * n) (alF n c s) := by
  have cs : ∀ k, k < 2 * n → (k < n ∧ k ∈ s) ∨ (k < n ∧ k ∉ s) ∨ (∃ j, k = n + j ∧ j < n ∧ j ∈ s) ∨ (∃ j, k = n + j ∧ j < n ∧ j ∉ s) := fun k hk => by
    by_cases c1 : k < n
    · by_cases c2 : k ∈ s
      · exact .inl ⟨c1, c2⟩
      · exact .inr (.inl ⟨c1, c2⟩)
    · by_cases c2 : k - n ∈ s
      · exact .inr (.inr (.inl ⟨k - n, by omega, by omega, c2⟩))
      · exact .inr (.inr (.inr ⟨k - n, by omega, by omega, c2⟩))
  refine ⟨fun k hk => ?_, fun k hk => ?_, fun k hk => ?_⟩
  · rcases cs k hk with ⟨h1, h2⟩ | ⟨h1, h2⟩ | ⟨j, rfl, h1, h2⟩ | ⟨j, rfl, h1, h2⟩
    · rw [alF_met h1 h2]; omega
    · rw [alF_in h1 h2]; have := (h k h1 h2).1; omega
    · rw [alF_up h2]; omega
    · rw [alF_up' h2]; have := (h j h1 h2).1; omega
  · rcases cs k hk with ⟨h1, h2⟩ | ⟨h1, h2⟩ | ⟨j, rfl, h1, h2⟩ | ⟨j, rfl, h1, h2⟩
    · rw [alF_met h1 h2]; omega
    · rw [alF_in h1 h2]; exact (h k h1 h2).2.2.1
    · rw [alF_up h2]; omega
    · rw [alF_up' h2]; have := (h j h1 h2).2.2.1; omega
  · rcases cs k hk with ⟨h1, h2⟩ | ⟨h1, h2⟩ | ⟨j, rfl, h1, h2⟩ | ⟨j, rfl, h1, h2⟩
    · rw [alF_met h1 h2, alF_up h2]
    · have := h k h1 h2
      rw [alF_in h1 h2, alF_in this.1 this.2.1, this.2.2.2]
    · rw [alF_up h2, alF_met h1 h2]
    · have := h j h1 h2
      rw [alF_up' h2, alF_up' this.2.1, this.2.2.2]
def s0F (n : Nat) (s : List Nat) : List Nat := s ++ (List.range n).map fun j => n + j
theorem mem_s0F {n : Nat} {s : List Nat} (hs : ∀ j, j ∈ s → j < n) {v : Nat} : v ∈ s0F n s ↔ (v < n ∧ v ∈ s) ∨ (n ≤ v ∧ v < 2 * n) := by
  unfold s0F
  rw [List.mem_append, List.mem_map]
  constructor
  · rintro (h | ⟨j, hj, rfl⟩)
    · exact .inl ⟨hs v h, h⟩
    · have := List.mem_range.mp hj
      exact .inr ⟨by omega, by omega⟩
  · rintro (⟨_, h⟩ | ⟨h1, h2⟩)
    · exact .inl h
    · exact .inr ⟨v - n, List.mem_range.mpr (by omega), by omega⟩
theorem s0F_cl {n : Nat} {c : Nat → Nat} {s : List Nat} (hs : ∀ j, j ∈ s → j < n) (h : Own n c s) {y : Nat} (hy : y ∈ s0F n s) : alF n c s y ∈ s0F n s := by
  rw [mem_s0F hs] at hy ⊢
  rcases hy with ⟨h1, h2⟩ | ⟨h1, h2⟩
  · rw [alF_met h1 h2]; omega
  · obtain ⟨j, rfl⟩ : ∃ j, y = n + j := ⟨y - n, by omega⟩
    by_cases c2 : j ∈ s
    · rw [alF_up c2]; exact .inl ⟨by omega, c2⟩
    · rw [alF_up' c2]
      have := (h j (by omega) c2).1
      omega
theorem s0F_seen {n : Nat} {c : Nat → Nat} {s : List Nat} (nd : s.Nodup) (hs : ∀ j, j ∈ s → j < n) (h : Own n c s) : Seen (alF n c s) (2 * n) (s0F n s) := by
  refine ⟨?_, fun x hx => ?_, fun x hx => s0F_cl hs h hx⟩
  · unfold s0F
    rw [List.nodup_append]
    refine ⟨nd, ?_, fun a ha b hb => ?_⟩
    · rw [List.Nodup, List.pairwise_map]
      exact List.pairwise_lt_range.imp (fun h => by omega)
    · obtain ⟨j, _, rfl⟩ := List.mem_map.mp hb
      have := hs a ha
      omega
  · rw [mem_s0F hs] at hx
    omega
/-- the way down a ring and up again -/
def bbF (n : Nat) (a : Nat → Nat) (j : Nat) : Nat := 2 * n - 1 - a (2 * n - 1 - j)
def ringsF (n : Nat) (a b : Nat → Nat) (s : List Nat) (i : Nat) : List (List Nat) := goR (alF n b s) (alF n (bbF n a) s) (2 * n) (s0F n s) i
structure Met (n : Nat) (a b : Nat → Nat) (s : List Nat) : Prop where
  nd : s.Nodup
  lt : ∀ j, j ∈ s → j < n
  iff : ∀ j, j < n → (j ∈ s ↔ ∃ x, x < 2 * n ∧ Conn (LR n a b) (ext n n x) (2 * n + j))
/-- what is not met: its places inside -/
theorem Met.mid {n : Nat} {a b : Nat → Nat} {s : List Nat} (M : Met n a b s) {j : Nat} (hj : j < n) (hs : j ∉ s) {v : Nat} (hv : v < 4 * n) (h : Conn (LR n a b) (2 * n + j) v) : Rm.mid n v ∧ gi n v ∉ s := by
  have h1 : Rm.mid n v := by
    by_cases c : Rm.mid n v
    · exact c
    · obtain ⟨x, hx, e⟩ := ext_of hv c
      exact absurd ((M.iff j hj).mpr ⟨x, hx, by rw [e]; exact h.symm⟩) hs
  refine ⟨h1, fun z => ?_⟩
  obtain ⟨x, hx, c⟩ := (M.iff _ (gi_lt h1)).mp z
  exact hs ((M.iff j hj).mpr ⟨x, hx, (c.trans (lr_gi h1).symm).trans h.symm⟩)
theorem rows_lo {n : Nat} {a b : Nat → Nat} {w : Nat} (h : w < 2 * n) : rowsA n a b w = a w := by unfold rowsA sideF; rw [if_pos h]
theorem rows_hi {n : Nat} {a b : Nat → Nat} {j : Nat} : rowsA n a b (2 * n + j) = 2 * n + b j := by unfold rowsA sideF; rw [if_neg (by omega), Nat.add_sub_cancel_left]
theorem Met.ownB {n : Nat} {a b : Nat → Nat} {s : List Nat} (M : Met n a b s) (A : Arcs (2 * n) a) (B : Arcs (2 * n) b) : Own n b s := fun j hj hs => by
  have R := rows_arcs A B
  have c := lr_row (n := n) (a := a) (b := b) (v := 2 * n + j) (by omega)
  rw [rows_hi] at c
  have l := B.lt j (by omega)
  obtain ⟨h1, h2⟩ := M.mid hj hs (by omega) c
  have e : gi n (2 * n + b j) = b j := by unfold gi; rw [if_neg (by omega)]; omega
  rw [e] at h2
  unfold Rm.mid at h1
  exact ⟨by omega, h2, B.ne j (by omega), B.inv j (by omega)⟩
theorem bb_conn {n : Nat} {a b : Nat → Nat} {j : Nat} (hj : j < n) : Conn (LR n a b) (2 * n + j) (a (2 * n - 1 - j)) := by
  have c1 := lr_glue (n := n) (a := a) (b := b) (v := 2 * n + j) (by unfold Rm.mid; omega)
  rw [show 4 * n - 1 - (2 * n + j) = 2 * n - 1 - j by omega] at c1
  have c2 := lr_row (n := n) (a := a) (b := b) (v := 2 * n - 1 - j) (by omega)
  rw [rows_lo (by omega)] at c2
  exact c1.trans c2
theorem Met.ownA {n : Nat} {a b : Nat → Nat} {s : List Nat} (M : Met n a b s) (A : Arcs (2 * n) a) (B : Arcs (2 * n) b) : Own n (bbF n a) s := fun j hj hs => by
  have l := A.lt (2 * n - 1 - j) (by omega)
  have i := A.inv (2 * n - 1 - j) (by omega)
  have ne := A.ne (2 * n - 1 - j) (by omega)
  obtain ⟨h1, h2⟩ := M.mid hj hs (by omega) (bb_conn (a := a) (b := b) hj)
  have e : gi n (a (2 * n - 1 - j)) = bbF n a j := by unfold gi bbF; rw [if_pos l]
  rw [e] at h2
  unfold Rm.mid at h1
  refine ⟨by unfold bbF; omega, h2, by unfold bbF; omega, ?_⟩
  unfold bbF
  rw [show 2 * n - 1 - (2 * n - 1 - a (2 * n - 1 - j)) = a (2 * n - 1 - j) by omega, i]
  omega
theorem rings_comp {n : Nat} {a b : Nat → Nat} {s : List Nat} (M : Met n a b s) (A : Arcs (2 * n) a) (B : Arcs (2 * n) b) : Comp (fun v => v < 4 * n ∧ ∀ x, x < 2 * n → ¬ Conn (LR n a b) (ext n n x) v) (LR n a b) (ringsF n a b s n).length := by
  have oB := M.ownB A B
  have oA := M.ownA A B
  have IA := alF_inv2 M.lt oB
  have IB := alF_inv2 M.lt oA
  have c := comp_goR IA IB (s0F_seen M.nd M.lt oB) (fun y hy => s0F_cl M.lt oA hy)
  have e : goR (alF n b s) (alF n (bbF n a) s) (2 * n) (s0F n s) (2 * n) = ringsF n a b s n :=
    goR_skip (2 * n) (by omega) (fun x h1 h2 => List.mem_append.mpr (.inl ((mem_s0F M.lt).mpr (.inr ⟨h1, h2⟩))))
  rw [e] at c
  have hV : ∀ v, (v < 2 * n ∧ v ∉ s0F n s) ↔ v < n ∧ v ∉ s := fun v => by
    rw [mem_s0F M.lt]
    constructor
    · rintro ⟨h1, h2⟩
      have : v < n := by
        by_cases z : v < n
        · exact z
        · exact absurd (.inr ⟨by omega, h1⟩) h2
      exact ⟨this, fun z => h2 (.inl ⟨this, z⟩)⟩
    · rintro ⟨h1, h2⟩
      refine ⟨by omega, ?_⟩
      rintro (⟨_, z⟩ | ⟨z, _⟩)
      · exact h2 z
      · omega
  have c' := c.congr hV (fun u v _ _ => Iff.rfl)
  have inn : ∀ w, (w < 4 * n ∧ ∀ x, x < 2 * n → ¬ Conn (LR n a b) (ext n n x) w) → Rm.mid n w ∧ gi n w ∉ s := fun w ⟨h1, h2⟩ => by
    have hm : Rm.mid n w := by
      by_cases z : Rm.mid n w
      · exact z
      · obtain ⟨x, hx, e⟩ := ext_of h1 z
        exact absurd (by rw [e]; exact .refl _) (h2 x hx)
    refine ⟨hm, fun z => ?_⟩
    obtain ⟨x, hx, c⟩ := (M.iff _ (gi_lt hm)).mp z
    exact h2 x hx (c.trans (lr_gi hm).symm)
  refine comp_eqv (fun j => 2 * n + j) (gi n) (fun j ⟨h1, h2⟩ => ⟨by omega, fun x hx z => h2 ((M.iff j h1).mpr ⟨x, hx, z⟩)⟩) (fun w hw => ⟨gi_lt (inn w hw).1, (inn w hw).2⟩) (fun j _ => ?_) (fun w hw => (lr_gi (inn w hw).1).symm) (fun x y hx hxy => ?_) (fun x y hx hxy => ?_) c'
  · have : gi n (2 * n + j) = j := by unfold gi; rw [if_neg (by omega)]; omega
    rw [this]
    exact .refl _
  · obtain ⟨h1, h2⟩ := R2_symm IA IB (by omega) hxy
    obtain ⟨l, m⟩ := hx
    rw [alF_in l m, alF_in l m] at h2
    rcases h2 with rfl | rfl
    · have := oB x l m
      refine ⟨⟨this.1, this.2.1⟩, ?_⟩
      have q := lr_row (n := n) (a := a) (b := b) (v := 2 * n + x) (by omega)
      rw [rows_hi] at q
      exact q
    · have := oA x l m
      refine ⟨⟨this.1, this.2.1⟩, ?_⟩
      have la := A.lt (2 * n - 1 - x) (by omega)
      have hm := M.mid l m (by omega) (bb_conn (a := a) (b := b) l)
      have q := (bb_conn (a := a) (b := b) l).trans (lr_gi hm.1)
      have e : gi n (a (2 * n - 1 - x)) = bbF n a x := by unfold gi bbF; rw [if_pos la]
      rw [e] at q
      exact q
  · obtain ⟨l, m⟩ := hx
    obtain ⟨hy4, hy⟩ := lr_step A B l hxy
    have hm := inn x ⟨l, m⟩
    have cxy : Conn (LR n a b) x y := by
      rcases hxy with z | z
      · exact .one z
      · exact .back z (.refl _)
    refine ⟨⟨hy4, fun z hz q => m z hz (q.trans cxy.symm)⟩, ?_⟩
    have hg := gi_lt hm.1
    rcases hy with rfl | ⟨_, _, rfl⟩
    · by_cases c1 : x < 2 * n
      · have e1 : gi n x = 2 * n - 1 - x := by unfold gi; rw [if_pos c1]
        have la := A.lt x c1
        rw [rows_lo c1]
        have e2 : gi n (a x) = alF n (bbF n a) s (gi n x) := by
          rw [alF_in hg hm.2, e1]
          unfold bbF gi
          rw [if_pos la, show 2 * n - 1 - (2 * n - 1 - x) = x by omega]
        rw [e2]
        exact .one ⟨by omega, .inr rfl⟩
      · obtain ⟨j, rfl⟩ : ∃ j, x = 2 * n + j := ⟨x - 2 * n, by omega⟩
        have e1 : gi n (2 * n + j) = j := by unfold gi; rw [if_neg (by omega)]; omega
        rw [rows_hi]
        have e2 : gi n (2 * n + b j) = alF n b s (gi n (2 * n + j)) := by
          rw [alF_in hg hm.2, e1]
          unfold gi
          rw [if_neg (by omega)]
          omega
        rw [e2]
        exact .one ⟨by omega, .inl rfl⟩
    · rw [gi_glue hm.1]
      exact .refl _
theorem Lrn.unique {n : Nat} {a b f g : Nat → Nat} {r t : Nat} (h : Lrn n a b f r) (k : Lrn n a b g t) : (∀ x, x < 2 * n → f x = g x) ∧ r = t := by
  refine ⟨fun x hx => ?_, h.rings.unique k.rings⟩
  have c := (h.con x (f x) hx (h.arcs.lt x hx)).mpr (.inr rfl)
  rcases (k.con x (f x) hx (h.arcs.lt x hx)).mp c with e | e
  · exact absurd e.symm (h.arcs.ne x hx)
  · exact e.symm
end Rm
namespace Rm
/-- each way comes out -/
theorem far_ex {n : Nat} {a b : Nat → Nat} (A : Arcs (2 * n) a) (B : Arcs (2 * n) b) : ∃ T, Far n a b T := by
  have h0 : ∀ k, ∃ t, k < 2 * n → (∀ i, i < t → mid n (rowsA n a b (way n a b k i))) ∧ ¬ mid n (rowsA n a b (way n a b k t)) := fun k => by
    by_cases hk : k < 2 * n
    · have h1 : ∀ d, (∃ t, (∀ i, i < t → mid n (rowsA n a b (way n a b k i))) ∧ ¬ mid n (rowsA n a b (way n a b k t))) ∨ ∀ i, i < d → mid n (rowsA n a b (way n a b k i)) := by
        intro d
        induction d with
        | zero => exact .inr fun i hi => absurd hi (Nat.not_lt_zero _)
        | succ d ih =>
          rcases ih with h | h
          · exact .inl h
          · by_cases c : mid n (rowsA n a b (way n a b k d))
            · refine .inr fun i hi => ?_
              by_cases e : i = d
              · rw [e]; exact c
              · exact h i (by omega)
            · exact .inl ⟨d, h, c⟩
      rcases h1 (4 * n) with ⟨t, ht⟩ | h
      · exact ⟨t, fun _ => ht⟩
      · have := way_len A B hk h
        omega
    · exact ⟨0, fun z => absurd z hk⟩
  exact ⟨fun k => Classical.choose (h0 k), fun k hk => Classical.choose_spec (h0 k) hk⟩
theorem far_one {n : Nat} {a b T : Nat → Nat} (hT : Far n a b T) {k j : Nat} (hk : k < 2 * n) (h1 : ∀ i, i < j → mid n (rowsA n a b (way n a b k i))) (h2 : ¬ mid n (rowsA n a b (way n a b k j))) : j = T k := by
  obtain ⟨h3, h4⟩ := hT k hk
  rcases Nat.lt_trichotomy j (T k) with c | c | c
  · exact absurd (h3 j c) h2
  · exact c
  · exact absurd (h1 _ c) h4
/-- the set of what is met, way by way -/
structure MetTo (n : Nat) (a b T : Nat → Nat) (k t : Nat) (s : List Nat) : Prop where
  nd : s.Nodup
  iff : ∀ j, j ∈ s ↔ ∃ k' i, (k' < k ∧ i < T k' ∨ k' = k ∧ i < t) ∧ j = gi n (rowsA n a b (way n a b k' i))
def addN (s : List Nat) (j : Nat) : List Nat := if j ∈ s then s else s ++ [j]
theorem MetTo.zero (n : Nat) (a b T : Nat → Nat) : MetTo n a b T 0 0 [] := ⟨.nil, fun j => ⟨fun h => (nomatch h), fun ⟨k', i, h, _⟩ => by omega⟩⟩
theorem MetTo.next {n : Nat} {a b T : Nat → Nat} {k : Nat} {s : List Nat} (M : MetTo n a b T k (T k) s) : MetTo n a b T (k + 1) 0 s := ⟨M.nd, fun j => by
  rw [M.iff]
  constructor
  · rintro ⟨k', i, h, e⟩
    refine ⟨k', i, ?_, e⟩
    rcases h with h | ⟨rfl, h⟩
    · exact .inl ⟨by omega, h.2⟩
    · exact .inl ⟨by omega, h⟩
  · rintro ⟨k', i, h, e⟩
    refine ⟨k', i, ?_, e⟩
    rcases h with h | h
    · by_cases c : k' = k
      · subst c; exact .inr ⟨rfl, h.2⟩
      · exact .inl ⟨by omega, h.2⟩
    · omega⟩
theorem MetTo.push {n : Nat} {a b T : Nat → Nat} {k t : Nat} {s : List Nat} (M : MetTo n a b T k t s) : MetTo n a b T k (t + 1) (addN s (gi n (rowsA n a b (way n a b k t)))) := by
  have hm : ∀ j, j ∈ addN s (gi n (rowsA n a b (way n a b k t))) ↔ j ∈ s ∨ j = gi n (rowsA n a b (way n a b k t)) := fun j => by
    unfold addN
    split
    · rename_i h
      exact ⟨.inl, fun z => z.elim id fun e => by rw [e]; exact h⟩
    · simp
  refine ⟨?_, fun j => ?_⟩
  · unfold addN
    split
    · exact M.nd
    · rename_i h
      rw [List.nodup_append]
      exact ⟨M.nd, by simp, fun x hx y hy => by simp at hy; rw [hy]; exact fun e => h (e ▸ hx)⟩
  · rw [hm, M.iff]
    constructor
    · rintro (⟨k', i, h, e⟩ | e)
      · exact ⟨k', i, h.imp id fun z => ⟨z.1, by omega⟩, e⟩
      · exact ⟨k, t, .inr ⟨rfl, by omega⟩, e⟩
    · rintro ⟨k', i, h, e⟩
      rcases h with h | ⟨rfl, h⟩
      · exact .inl ⟨k', i, .inl h, e⟩
      · by_cases c : i = t
        · exact .inr (by rw [← c]; exact e)
        · exact .inl ⟨k', i, .inr ⟨rfl, by omega⟩, e⟩
theorem MetTo.lt {n : Nat} {a b T : Nat → Nat} {k t : Nat} {s : List Nat} (M : MetTo n a b T k t s) (hT : Far n a b T) (hk : k ≤ 2 * n) (ht : k < 2 * n ∧ t ≤ T k ∨ t = 0) : ∀ j, j ∈ s → j < n := fun j hj => by
  obtain ⟨k', i, h, e⟩ := (M.iff j).mp hj
  rw [e]
  rcases h with h | ⟨rfl, h⟩
  · exact gi_lt ((hT k' (by omega)).1 i h.2)
  · exact gi_lt ((hT k' (by omega)).1 i (by omega))
theorem MetTo.met {n : Nat} {a b T : Nat → Nat} {s : List Nat} (M : MetTo n a b T (2 * n) 0 s) (A : Arcs (2 * n) a) (B : Arcs (2 * n) b) (hT : Far n a b T) : Met n a b s := by
  refine ⟨M.nd, M.lt hT (Nat.le_refl _) (.inr rfl), fun j hj => ?_⟩
  rw [M.iff, ← met_iff A B hT hj]
  constructor
  · rintro ⟨k', i, h, e⟩
    exact ⟨k', i, by omega, by omega, e⟩
  · rintro ⟨k', i, h1, h2, e⟩
    exact ⟨k', i, .inl ⟨h1, h2⟩, e⟩
theorem rings_le {n : Nat} {a b : Nat → Nat} {s : List Nat} : (ringsF n a b s n).length ≤ n := goR_len n (by omega)
theorem rings_le' (n : Nat) (a b : Nat → Nat) (s : List Nat) (i : Nat) (h : i ≤ 2 * n) : (ringsF n a b s i).length ≤ i := goR_len i h
theorem rings_zero {n : Nat} {a b : Nat → Nat} {s : List Nat} : ringsF n a b s 0 = [] := goR_zero _ _ _ _
end Rm

set_option linter.all false
namespace Rm
/-! ## rows between layers of n points -/
def pl (n u d x : Nat) : Nat := if x < n then u + x else d + (2 * n - 1 - x)
theorem pl_cases (n u d x : Nat) : (x < n ∧ pl n u d x = u + x) ∨ (n ≤ x ∧ pl n u d x = d + (2 * n - 1 - x)) := by unfold pl; split <;> omega
def Ed (n u d : Nat) (f : Nat → Nat) : Nat → Nat → Prop := fun v w => ∃ x, x < 2 * n ∧ v = pl n u d x ∧ w = pl n u d (f x)
def LY (n : Nat) (a b : Nat → Nat) : Nat → Nat → Prop := fun v w => Ed n 0 n a v w ∨ Ed n n (2 * n) b v w
structure Lyr (n : Nat) (a b f : Nat → Nat) (r : Nat) : Prop where
  arcs : Arcs (2 * n) f
  con : ∀ x y, x < 2 * n → y < 2 * n → (Conn (LY n a b) (pl n 0 (2 * n) x) (pl n 0 (2 * n) y) ↔ x = y ∨ f x = y)
  rings : Comp (fun v => (n ≤ v ∧ v < 2 * n) ∧ ∀ x, x < 2 * n → ¬ Conn (LY n a b) (pl n 0 (2 * n) x) v) (LY n a b) r
theorem Lyr.unique {n : Nat} {a b f g : Nat → Nat} {r t : Nat} (h : Lyr n a b f r) (k : Lyr n a b g t) : (∀ x, x < 2 * n → f x = g x) ∧ r = t := by
  refine ⟨fun x hx => ?_, h.rings.unique k.rings⟩
  have c := (h.con x (f x) hx (h.arcs.lt x hx)).mpr (.inr rfl)
  rcases (k.con x (f x) hx (h.arcs.lt x hx)).mp c with e | e
  · exact absurd e.symm (h.arcs.ne x hx)
  · exact e.symm
def dnL (n v : Nat) : Nat := if v < n then v else if v < 2 * n then n + (2 * n - 1 - v) else if v < 3 * n then n + (v - 2 * n) else 2 * n + (4 * n - 1 - v)
def upL (n w : Nat) : Nat := if w < n then w else if w < 2 * n then n + w else 6 * n - 1 - w
theorem dn_lo {n x : Nat} (h : x < 2 * n) : dnL n x = pl n 0 n x := by
  unfold dnL pl
  split
  · omega
  · rfl
theorem dn_hi {n x : Nat} (h : x < 2 * n) : dnL n (2 * n + x) = pl n n (2 * n) x := by
  unfold dnL pl
  rw [if_neg (by omega), if_neg (by omega)]
  split <;> split <;> omega
theorem dn_ext {n x : Nat} (h : x < 2 * n) : dnL n (ext n n x) = pl n 0 (2 * n) x := by
  unfold dnL ext pl
  by_cases c : x < n
  · rw [if_pos c, if_pos c, if_pos c]; omega
  · rw [if_neg c, if_neg (by omega), if_neg (by omega), if_neg (by omega), if_neg c]; omega
theorem up_ext {n x : Nat} (h : x < 2 * n) : upL n (pl n 0 (2 * n) x) = ext n n x := by
  have p := pl_cases n 0 (2 * n) x
  unfold upL ext
  by_cases c : x < n
  · rw [if_pos c, if_pos (by omega)]; omega
  · rw [if_neg c, if_neg (by omega), if_neg (by omega)]; omega
theorem up_lo {n x : Nat} {a b : Nat → Nat} (h : x < 2 * n) : Conn (LR n a b) (upL n (pl n 0 n x)) x := by
  have p := pl_cases n 0 n x
  unfold upL
  by_cases c : x < n
  · rw [if_pos (by omega), show pl n 0 n x = x by omega]; exact .refl _
  · rw [if_neg (by omega), if_pos (by omega), show n + pl n 0 n x = 4 * n - 1 - x by omega]
    exact (lr_glue (by unfold mid; omega)).symm
theorem up_hi {n x : Nat} (h : x < 2 * n) : upL n (pl n n (2 * n) x) = 2 * n + x := by
  have p := pl_cases n n (2 * n) x
  unfold upL
  by_cases c : x < n
  · rw [if_neg (by omega), if_pos (by omega)]; omega
  · rw [if_neg (by omega), if_neg (by omega)]; omega
theorem dn_step {n : Nat} {a b : Nat → Nat} (A : Arcs (2 * n) a) (B : Arcs (2 * n) b) {u v : Nat} (h : LR n a b u v) : Conn (LY n a b) (dnL n u) (dnL n v) := by
  rcases h with ⟨h1, e⟩ | ⟨h1, h2, h3⟩
  · have e' : rowsA n a b u = v := e
    by_cases c : u < 2 * n
    · rw [rows_lo c] at e'
      have l := A.lt u c
      rw [← e', dn_lo c, dn_lo l]
      exact .one (.inl ⟨u, c, rfl, rfl⟩)
    · obtain ⟨x, rfl⟩ : ∃ x, u = 2 * n + x := ⟨u - 2 * n, by omega⟩
      rw [rows_hi] at e'
      have l := B.lt x (by omega)
      rw [← e', dn_hi (by omega), dn_hi l]
      exact .one (.inr ⟨x, by omega, rfl, rfl⟩)
  · have : dnL n u = dnL n v := by
      unfold dnL
      rw [if_neg (by omega), if_neg (show ¬ v < n by omega)]
      by_cases c : u < 2 * n
      · rw [if_pos c, if_neg (by omega), if_pos (by omega)]; omega
      · rw [if_neg c, if_pos (by omega), if_pos (by omega)]; omega
    rw [this]
    exact .refl _
theorem up_step {n : Nat} {a b : Nat → Nat} (A : Arcs (2 * n) a) (B : Arcs (2 * n) b) {u v : Nat} (h : LY n a b u v) : Conn (LR n a b) (upL n u) (upL n v) := by
  rcases h with ⟨x, hx, rfl, rfl⟩ | ⟨x, hx, rfl, rfl⟩
  · have l := A.lt x hx
    have c := lr_row (n := n) (a := a) (b := b) (v := x) (by omega)
    rw [rows_lo hx] at c
    exact ((up_lo hx).trans c).trans (up_lo l).symm
  · have l := B.lt x hx
    have c := lr_row (n := n) (a := a) (b := b) (v := 2 * n + x) (by omega)
    rw [rows_hi] at c
    rw [up_hi hx, up_hi l]
    exact c
theorem ly_lt {n : Nat} {a b : Nat → Nat} (A : Arcs (2 * n) a) (B : Arcs (2 * n) b) {u v : Nat} (h : LY n a b u v ∨ LY n a b v u) : u < 3 * n ∧ v < 3 * n := by
  rcases h with (⟨x, hx, rfl, rfl⟩ | ⟨x, hx, rfl, rfl⟩) | (⟨x, hx, rfl, rfl⟩ | ⟨x, hx, rfl, rfl⟩)
  · have := A.lt x hx; have := pl_cases n 0 n x; have := pl_cases n 0 n (a x); omega
  · have := B.lt x hx; have := pl_cases n n (2 * n) x; have := pl_cases n n (2 * n) (b x); omega
  · have := A.lt x hx; have := pl_cases n 0 n x; have := pl_cases n 0 n (a x); omega
  · have := B.lt x hx; have := pl_cases n n (2 * n) x; have := pl_cases n n (2 * n) (b x); omega
theorem dn_conn {n : Nat} {a b : Nat → Nat} (A : Arcs (2 * n) a) (B : Arcs (2 * n) b) {u v : Nat} (h : Conn (LR n a b) u v) : Conn (LY n a b) (dnL n u) (dnL n v) :=
  (conn_map (V := fun _ => True) (dnL n) (fun x y _ r => ⟨trivial, r.elim (dn_step A B) (fun z => (dn_step A B z).symm)⟩) h trivial).2
theorem up_conn {n : Nat} {a b : Nat → Nat} (A : Arcs (2 * n) a) (B : Arcs (2 * n) b) {u v : Nat} (h : Conn (LY n a b) u v) : Conn (LR n a b) (upL n u) (upL n v) :=
  (conn_map (V := fun _ => True) (upL n) (fun x y _ r => ⟨trivial, r.elim (up_step A B) (fun z => (up_step A B z).symm)⟩) h trivial).2
theorem dn_up {n w : Nat} (h : w < 3 * n) : dnL n (upL n w) = w := by
  unfold upL
  by_cases c : w < n
  · rw [if_pos c]; unfold dnL; rw [if_pos c]
  · rw [if_neg c]
    by_cases c2 : w < 2 * n
    · rw [if_pos c2]; unfold dnL; rw [if_neg (by omega), if_neg (by omega), if_pos (by omega)]; omega
    · rw [if_neg c2]; unfold dnL; rw [if_neg (by omega), if_neg (by omega), if_neg (by omega)]; omega
theorem up_dn {n v : Nat} {a b : Nat → Nat} (h : v < 4 * n) : Conn (LR n a b) (upL n (dnL n v)) v := by
  by_cases c : v < 2 * n
  · rw [dn_lo c]; exact up_lo c
  · obtain ⟨x, rfl⟩ : ∃ x, v = 2 * n + x := ⟨v - 2 * n, by omega⟩
    rw [dn_hi (by omega), up_hi (by omega)]
    exact .refl _
theorem Lrn.lyr {n : Nat} {a b f : Nat → Nat} {r : Nat} (h : Lrn n a b f r) (A : Arcs (2 * n) a) (B : Arcs (2 * n) b) : Lyr n a b f r := by
  refine ⟨h.arcs, fun x y hx hy => ?_, ?_⟩
  · rw [← h.con x y hx hy]
    constructor
    · intro c
      have := up_conn A B c
      rw [up_ext hx, up_ext hy] at this
      exact this
    · intro c
      have := dn_conn A B c
      rw [dn_ext hx, dn_ext hy] at this
      exact this
  · have inn : ∀ v, v < 4 * n → (∀ x, x < 2 * n → ¬ Conn (LR n a b) (ext n n x) v) → mid n v := fun v hv q => by
      by_cases z : mid n v
      · exact z
      · obtain ⟨x, hx, e⟩ := ext_of hv z
        exact absurd (by rw [e]; exact .refl _) (q x hx)
    have hφ : ∀ v, (v < 4 * n ∧ ∀ x, x < 2 * n → ¬ Conn (LR n a b) (ext n n x) v) → ((n ≤ dnL n v ∧ dnL n v < 2 * n) ∧ ∀ x, x < 2 * n → ¬ Conn (LY n a b) (pl n 0 (2 * n) x) (dnL n v)) := fun v ⟨hv, q⟩ => by
      have hm := inn v hv q
      unfold mid at hm
      refine ⟨?_, fun x hx c => q x hx ?_⟩
      · unfold dnL
        rw [if_neg (by omega)]
        split
        · omega
        · rw [if_pos (by omega)]; omega
      · have := up_conn A B c
        rw [up_ext hx] at this
        exact this.trans (up_dn hv)
    have hψ : ∀ w, ((n ≤ w ∧ w < 2 * n) ∧ ∀ x, x < 2 * n → ¬ Conn (LY n a b) (pl n 0 (2 * n) x) w) → (upL n w < 4 * n ∧ ∀ x, x < 2 * n → ¬ Conn (LR n a b) (ext n n x) (upL n w)) := fun w ⟨hw, q⟩ => by
      refine ⟨?_, fun x hx c => q x hx ?_⟩
      · unfold upL
        rw [if_neg (by omega), if_pos (by omega)]; omega
      · have := dn_conn A B c
        rw [dn_ext hx, dn_up (by omega)] at this
        exact this
    refine comp_eqv (dnL n) (upL n) hφ hψ (fun v hv => up_dn hv.1) (fun w hw => by rw [dn_up (by omega)]; exact .refl _) (fun x y hx hxy => ?_) (fun x y hx hxy => ?_) h.rings
    · have c : Conn (LR n a b) x y := hxy.elim .one (fun z => .back z (.refl _))
      exact ⟨⟨(lr_step A B hx.1 hxy).1, fun z hz q => hx.2 z hz (q.trans c.symm)⟩, dn_conn A B c⟩
    · have c : Conn (LY n a b) x y := hxy.elim .one (fun z => .back z (.refl _))
      have l := (ly_lt A B hxy).2
      have q : ∀ z, z < 2 * n → ¬ Conn (LY n a b) (pl n 0 (2 * n) z) y := fun z hz q => hx.2 z hz (q.trans c.symm)
      refine ⟨⟨?_, q⟩, up_conn A B c⟩
      by_cases c1 : y < n
      · have := q y (by omega)
        unfold pl at this
        rw [if_pos c1, Nat.zero_add] at this
        exact absurd (.refl _) this
      · by_cases c2 : y < 2 * n
        · exact ⟨by omega, c2⟩
        · have := q (4 * n - 1 - y) (by omega)
          unfold pl at this
          rw [if_neg (by omega), show 2 * n + (2 * n - 1 - (4 * n - 1 - y)) = y by omega] at this
          exact absurd (.refl _) this
/-! ### put into something greater -/
def eL (n u m d v : Nat) : Nat := if v < n then u + v else if v < 2 * n then m + (v - n) else d + (v - 2 * n)
theorem e_up {n u m d x : Nat} (h : x < 2 * n) : eL n u m d (pl n 0 n x) = pl n u m x := by
  have p := pl_cases n 0 n x; have p2 := pl_cases n u m x
  unfold eL
  by_cases c : x < n
  · rw [if_pos (by omega)]; omega
  · rw [if_neg (by omega), if_pos (by omega)]; omega
theorem e_lo {n u m d x : Nat} (h : x < 2 * n) : eL n u m d (pl n n (2 * n) x) = pl n m d x := by
  have p := pl_cases n n (2 * n) x; have p2 := pl_cases n m d x
  unfold eL
  by_cases c : x < n
  · rw [if_neg (by omega), if_pos (by omega)]; omega
  · rw [if_neg (by omega), if_neg (by omega)]; omega
theorem e_out {n u m d x : Nat} (h : x < 2 * n) : eL n u m d (pl n 0 (2 * n) x) = pl n u d x := by
  have p := pl_cases n 0 (2 * n) x; have p2 := pl_cases n u d x
  unfold eL
  by_cases c : x < n
  · rw [if_pos (by omega)]; omega
  · rw [if_neg (by omega), if_neg (by omega)]; omega
def inM (n m z : Nat) : Prop := m ≤ z ∧ z < m + n
def RG (n u m d : Nat) (a b : Nat → Nat) (S : Nat → Nat → Prop) : Nat → Nat → Prop := fun x y => (Ed n u m a x y ∨ Ed n m d b x y) ∨ S x y
def RO (n u d : Nat) (f : Nat → Nat) (S : Nat → Nat → Prop) : Nat → Nat → Prop := fun x y => Ed n u d f x y ∨ S x y
structure Put (n u m d : Nat) (S : Nat → Nat → Prop) : Prop where
  um : u + n ≤ m ∨ m + n ≤ u
  dm : d + n ≤ m ∨ m + n ≤ d
  off : ∀ x y, S x y → ¬ inM n m x ∧ ¬ inM n m y
theorem e_mid {n u m d v : Nat} {S : Nat → Nat → Prop} (P : Put n u m d S) (h : v < 3 * n) : inM n m (eL n u m d v) ↔ n ≤ v ∧ v < 2 * n := by
  have := P.um; have := P.dm
  unfold inM eL
  split
  · omega
  · split <;> omega
theorem e_midv {n u m d v : Nat} (h1 : n ≤ v) (h2 : v < 2 * n) : eL n u m d v = m + (v - n) := by unfold eL; rw [if_neg (by omega), if_pos h2]
theorem out_of {n v : Nat} (h : v < 3 * n) (q : ¬ (n ≤ v ∧ v < 2 * n)) : ∃ x, x < 2 * n ∧ v = pl n 0 (2 * n) x := by
  by_cases c : v < n
  · exact ⟨v, by omega, by unfold pl; rw [if_pos c]; omega⟩
  · exact ⟨4 * n - 1 - v, by omega, by unfold pl; rw [if_neg (by omega)]; omega⟩
theorem rg_cases {n u m d : Nat} {a b : Nat → Nat} {S : Nat → Nat → Prop} (A : Arcs (2 * n) a) (B : Arcs (2 * n) b) {x y : Nat} (h : RG n u m d a b S x y ∨ RG n u m d a b S y x) : (∃ v w, (LY n a b v w ∨ LY n a b w v) ∧ x = eL n u m d v ∧ y = eL n u m d w) ∨ (S x y ∨ S y x) := by
  have one : ∀ {x y}, RG n u m d a b S x y → (∃ v w, LY n a b v w ∧ x = eL n u m d v ∧ y = eL n u m d w) ∨ S x y := fun {x y} h => by
    rcases h with (⟨z, hz, rfl, rfl⟩ | ⟨z, hz, rfl, rfl⟩) | h
    · exact .inl ⟨_, _, .inl ⟨z, hz, rfl, rfl⟩, (e_up hz).symm, (e_up (A.lt z hz)).symm⟩
    · exact .inl ⟨_, _, .inr ⟨z, hz, rfl, rfl⟩, (e_lo hz).symm, (e_lo (B.lt z hz)).symm⟩
    · exact .inr h
  rcases h with h | h
  · rcases one h with ⟨v, w, h1, h2, h3⟩ | h
    · exact .inl ⟨v, w, .inl h1, h2, h3⟩
    · exact .inr (.inl h)
  · rcases one h with ⟨v, w, h1, h2, h3⟩ | h
    · exact .inl ⟨w, v, .inr h1, h3, h2⟩
    · exact .inr (.inr h)
theorem rg_of {n u m d : Nat} {a b : Nat → Nat} {S : Nat → Nat → Prop} (A : Arcs (2 * n) a) (B : Arcs (2 * n) b) {v w : Nat} (h : Conn (LY n a b) v w) : Conn (RG n u m d a b S) (eL n u m d v) (eL n u m d w) := by
  refine (conn_map (V := fun _ => True) (eL n u m d) (fun x y _ r => ⟨trivial, ?_⟩) h trivial).2
  have one : ∀ {x y}, LY n a b x y → Conn (RG n u m d a b S) (eL n u m d x) (eL n u m d y) := fun {x y} r => by
    rcases r with ⟨z, hz, rfl, rfl⟩ | ⟨z, hz, rfl, rfl⟩
    · rw [e_up hz, e_up (A.lt z hz)]
      exact .one (.inl (.inl ⟨z, hz, rfl, rfl⟩))
    · rw [e_lo hz, e_lo (B.lt z hz)]
      exact .one (.inl (.inr ⟨z, hz, rfl, rfl⟩))
  exact r.elim one (fun z => (one z).symm)
theorem sub_conn {n u m d : Nat} {a b f : Nat → Nat} {r : Nat} {S : Nat → Nat → Prop} (L : Lyr n a b f r) (A : Arcs (2 * n) a) (B : Arcs (2 * n) b) (P : Put n u m d S) {x y : Nat} (hx : ¬ inM n m x) (hy : ¬ inM n m y) :
    Conn (RG n u m d a b S) x y ↔ Conn (RO n u d f S) x y := by
  have oo : ∀ p q, p < 2 * n → q < 2 * n → Conn (LY n a b) (pl n 0 (2 * n) p) (pl n 0 (2 * n) q) → Conn (RO n u d f S) (pl n u d p) (pl n u d q) := fun p q hp hq h => by
    rcases (L.con p q hp hq).mp h with rfl | rfl
    · exact .refl _
    · exact .one (.inl ⟨p, hp, rfl, rfl⟩)
  constructor
  · intro h
    let C : Nat → Prop := fun z => (¬ inM n m z ∧ Conn (RO n u d f S) x z) ∨ ∃ p v, p < 2 * n ∧ (n ≤ v ∧ v < 2 * n) ∧ Conn (LY n a b) (pl n 0 (2 * n) p) v ∧ z = eL n u m d v ∧ Conn (RO n u d f S) x (pl n u d p)
    have hC : C y := by
      refine h.stays (C := C) (fun s t hs hst => ?_) (.inl ⟨hx, .refl _⟩)
      rcases rg_cases A B hst with ⟨v, w, hvw, rfl, rfl⟩ | hS
      · have l := ly_lt A B hvw
        have cvw : Conn (LY n a b) v w := hvw.elim .one (fun z => .back z (.refl _))
        -- an outer end from which v is come to
        have hv : ∃ p, p < 2 * n ∧ Conn (LY n a b) (pl n 0 (2 * n) p) v ∧ Conn (RO n u d f S) x (pl n u d p) := by
          rcases hs with ⟨h1, h2⟩ | ⟨p, v', hp, hv', h1, h2, h3⟩
          · have h4 : ¬ (n ≤ v ∧ v < 2 * n) := fun z => h1 ((e_mid P l.1).mpr z)
            obtain ⟨p, hp, rfl⟩ := out_of l.1 h4
            rw [e_out hp] at h2
            exact ⟨p, hp, .refl _, h2⟩
          · have h4 : n ≤ v ∧ v < 2 * n := (e_mid P l.1).mp (by rw [h2]; exact (e_mid P (by omega)).mpr hv')
            rw [e_midv h4.1 h4.2, e_midv hv'.1 hv'.2] at h2
            have : v = v' := by omega
            subst this
            exact ⟨p, hp, h1, h3⟩
        obtain ⟨p, hp, h1, h2⟩ := hv
        by_cases c : n ≤ w ∧ w < 2 * n
        · exact .inr ⟨p, w, hp, c, h1.trans cvw, rfl, h2⟩
        · obtain ⟨q, hq, rfl⟩ := out_of l.2 c
          rw [e_out hq]
          refine .inl ⟨?_, h2.trans (oo p q hp hq (h1.trans cvw))⟩
          rw [← e_out (m := m) hq]
          exact fun z => c ((e_mid P l.2).mp z)
      · have hn : ¬ inM n m s ∧ ¬ inM n m t := by
          rcases hS with z | z
          · exact P.off _ _ z
          · exact (P.off _ _ z).symm
        rcases hs with ⟨h1, h2⟩ | ⟨p, v', hp, hv', h1, h2, h3⟩
        · exact .inl ⟨hn.2, h2.trans (hS.elim (fun z => .one (.inr z)) (fun z => .back (.inr z) (.refl _)))⟩
        · exact absurd (by rw [h2]; exact (e_mid P (by omega)).mpr hv') hn.1
    rcases hC with ⟨_, h⟩ | ⟨p, v', hp, hv', h1, h2, h3⟩
    · exact h
    · exact absurd (by rw [h2]; exact (e_mid P (by omega)).mpr hv') hy
  · intro h
    have one : ∀ {s t}, RO n u d f S s t → Conn (RG n u m d a b S) s t := fun {s t} r => by
      rcases r with ⟨z, hz, rfl, rfl⟩ | r
      · have l := L.arcs.lt z hz
        have := rg_of (u := u) (m := m) (d := d) (S := S) A B ((L.con z (f z) hz l).mpr (.inr rfl))
        rw [e_out hz, e_out l] at this
        exact this
      · exact .one (.inr r)
    exact h.mono fun _ _ => one
theorem sub_comp {n u m d : Nat} {a b f : Nat → Nat} {r c : Nat} {S : Nat → Nat → Prop} {V : Nat → Prop} (L : Lyr n a b f r) (A : Arcs (2 * n) a) (B : Arcs (2 * n) b) (P : Put n u m d S) (hV : ∀ v, V v → ¬ inM n m v) (hO : ∀ x, x < 2 * n → V (pl n u d x))
    (hS : ∀ x y, V x → (S x y ∨ S y x) → V y) (h : Comp V (RO n u d f S) c) : Comp (fun v => V v ∨ inM n m v) (RG n u m d a b S) (c + r) := by
  let J : Nat → Prop := fun v => ∃ x, x < 2 * n ∧ Conn (LY n a b) (pl n 0 (2 * n) x) v
  let V1 : Nat → Prop := fun z => inM n m z ∧ ¬ J (z - m + n)
  let V2 : Nat → Prop := fun z => V z ∨ (inM n m z ∧ J (z - m + n))
  have back : ∀ z, inM n m z → (n ≤ z - m + n ∧ z - m + n < 2 * n) ∧ eL n u m d (z - m + n) = z := fun z hz => by
    unfold inM at hz
    refine ⟨by omega, ?_⟩
    rw [e_midv (by omega) (by omega)]
    omega
  have fwd : ∀ v, n ≤ v → v < 2 * n → inM n m (eL n u m d v) ∧ eL n u m d v - m + n = v := fun v h1 h2 => by
    refine ⟨(e_mid P (by omega)).mpr ⟨h1, h2⟩, ?_⟩
    rw [e_midv h1 h2]
    omega
  -- the rings inside
  have c1 : Comp V1 (RG n u m d a b S) r := by
    refine comp_eqv (eL n u m d) (fun z => z - m + n) (fun v hv => ?_) (fun z hz => ⟨(back z hz.1).1, fun x hx e => hz.2 ⟨x, hx, e⟩⟩) (fun v hv => ?_) (fun z hz => ?_) (fun x y hx hxy => ?_) (fun x y hx hxy => ?_) L.rings
    · obtain ⟨hv, q⟩ := hv
      have := fwd v hv.1 hv.2
      refine ⟨this.1, ?_⟩
      rw [this.2]
      exact fun ⟨x, hx, e⟩ => q x hx e
    · show Conn _ (eL n u m d v - m + n) v
      rw [(fwd v hv.1.1 hv.1.2).2]; exact .refl _
    · show Conn _ (eL n u m d (z - m + n)) z
      rw [(back z hz.1).2]; exact .refl _
    · have cxy : Conn (LY n a b) x y := hxy.elim .one (fun z => .back z (.refl _))
      have q : ∀ z, z < 2 * n → ¬ Conn (LY n a b) (pl n 0 (2 * n) z) y := fun z hz q => hx.2 z hz (q.trans cxy.symm)
      refine ⟨⟨?_, q⟩, rg_of A B cxy⟩
      by_cases c : n ≤ y ∧ y < 2 * n
      · exact c
      · obtain ⟨p, hp, rfl⟩ := out_of (ly_lt A B hxy).2 c
        exact absurd (.refl _) (q p hp)
    · obtain ⟨hz, hq⟩ := hx
      rcases rg_cases A B hxy with ⟨v, w, hvw, rfl, rfl⟩ | hS
      · have l := ly_lt A B hvw
        have cvw : Conn (LY n a b) v w := hvw.elim .one (fun z => .back z (.refl _))
        have hv := (e_mid P l.1).mp hz
        rw [(fwd v hv.1 hv.2).2] at hq
        have hw : n ≤ w ∧ w < 2 * n := by
          by_cases c : n ≤ w ∧ w < 2 * n
          · exact c
          · obtain ⟨p, hp, rfl⟩ := out_of l.2 c
            exact absurd ⟨p, hp, cvw.symm⟩ hq
        have hw2 := fwd w hw.1 hw.2
        refine ⟨⟨hw2.1, ?_⟩, ?_⟩
        · rw [hw2.2]
          exact fun ⟨p, hp, e⟩ => hq ⟨p, hp, e.trans cvw.symm⟩
        · show Conn _ (eL n u m d v - m + n) (eL n u m d w - m + n)
          rw [(fwd v hv.1 hv.2).2, hw2.2]
          exact cvw
      · exact absurd hz (hS.elim (fun z => (P.off _ _ z).1) (fun z => (P.off _ _ z).2))
  -- all else
  have c2 : Comp V2 (RG n u m d a b S) c := by
    have hex : ∃ ψ : Nat → Nat, (∀ z, ¬ inM n m z → ψ z = z) ∧ ∀ z, inM n m z → J (z - m + n) → ∃ x, x < 2 * n ∧ ψ z = pl n u d x ∧ Conn (LY n a b) (pl n 0 (2 * n) x) (z - m + n) := by
      have h0 : ∀ z, ∃ y, (¬ inM n m z → y = z) ∧ (inM n m z → J (z - m + n) → ∃ x, x < 2 * n ∧ y = pl n u d x ∧ Conn (LY n a b) (pl n 0 (2 * n) x) (z - m + n)) := fun z => by
        by_cases q : inM n m z
        · by_cases q2 : J (z - m + n)
          · obtain ⟨x, hx, e⟩ := q2
            exact ⟨pl n u d x, fun z => absurd q z, fun _ _ => ⟨x, hx, rfl, e⟩⟩
          · exact ⟨z, fun _ => rfl, fun _ z => absurd z q2⟩
        · exact ⟨z, fun _ => rfl, fun z => absurd z q⟩
      exact ⟨fun z => Classical.choose (h0 z), fun z => (Classical.choose_spec (h0 z)).1, fun z => (Classical.choose_spec (h0 z)).2⟩
    obtain ⟨ψ, p1, p2⟩ := hex
    have pV : ∀ w, V2 w → V (ψ w) := fun w hw => by
      rcases hw with h | ⟨h1, h2⟩
      · rw [p1 w (hV w h)]; exact h
      · obtain ⟨x, hx, e, _⟩ := p2 w h1 h2
        rw [e]; exact hO x hx
    have pC : ∀ w, V2 w → Conn (RG n u m d a b S) (ψ w) w := fun w hw => by
      rcases hw with h | ⟨h1, h2⟩
      · rw [p1 w (hV w h)]; exact .refl _
      · obtain ⟨x, hx, e, q⟩ := p2 w h1 h2
        have := rg_of (u := u) (m := m) (d := d) (S := S) A B q
        rw [e_out hx, (back w h1).2] at this
        rw [e]; exact this
    have cl : ∀ x y, V2 x → (RG n u m d a b S x y ∨ RG n u m d a b S y x) → V2 y := fun x y hx hxy => by
      rcases rg_cases A B hxy with ⟨v, w, hvw, rfl, rfl⟩ | hS'
      · have l := ly_lt A B hvw
        have cvw : Conn (LY n a b) v w := hvw.elim .one (fun z => .back z (.refl _))
        by_cases cw : n ≤ w ∧ w < 2 * n
        · have hw2 := fwd w cw.1 cw.2
          refine .inr ⟨hw2.1, ?_⟩
          rw [hw2.2]
          by_cases cv : n ≤ v ∧ v < 2 * n
          · have hv2 := fwd v cv.1 cv.2
            rcases hx with h | ⟨_, h⟩
            · exact absurd hv2.1 (hV _ h)
            · rw [hv2.2] at h
              obtain ⟨p, hp, e⟩ := h
              exact ⟨p, hp, e.trans cvw⟩
          · obtain ⟨p, hp, rfl⟩ := out_of l.1 cv
            exact ⟨p, hp, cvw⟩
        · obtain ⟨p, hp, rfl⟩ := out_of l.2 cw
          rw [e_out hp]
          exact .inl (hO p hp)
      · have hn : ¬ inM n m x := hS'.elim (fun z => (P.off _ _ z).1) (fun z => (P.off _ _ z).2)
        rcases hx with h | ⟨h, _⟩
        · exact .inl (hS x y h hS')
        · exact absurd h hn
    refine comp_eqv id ψ (fun v hv => .inl hv) pV (fun v hv => ?_) pC (fun x y hx hxy => ?_) (fun x y hx hxy => ?_) h
    · show Conn _ (ψ v) v
      rw [p1 v (hV v hv)]; exact .refl _
    · have cxy : Conn (RO n u d f S) x y := hxy.elim .one (fun z => .back z (.refl _))
      have hy : V y := by
        have h1 : ∀ {x y}, RO n u d f S x y → V x ∨ V y → V x ∧ V y := fun {x y} h q => by
          rcases h with ⟨z, hz, rfl, rfl⟩ | h
          · exact ⟨hO z hz, hO _ (L.arcs.lt z hz)⟩
          · rcases q with q | q
            · exact ⟨q, hS x y q (.inl h)⟩
            · exact ⟨hS y x q (.inr h), q⟩
        rcases hxy with z | z
        · exact (h1 z (.inl hx)).2
        · exact (h1 z (.inr hx)).1
      exact ⟨hy, (sub_conn L A B P (hV x hx) (hV y hy)).mpr cxy⟩
    · have hy := cl x y hx hxy
      have cxy : Conn (RG n u m d a b S) x y := hxy.elim .one (fun z => .back z (.refl _))
      exact ⟨hy, (sub_conn L A B P (hV _ (pV x hx)) (hV _ (pV y hy))).mp (((pC x hx).trans cxy).trans (pC y hy).symm)⟩
  have := comp_add c1 c2 (fun v h1 h2 => by
    rcases h2 with h | ⟨_, h⟩
    · exact hV v h h1.1
    · exact h1.2 h) (fun x y hx hxy => by
    obtain ⟨hz, hq⟩ := hx
    rcases rg_cases A B hxy with ⟨v, w, hvw, rfl, rfl⟩ | hS
    · have l := ly_lt A B hvw
      have cvw : Conn (LY n a b) v w := hvw.elim .one (fun z => .back z (.refl _))
      have hv := (e_mid P l.1).mp hz
      rw [(fwd v hv.1 hv.2).2] at hq
      have hw : n ≤ w ∧ w < 2 * n := by
        by_cases c : n ≤ w ∧ w < 2 * n
        · exact c
        · obtain ⟨p, hp, rfl⟩ := out_of l.2 c
          exact absurd ⟨p, hp, cvw.symm⟩ hq
      have hw2 := fwd w hw.1 hw.2
      refine ⟨hw2.1, ?_⟩
      rw [hw2.2]
      exact fun ⟨p, hp, e⟩ => hq ⟨p, hp, e.trans cvw.symm⟩
    · exact absurd hz (hS.elim (fun z => (P.off _ _ z).1) (fun z => (P.off _ _ z).2)))
  rw [Nat.add_comm] at this
  refine this.congr (fun v => ?_) (fun _ _ _ _ => Iff.rfl)
  constructor
  · rintro (⟨h1, _⟩ | h | ⟨h1, _⟩)
    · exact .inr h1
    · exact .inl h
    · exact .inr h1
  · rintro (h | h)
    · exact .inr (.inl h)
    · by_cases q : J (v - m + n)
      · exact .inr (.inr ⟨h, q⟩)
      · exact .inl ⟨h, q⟩
end Rm

set_option linter.all false
namespace Rm
/-! ## three rows; closed round; units -/
def noS : Nat → Nat → Prop := fun _ _ => False
theorem Lyr.eq_of {n : Nat} {a b f h : Nat → Nat} {r : Nat} (L : Lyr n a b f r) (hc : ∀ x, x < 2 * n → h x < 2 * n ∧ h x ≠ x ∧ Conn (LY n a b) (pl n 0 (2 * n) x) (pl n 0 (2 * n) (h x))) : ∀ x, x < 2 * n → f x = h x := fun x hx => by
  obtain ⟨h1, h2, h3⟩ := hc x hx
  rcases (L.con x (h x) hx h1).mp h3 with e | e
  · exact absurd e.symm h2
  · exact e
theorem comp_none {V : Nat → Prop} {R : Nat → Nat → Prop} (h : ∀ v, ¬ V v) : Comp V R 0 := ⟨fun _ => 0, fun v hv => absurd hv (h v), fun i hi => absurd hi (Nat.not_lt_zero _), fun u v hu => absurd hu (h u)⟩
theorem Lyr.zero {n : Nat} {a b f : Nat → Nat} {r : Nat} (L : Lyr n a b f r) (h : ∀ v, n ≤ v → v < 2 * n → ∃ x, x < 2 * n ∧ Conn (LY n a b) (pl n 0 (2 * n) x) v) : r = 0 :=
  L.rings.unique (comp_none fun v ⟨hv, q⟩ => by
    obtain ⟨x, hx, c⟩ := h v hv.1 hv.2
    exact q x hx c)
/-! ### the parts of one row alone -/
theorem ro_comp {n u d : Nat} {f : Nat → Nat} (F : Inv2 (2 * n) f) (hd : u + n ≤ d) : ∃ c, Comp (fun v => (u ≤ v ∧ v < u + n) ∨ (d ≤ v ∧ v < d + n)) (RO n u d f noS) c := by
  refine ⟨_, comp_eqv (pl n u d) (fun v => if v < u + n then v - u else 2 * n - 1 - (v - d)) (fun v hv => ?_) (fun w hw => ?_) (fun v hv => ?_) (fun w hw => ?_) (fun x y hx hxy => ?_) (fun x y hx hxy => ?_) (comp_roads F F)⟩
  · have := pl_cases n u d v
    omega
  · show (if w < u + n then w - u else 2 * n - 1 - (w - d)) < 2 * n
    split <;> omega
  · show Conn _ (if pl n u d v < u + n then pl n u d v - u else 2 * n - 1 - (pl n u d v - d)) v
    have p := pl_cases n u d v
    have : (if pl n u d v < u + n then pl n u d v - u else 2 * n - 1 - (pl n u d v - d)) = v := by split <;> omega
    rw [this]; exact .refl _
  · show Conn _ (pl n u d (if w < u + n then w - u else 2 * n - 1 - (w - d))) w
    have p := pl_cases n u d (if w < u + n then w - u else 2 * n - 1 - (w - d))
    have : pl n u d (if w < u + n then w - u else 2 * n - 1 - (w - d)) = w := by
      split at p <;> rename_i q
      · rw [if_pos q]; omega
      · rw [if_neg q]; omega
    rw [this]; exact .refl _
  · obtain ⟨hy, e | e⟩ := R2_symm F F hx hxy
    · exact ⟨hy, by rw [← e]; exact .one (.inl ⟨x, hx, rfl, rfl⟩)⟩
    · exact ⟨hy, by rw [← e]; exact .one (.inl ⟨x, hx, rfl, rfl⟩)⟩
  · have inv : ∀ x, x < 2 * n → (if pl n u d x < u + n then pl n u d x - u else 2 * n - 1 - (pl n u d x - d)) = x := fun x hx => by
      have p := pl_cases n u d x
      split <;> omega
    have inV : ∀ x, x < 2 * n → (u ≤ pl n u d x ∧ pl n u d x < u + n) ∨ (d ≤ pl n u d x ∧ pl n u d x < d + n) := fun x hx => by
      have := pl_cases n u d x
      omega
    rcases hxy with (⟨z, hz, rfl, rfl⟩ | h) | (⟨z, hz, rfl, rfl⟩ | h)
    · refine ⟨inV _ (F.lt z hz), ?_⟩
      simp only [inv z hz, inv _ (F.lt z hz)]
      exact .one ⟨hz, .inl rfl⟩
    · exact h.elim
    · refine ⟨inV _ hz, ?_⟩
      simp only [inv z hz, inv _ (F.lt z hz)]
      exact .back ⟨hz, .inl rfl⟩ (.refl _)
    · exact h.elim
theorem pl_inj {n u d x y : Nat} (hd : u + n ≤ d) (hx : x < 2 * n) (hy : y < 2 * n) (e : pl n u d x = pl n u d y) : x = y := by
  have := pl_cases n u d x
  have := pl_cases n u d y
  omega
theorem ro_conn {n u d : Nat} {f : Nat → Nat} (F : Inv2 (2 * n) f) (hd : u + n ≤ d) {x y : Nat} (hx : x < 2 * n) (hy : y < 2 * n) (h : Conn (RO n u d f noS) (pl n u d x) (pl n u d y)) : x = y ∨ f x = y := by
  have hC : (fun z => z = pl n u d x ∨ z = pl n u d (f x)) (pl n u d y) := by
    refine h.stays (C := fun z => z = pl n u d x ∨ z = pl n u d (f x)) (fun s t hs hst => ?_) (.inl rfl)
    have lx := F.lt x hx
    rcases hst with (⟨z, hz, rfl, rfl⟩ | h) | (⟨z, hz, rfl, rfl⟩ | h)
    · rcases hs with e | e
      · rw [pl_inj hd hz hx e]; exact .inr rfl
      · rw [pl_inj hd hz lx e, F.inv x hx]; exact .inl rfl
    · exact h.elim
    · have lz := F.lt z hz
      rcases hs with e | e
      · have e2 := pl_inj hd lz hx e
        rw [← e2, F.inv z hz]; exact .inr rfl
      · have e2 := congrArg f (pl_inj hd lz lx e)
        rw [F.inv z hz, F.inv x hx] at e2
        rw [e2]; exact .inl rfl
    · exact h.elim
  rcases hC with e | e
  · exact .inl (pl_inj hd hy hx e).symm
  · exact .inr (pl_inj hd hy (F.lt x hx) e).symm
/-! ### any brackets -/
theorem lyr_assoc {n : Nat} {a b c f g h k : Nat → Nat} {r1 r2 r3 r4 : Nat} (A : Arcs (2 * n) a) (B : Arcs (2 * n) b) (C : Arcs (2 * n) c) (L1 : Lyr n a b f r1) (L2 : Lyr n f c g r2) (L3 : Lyr n b c h r3) (L4 : Lyr n a h k r4) :
    (∀ x, x < 2 * n → g x = k x) ∧ r2 + r1 = r4 + r3 := by
  have P2 : Put n 0 (2 * n) (3 * n) noS := ⟨.inl (by omega), .inr (by omega), fun _ _ h => h.elim⟩
  have P4 : Put n 0 n (3 * n) noS := ⟨.inl (by omega), .inr (by omega), fun _ _ h => h.elim⟩
  have edO : ∀ (u d : Nat) (e : Nat → Nat) (E : Arcs (2 * n) e) (x y : Nat), Ed n u d e x y → ((u ≤ x ∧ x < u + n) ∨ (d ≤ x ∧ x < d + n)) ∧ ((u ≤ y ∧ y < u + n) ∨ (d ≤ y ∧ y < d + n)) := fun u d e E x y ⟨z, hz, h1, h2⟩ => by
    have := pl_cases n u d z
    have := pl_cases n u d (e z)
    have := E.lt z hz
    omega
  have P1 : Put n 0 n (2 * n) (Ed n (2 * n) (3 * n) c) := ⟨.inl (by omega), .inr (by omega), fun x y h => by
    have := edO _ _ c C x y h
    unfold inM
    omega⟩
  have P3 : Put n n (2 * n) (3 * n) (Ed n 0 n a) := ⟨.inl (by omega), .inr (by omega), fun x y h => by
    have := edO _ _ a A x y h
    unfold inM
    omega⟩
  -- the same steps, said in two ways
  have q1 : ∀ x y, Conn (RG n 0 (2 * n) (3 * n) f c noS) x y ↔ Conn (RO n 0 (2 * n) f (Ed n (2 * n) (3 * n) c)) x y := fun x y => conn_congr (fun u v z => .one (z.elim (fun z => z.elim .inl .inr) fun z => z.elim)) (fun u v z => .one (.inl (z.elim .inl .inr)))
  have q2 : ∀ x y, Conn (RG n 0 n (3 * n) a h noS) x y ↔ Conn (RO n n (3 * n) h (Ed n 0 n a)) x y := fun x y => conn_congr (fun u v z => .one (z.elim (fun z => z.elim .inr .inl) fun z => z.elim)) (fun u v z => .one (.inl (z.elim .inr .inl)))
  have q3 : ∀ x y, Conn (RG n 0 n (2 * n) a b (Ed n (2 * n) (3 * n) c)) x y ↔ Conn (RG n n (2 * n) (3 * n) b c (Ed n 0 n a)) x y := fun x y => conn_congr
    (fun u v z => .one (z.elim (fun z => z.elim .inr fun z => .inl (.inl z)) fun z => .inl (.inr z))) (fun u v z => .one (z.elim (fun z => z.elim (fun z => .inl (.inr z)) .inr) fun z => .inl (.inl z)))
  have outN : ∀ x, x < 2 * n → ¬ inM n n (pl n 0 (3 * n) x) ∧ ¬ inM n (2 * n) (pl n 0 (3 * n) x) := fun x hx => by
    have := pl_cases n 0 (3 * n) x
    unfold inM
    omega
  have F1 := L1.arcs
  have F3 := L3.arcs
  have gk : ∀ x y, x < 2 * n → y < 2 * n → (Conn (RO n 0 (3 * n) g noS) (pl n 0 (3 * n) x) (pl n 0 (3 * n) y) ↔ Conn (RO n 0 (3 * n) k noS) (pl n 0 (3 * n) x) (pl n 0 (3 * n) y)) := fun x y hx hy => by
    rw [← sub_conn L2 F1 C P2 (outN x hx).2 (outN y hy).2, ← sub_conn L4 A F3 P4 (outN x hx).1 (outN y hy).1, q1, q2, ← sub_conn L1 A B P1 (outN x hx).1 (outN y hy).1, ← sub_conn L3 B C P3 (outN x hx).2 (outN y hy).2, q3]
  have same : ∀ x, x < 2 * n → g x = k x := fun x hx => by
    have l := L2.arcs.lt x hx
    have c1 := (gk x (g x) hx l).mp (.one (.inl ⟨x, hx, rfl, rfl⟩))
    rcases ro_conn L4.arcs.inv2 (by omega) hx l c1 with e | e
    · exact absurd e.symm (L2.arcs.ne x hx)
    · exact e.symm
  refine ⟨same, ?_⟩
  obtain ⟨m, hm⟩ := ro_comp (u := 0) (d := 3 * n) L2.arcs.inv2 (by omega)
  have hm' : Comp (fun v => (0 ≤ v ∧ v < 0 + n) ∨ (3 * n ≤ v ∧ v < 3 * n + n)) (RO n 0 (3 * n) k noS) m := hm.congr (fun _ => Iff.rfl) fun u v _ _ => conn_congr
    (fun s t z => .one (z.elim (fun ⟨x, hx, h1, h2⟩ => .inl ⟨x, hx, h1, by rw [← same x hx]; exact h2⟩) .inr)) (fun s t z => .one (z.elim (fun ⟨x, hx, h1, h2⟩ => .inl ⟨x, hx, h1, by rw [same x hx]; exact h2⟩) .inr))
  have plV : ∀ u d x, x < 2 * n → (u ≤ pl n u d x ∧ pl n u d x < u + n) ∨ (d ≤ pl n u d x ∧ pl n u d x < d + n) := fun u d x hx => by
    have := pl_cases n u d x
    omega
  have e1 := sub_comp L2 F1 C P2 (fun v hv => by unfold inM; omega) (plV _ _) (fun x y _ z => (z.elim False.elim False.elim)) hm
  have e2 := sub_comp (V := fun v => ((0 ≤ v ∧ v < 0 + n) ∨ (3 * n ≤ v ∧ v < 3 * n + n)) ∨ inM n (2 * n) v) L1 A B P1 (fun v hv => by unfold inM at hv ⊢; omega) (fun x hx => by have := plV 0 (2 * n) x hx; unfold inM; omega) (fun x y _ z => by
    rcases z with z | z
    · have := edO _ _ c C _ _ z
      unfold inM
      omega
    · have := edO _ _ c C _ _ z
      unfold inM
      omega) (e1.congr (fun _ => Iff.rfl) fun u v _ _ => q1 u v)
  have e3 := sub_comp L4 A F3 P4 (fun v hv => by unfold inM; omega) (plV _ _) (fun x y _ z => (z.elim False.elim False.elim)) hm'
  have e4 := sub_comp (V := fun v => ((0 ≤ v ∧ v < 0 + n) ∨ (3 * n ≤ v ∧ v < 3 * n + n)) ∨ inM n n v) L3 B C P3 (fun v hv => by unfold inM at hv ⊢; omega) (fun x hx => by have := plV n (3 * n) x hx; unfold inM; omega) (fun x y _ z => by
    rcases z with z | z
    · have := edO _ _ a A _ _ z
      unfold inM
      omega
    · have := edO _ _ a A _ _ z
      unfold inM
      omega) (e3.congr (fun _ => Iff.rfl) fun u v _ _ => q2 u v)
  have e5 := e2.congr (V' := fun v => (((0 ≤ v ∧ v < 0 + n) ∨ (3 * n ≤ v ∧ v < 3 * n + n)) ∨ inM n n v) ∨ inM n (2 * n) v) (fun v => by unfold inM; omega) fun u v _ _ => q3 u v
  have := e5.unique e4
  omega
/-! ### closed round -/
theorem ro_closed {n u : Nat} {f : Nat → Nat} (F : Arcs (2 * n) f) {b : Nat → Nat} (hb : ∀ k, k < 2 * n → b k = strF (2 * n) k) : Comp (fun v => u ≤ v ∧ v < u + n) (RO n u u f noS) (roadsM f b (2 * n)).length := by
  have S : Inv2 (2 * n) b := (str_arcs n).inv2.congr hb
  have eb : ∀ k, k < 2 * n → b k = 2 * n - 1 - k := fun k hk => hb k hk
  have ps : ∀ x, x < 2 * n → Conn (R2 f b (2 * n)) (pl n u u x - u) x := fun x hx => by
    have p := pl_cases n u u x
    by_cases c : x < n
    · rw [show pl n u u x - u = x by omega]; exact .refl _
    · rw [show pl n u u x - u = 2 * n - 1 - x by omega]
      exact .back ⟨hx, .inr (eb x hx)⟩ (.refl _)
  refine comp_eqv (pl n u u) (fun v => v - u) (fun v hv => ?_) (fun w hw => by show w - u < 2 * n; omega) (fun v hv => ps v hv) (fun w hw => ?_) (fun x y hx hxy => ?_) (fun x y hx hxy => ?_) (comp_roads F.inv2 S)
  · have := pl_cases n u u v
    omega
  · show Conn _ (pl n u u (w - u)) w
    have p := pl_cases n u u (w - u)
    rw [show pl n u u (w - u) = w by omega]; exact .refl _
  · obtain ⟨hy, e | e⟩ := R2_symm F.inv2 S hx hxy
    · exact ⟨hy, by rw [← e]; exact .one (.inl ⟨x, hx, rfl, rfl⟩)⟩
    · refine ⟨hy, ?_⟩
      rw [eb x hx] at e
      have p := pl_cases n u u x
      have p2 := pl_cases n u u y
      rw [show pl n u u x = pl n u u y by omega]
      exact .refl _
  · have key : ∀ z, z < 2 * n → Conn (R2 f b (2 * n)) (pl n u u z - u) (pl n u u (f z) - u) := fun z hz => ((ps z hz).trans (.one ⟨hz, .inl rfl⟩)).trans (ps (f z) (F.lt z hz)).symm
    rcases hxy with (⟨z, hz, rfl, rfl⟩ | h) | (⟨z, hz, rfl, rfl⟩ | h)
    · have := pl_cases n u u (f z)
      have := F.lt z hz
      exact ⟨by omega, key z hz⟩
    · exact h.elim
    · have := pl_cases n u u z
      exact ⟨by omega, (key z hz).symm⟩
    · exact h.elim
theorem lyr_round {n : Nat} {a b f g o : Nat → Nat} {r t : Nat} (A : Arcs (2 * n) a) (B : Arcs (2 * n) b) (L : Lyr n a b f r) (L' : Lyr n b a g t) (ho : ∀ k, k < 2 * n → o k = strF (2 * n) k) : (roadsM f o (2 * n)).length + r = (roadsM g o (2 * n)).length + t := by
  have P : Put n 0 n 0 noS := ⟨.inl (by omega), .inl (by omega), fun _ _ h => h.elim⟩
  have P' : Put n n 0 n noS := ⟨.inr (by omega), .inr (by omega), fun _ _ h => h.elim⟩
  have plV : ∀ u x, x < 2 * n → (u ≤ pl n u u x ∧ pl n u u x < u + n) := fun u x hx => by
    have := pl_cases n u u x
    omega
  have e1 := sub_comp L A B P (fun v hv => by unfold inM; omega) (plV 0) (fun x y _ z => (z.elim False.elim False.elim)) (ro_closed L.arcs ho)
  have e2 := sub_comp L' B A P' (fun v hv => by unfold inM; omega) (plV n) (fun x y _ z => (z.elim False.elim False.elim)) (ro_closed L'.arcs ho)
  have e3 := e1.congr (V' := fun v => (n ≤ v ∧ v < n + n) ∨ inM n 0 v) (R' := RG n n 0 n b a noS) (fun v => by unfold inM; omega) fun u v _ _ => conn_congr (fun s t z => .one (z.elim (fun z => .inl (z.elim .inr .inl)) .inr)) (fun s t z => .one (z.elim (fun z => .inl (z.elim .inr .inl)) .inr))
  exact e3.unique e2
/-! ### the straight ones turn nothing -/
theorem ly_a {n : Nat} {a b : Nat → Nat} {x : Nat} (h : x < 2 * n) : Conn (LY n a b) (pl n 0 n x) (pl n 0 n (a x)) := .one (.inl ⟨x, h, rfl, rfl⟩)
theorem ly_b {n : Nat} {a b : Nat → Nat} {x : Nat} (h : x < 2 * n) : Conn (LY n a b) (pl n n (2 * n) x) (pl n n (2 * n) (b x)) := .one (.inr ⟨x, h, rfl, rfl⟩)
theorem lyr_unitR {n : Nat} {a b f : Nat → Nat} {r : Nat} (A : Arcs (2 * n) a) (hb : ∀ k, k < 2 * n → b k = strF (2 * n) k) (L : Lyr n a b f r) : (∀ x, x < 2 * n → f x = a x) ∧ r = 0 := by
  have dn : ∀ j, j < n → Conn (LY n a b) (2 * n + j) (n + j) := fun j hj => by
    have c := ly_b (a := a) (b := b) (show j < 2 * n by omega)
    rw [hb j (by omega)] at c
    have e : strF (2 * n) j = 2 * n - 1 - j := rfl
    rw [e] at c
    have p1 := pl_cases n n (2 * n) j
    have p2 := pl_cases n n (2 * n) (2 * n - 1 - j)
    rw [show pl n n (2 * n) j = n + j by omega, show pl n n (2 * n) (2 * n - 1 - j) = 2 * n + j by omega] at c
    exact c.symm
  have key : ∀ x, x < 2 * n → Conn (LY n a b) (pl n 0 (2 * n) x) (pl n 0 n x) := fun x hx => by
    have p1 := pl_cases n 0 n x
    have p2 := pl_cases n 0 (2 * n) x
    by_cases c : x < n
    · rw [show pl n 0 (2 * n) x = pl n 0 n x by omega]; exact .refl _
    · rw [show pl n 0 (2 * n) x = 2 * n + (2 * n - 1 - x) by omega, show pl n 0 n x = n + (2 * n - 1 - x) by omega]
      exact dn _ (by omega)
  refine ⟨L.eq_of fun x hx => ⟨A.lt x hx, A.ne x hx, ((key x hx).trans (ly_a hx)).trans (key _ (A.lt x hx)).symm⟩, L.zero fun v h1 h2 => ⟨3 * n - 1 - v, by omega, ?_⟩⟩
  have p := pl_cases n 0 (2 * n) (3 * n - 1 - v)
  have c := dn (v - n) (by omega)
  rw [show 2 * n + (v - n) = pl n 0 (2 * n) (3 * n - 1 - v) by omega, show n + (v - n) = v by omega] at c
  exact c
theorem lyr_unitL {n : Nat} {a b f : Nat → Nat} {r : Nat} (A : Arcs (2 * n) a) (hb : ∀ k, k < 2 * n → b k = strF (2 * n) k) (L : Lyr n b a f r) : (∀ x, x < 2 * n → f x = a x) ∧ r = 0 := by
  have up : ∀ j, j < n → Conn (LY n b a) j (n + j) := fun j hj => by
    have c := ly_a (a := b) (b := a) (show j < 2 * n by omega)
    rw [hb j (by omega)] at c
    have e : strF (2 * n) j = 2 * n - 1 - j := rfl
    rw [e] at c
    have p1 := pl_cases n 0 n j
    have p2 := pl_cases n 0 n (2 * n - 1 - j)
    rw [show pl n 0 n j = j by omega, show pl n 0 n (2 * n - 1 - j) = n + j by omega] at c
    exact c
  have key : ∀ x, x < 2 * n → Conn (LY n b a) (pl n 0 (2 * n) x) (pl n n (2 * n) x) := fun x hx => by
    have p1 := pl_cases n n (2 * n) x
    have p2 := pl_cases n 0 (2 * n) x
    by_cases c : x < n
    · rw [show pl n 0 (2 * n) x = x by omega, show pl n n (2 * n) x = n + x by omega]
      exact up x c
    · rw [show pl n 0 (2 * n) x = pl n n (2 * n) x by omega]; exact .refl _
  refine ⟨L.eq_of fun x hx => ⟨A.lt x hx, A.ne x hx, ((key x hx).trans (ly_b hx)).trans (key _ (A.lt x hx)).symm⟩, L.zero fun v h1 h2 => ⟨v - n, by omega, ?_⟩⟩
  have p := pl_cases n 0 (2 * n) (v - n)
  have c := up (v - n) (by omega)
  rw [show n + (v - n) = v by omega] at c
  rw [show pl n 0 (2 * n) (v - n) = v - n by omega]
  exact c
end Rm

set_option linter.all false
namespace Rm
/-! ## hooks -/
def hkF (n j x : Nat) : Nat := if x = j then j + 1 else if x = j + 1 then j else if x = 2 * n - 2 - j then 2 * n - 1 - j else if x = 2 * n - 1 - j then 2 * n - 2 - j else 2 * n - 1 - x
theorem hk_cases (n j x : Nat) : (x = j ∧ hkF n j x = j + 1) ∨ (x = j + 1 ∧ hkF n j x = j) ∨ (x ≠ j ∧ x ≠ j + 1 ∧ x = 2 * n - 2 - j ∧ hkF n j x = 2 * n - 1 - j) ∨ (x ≠ j ∧ x ≠ j + 1 ∧ x ≠ 2 * n - 2 - j ∧ x = 2 * n - 1 - j ∧ hkF n j x = 2 * n - 2 - j) ∨
    (x ≠ j ∧ x ≠ j + 1 ∧ x ≠ 2 * n - 2 - j ∧ x ≠ 2 * n - 1 - j ∧ hkF n j x = 2 * n - 1 - x) := by
  unfold hkF
  by_cases c1 : x = j
  · rw [if_pos c1]; exact .inl ⟨c1, rfl⟩
  · rw [if_neg c1]
    by_cases c2 : x = j + 1
    · rw [if_pos c2]; exact .inr (.inl ⟨c2, rfl⟩)
    · rw [if_neg c2]
      by_cases c3 : x = 2 * n - 2 - j
      · rw [if_pos c3]; exact .inr (.inr (.inl ⟨c1, c2, c3, rfl⟩))
      · rw [if_neg c3]
        by_cases c4 : x = 2 * n - 1 - j
        · rw [if_pos c4]; exact .inr (.inr (.inr (.inl ⟨c1, c2, c3, c4, rfl⟩)))
        · rw [if_neg c4]; exact .inr (.inr (.inr (.inr ⟨c1, c2, c3, c4, rfl⟩)))
theorem hk_arcs {n j : Nat} (h : j + 1 < n) : Arcs (2 * n) (hkF n j) := by
  refine ⟨fun k hk => ?_, fun k hk => ?_, fun k hk => ?_, fun i k h1 h2 h3 h4 => ?_⟩
  · have := hk_cases n j k; omega
  · have := hk_cases n j k; omega
  · have := hk_cases n j k; have := hk_cases n j (hkF n j k); omega
  · have := hk_cases n j i; have := hk_cases n j k; omega
theorem hk_up {n u d j : Nat} (h : j + 1 < n) : Ed n u d (hkF n j) (u + j) (u + (j + 1)) := by
  have c := hk_cases n j j
  have p := pl_cases n u d j
  have p2 := pl_cases n u d (hkF n j j)
  exact ⟨j, by omega, by omega, by omega⟩
theorem hk_lo {n u d j : Nat} (h : j + 1 < n) : Ed n u d (hkF n j) (d + (j + 1)) (d + j) := by
  have c := hk_cases n j (2 * n - 2 - j)
  have p := pl_cases n u d (2 * n - 2 - j)
  have p2 := pl_cases n u d (hkF n j (2 * n - 2 - j))
  exact ⟨2 * n - 2 - j, by omega, by omega, by omega⟩
theorem hk_st {n u d j k : Nat} (h : j + 1 < n) (hk : k < n) (h1 : k ≠ j) (h2 : k ≠ j + 1) : Ed n u d (hkF n j) (u + k) (d + k) := by
  have c := hk_cases n j k
  have p := pl_cases n u d k
  have p2 := pl_cases n u d (hkF n j k)
  exact ⟨k, by omega, by omega, by omega⟩
theorem end_cases {n x : Nat} (h : x < 2 * n) : x < n ∨ ∃ k, k < n ∧ x = 2 * n - 1 - k := by
  by_cases c : x < n
  · exact .inl c
  · exact .inr ⟨2 * n - 1 - x, by omega, by omega⟩
theorem pl_t {n u d k : Nat} (h : k < n) : pl n u d k = u + k := by have := pl_cases n u d k; omega
theorem pl_b {n u d k : Nat} (h : k < n) : pl n u d (2 * n - 1 - k) = d + k := by have := pl_cases n u d (2 * n - 1 - k); omega
/-- what comes, told column by column: y's point and the way to it -/
theorem Lyr.cols {n : Nat} {a b f h : Nat → Nat} {r : Nat} (L : Lyr n a b f r) (hl : ∀ x, x < 2 * n → h x < 2 * n ∧ h x ≠ x) (ht : ∀ k, k < n → Conn (LY n a b) (0 + k) (pl n 0 (2 * n) (h k))) (hb : ∀ k, k < n → Conn (LY n a b) (2 * n + k) (pl n 0 (2 * n) (h (2 * n - 1 - k)))) : ∀ x, x < 2 * n → f x = h x :=
  L.eq_of fun x hx => ⟨(hl x hx).1, (hl x hx).2, by
    rcases end_cases hx with c | ⟨k, hk, rfl⟩
    · rw [pl_t c]; exact ht x c
    · rw [pl_b hk]; exact hb k hk⟩
theorem Lyr.zeroC {n : Nat} {a b f : Nat → Nat} {r : Nat} (L : Lyr n a b f r) (h : ∀ k, k < n → ∃ q, q < n ∧ (Conn (LY n a b) (0 + q) (n + k) ∨ Conn (LY n a b) (2 * n + q) (n + k))) : r = 0 :=
  L.zero fun v h1 h2 => by
    obtain ⟨q, hq, c⟩ := h (v - n) (by omega)
    rw [show n + (v - n) = v by omega] at c
    rcases c with c | c
    · exact ⟨q, by omega, by rw [pl_t hq]; exact c⟩
    · exact ⟨2 * n - 1 - q, by omega, by rw [pl_b hq]; exact c⟩
theorem eA {n : Nat} {a b : Nat → Nat} {v w : Nat} (h : Ed n 0 n a v w) : Conn (LY n a b) v w := .one (.inl h)
theorem eB {n : Nat} {a b : Nat → Nat} {v w : Nat} (h : Ed n n (2 * n) b v w) : Conn (LY n a b) v w := .one (.inr h)
/-- one hook's two columns, in either order -/
def Two (j t m : Nat) : Prop := (t = j ∧ m = j + 1) ∨ (t = j + 1 ∧ m = j)
theorem two_up {n u d j t m : Nat} {R : Nat → Nat → Prop} (h : j + 1 < n) (T : Two j t m) (hR : ∀ v w, Ed n u d (hkF n j) v w → Conn R v w) : Conn R (u + t) (u + m) := by
  have c := hR _ _ (hk_up (u := u) (d := d) h)
  rcases T with ⟨rfl, rfl⟩ | ⟨rfl, rfl⟩
  · exact c
  · exact c.symm
theorem two_lo {n u d j t m : Nat} {R : Nat → Nat → Prop} (h : j + 1 < n) (T : Two j t m) (hR : ∀ v w, Ed n u d (hkF n j) v w → Conn R v w) : Conn R (d + t) (d + m) := by
  have c := hR _ _ (hk_lo (u := u) (d := d) h)
  rcases T with ⟨rfl, rfl⟩ | ⟨rfl, rfl⟩
  · exact c.symm
  · exact c
/-! ### a hook beneath itself -/
theorem hk_self {n j : Nat} {f : Nat → Nat} {r : Nat} (h : j + 1 < n) (L : Lyr n (hkF n j) (hkF n j) f r) : (∀ x, x < 2 * n → f x = hkF n j x) ∧ r = 1 := by
  have A := hk_arcs h
  have st : ∀ k, k < n → k ≠ j → k ≠ j + 1 → Conn (LY n (hkF n j) (hkF n j)) (0 + k) (n + k) ∧ Conn (LY n (hkF n j) (hkF n j)) (n + k) (2 * n + k) := fun k hk h1 h2 => ⟨eA (hk_st h hk h1 h2), eB (hk_st h hk h1 h2)⟩
  refine ⟨L.cols (fun x hx => ⟨A.lt x hx, A.ne x hx⟩) (fun k hk => ?_) (fun k hk => ?_), ?_⟩
  · by_cases c1 : k = j
    · have e : hkF n j k = j + 1 := by have := hk_cases n j k; omega
      rw [e, pl_t (by omega), c1]
      exact eA (hk_up h)
    · by_cases c2 : k = j + 1
      · have e : hkF n j k = j := by have := hk_cases n j k; omega
        rw [e, pl_t (by omega), c2]
        exact (eA (hk_up h)).symm
      · have e : hkF n j k = 2 * n - 1 - k := by have := hk_cases n j k; omega
        rw [e, pl_b hk]
        exact (st k hk c1 c2).1.trans (st k hk c1 c2).2
  · by_cases c1 : k = j
    · have e : hkF n j (2 * n - 1 - k) = 2 * n - 1 - (j + 1) := by have := hk_cases n j (2 * n - 1 - k); omega
      rw [e, pl_b (by omega), c1]
      exact (eB (hk_lo h)).symm
    · by_cases c2 : k = j + 1
      · have e : hkF n j (2 * n - 1 - k) = 2 * n - 1 - j := by have := hk_cases n j (2 * n - 1 - k); omega
        rw [e, pl_b (by omega), c2]
        exact eB (hk_lo h)
      · have e : hkF n j (2 * n - 1 - k) = k := by have := hk_cases n j (2 * n - 1 - k); omega
        rw [e, pl_t hk]
        exact ((st k hk c1 c2).1.trans (st k hk c1 c2).2).symm
  · refine L.rings.unique (Comp.congr (V := fun v => v = n + j ∨ v = n + (j + 1)) (R := LY n (hkF n j) (hkF n j)) ⟨fun _ => 0, fun _ _ => Nat.zero_lt_one, fun i hi => ⟨n + j, .inl rfl, by show 0 = i; omega⟩, fun u v hu hv => ⟨fun _ => ?_, fun _ => rfl⟩⟩ (fun v => ⟨fun hv => ⟨by omega, fun x hx c => ?_⟩, fun hv => ?_⟩) (fun _ _ _ _ => Iff.rfl))
    · have c : Conn (LY n (hkF n j) (hkF n j)) (n + (j + 1)) (n + j) := eA (hk_lo h)
      rcases hu with rfl | rfl <;> rcases hv with rfl | rfl
      · exact .refl _
      · exact c.symm
      · exact c
      · exact .refl _
    · have hC : (fun z => z = n + j ∨ z = n + (j + 1)) (pl n 0 (2 * n) x) := by
        refine c.symm.stays (C := fun z => z = n + j ∨ z = n + (j + 1)) (fun s t hs hst => ?_) hv
        rcases hst with (⟨z, hz, h1, h2⟩ | ⟨z, hz, h1, h2⟩) | (⟨z, hz, h1, h2⟩ | ⟨z, hz, h1, h2⟩)
        · have := hk_cases n j z; have := pl_cases n 0 n z; have := pl_cases n 0 n (hkF n j z); omega
        · have := hk_cases n j z; have := pl_cases n n (2 * n) z; have := pl_cases n n (2 * n) (hkF n j z); omega
        · have := hk_cases n j z; have := pl_cases n 0 n z; have := pl_cases n 0 n (hkF n j z); omega
        · have := hk_cases n j z; have := pl_cases n n (2 * n) z; have := pl_cases n n (2 * n) (hkF n j z); omega
      have := pl_cases n 0 (2 * n) x
      omega
    · obtain ⟨hv1, hv2⟩ := hv
      by_cases c1 : v = n + j
      · exact .inl c1
      · by_cases c2 : v = n + (j + 1)
        · exact .inr c2
        · have := hv2 (v - n) (by omega)
          rw [pl_t (by omega)] at this
          have c := (st (v - n) (by omega) (by omega) (by omega)).1
          rw [show n + (v - n) = v by omega] at c
          exact absurd c this
/-! ### beneath its neighbour, and that beneath it again -/
def nbF (n t m s x : Nat) : Nat := if x = t then m else if x = m then t else if x = s then 2 * n - 1 - t else if x = 2 * n - 1 - s then 2 * n - 1 - m else if x = 2 * n - 1 - m then 2 * n - 1 - s else if x = 2 * n - 1 - t then s else 2 * n - 1 - x
structure Nb (n j i t m s : Nat) : Prop where
  j1 : j + 1 < n
  i1 : i + 1 < n
  tj : Two j t m
  ti : Two i s m
  ne : s ≠ t
theorem Nb.facts {n j i t m s : Nat} (N : Nb n j i t m s) : t < n ∧ m < n ∧ s < n ∧ t ≠ m ∧ s ≠ m ∧ s ≠ t ∧ s ≠ j ∧ s ≠ j + 1 ∧ t ≠ i ∧ t ≠ i + 1 ∧ (∀ k, k ≠ t → k ≠ m → k ≠ j ∧ k ≠ j + 1) ∧ ∀ k, k ≠ s → k ≠ m → k ≠ i ∧ k ≠ i + 1 := by
  have h1 := N.tj
  have h2 := N.ti
  have h3 := N.ne
  have h4 := N.j1
  have h5 := N.i1
  unfold Two at h1 h2
  refine ⟨by omega, by omega, by omega, by omega, by omega, by omega, by omega, by omega, by omega, by omega, fun k _ _ => by omega, fun k _ _ => by omega⟩
theorem nb_t {n t m s : Nat} : nbF n t m s t = m := by unfold nbF; rw [if_pos rfl]
theorem nb_vals {n t m s : Nat} (ht : t < n) (hm : m < n) (hs : s < n) (h1 : t ≠ m) (h2 : s ≠ m) (h3 : s ≠ t) :
    nbF n t m s t = m ∧ nbF n t m s m = t ∧ nbF n t m s s = 2 * n - 1 - t ∧ nbF n t m s (2 * n - 1 - s) = 2 * n - 1 - m ∧ nbF n t m s (2 * n - 1 - m) = 2 * n - 1 - s ∧ nbF n t m s (2 * n - 1 - t) = s ∧
    (∀ k, k < n → k ≠ t → k ≠ m → k ≠ s → nbF n t m s k = 2 * n - 1 - k ∧ nbF n t m s (2 * n - 1 - k) = k) := by
  unfold nbF
  refine ⟨if_pos rfl, ?_, ?_, ?_, ?_, ?_, fun k hk q1 q2 q3 => ⟨?_, ?_⟩⟩
  · rw [if_neg (by omega), if_pos rfl]
  · rw [if_neg (by omega), if_neg (by omega), if_pos rfl]
  · rw [if_neg (by omega), if_neg (by omega), if_neg (by omega), if_pos rfl]
  · rw [if_neg (by omega), if_neg (by omega), if_neg (by omega), if_neg (by omega), if_pos rfl]
  · rw [if_neg (by omega), if_neg (by omega), if_neg (by omega), if_neg (by omega), if_neg (by omega), if_pos rfl]
  · rw [if_neg (by omega), if_neg (by omega), if_neg (by omega), if_neg (by omega), if_neg (by omega), if_neg (by omega)]
  · rw [if_neg (by omega), if_neg (by omega), if_neg (by omega), if_neg (by omega), if_neg (by omega), if_neg (by omega)]
    omega
theorem col_cases {n t m s : Nat} (k : Nat) : k = t ∨ k = m ∨ k = s ∨ (k ≠ t ∧ k ≠ m ∧ k ≠ s) := by omega
theorem nb_ok {n t m s : Nat} (ht : t < n) (hm : m < n) (hs : s < n) (h1 : t ≠ m) (h2 : s ≠ m) (h3 : s ≠ t) : ∀ x, x < 2 * n → nbF n t m s x < 2 * n ∧ nbF n t m s x ≠ x := fun x hx => by
  obtain ⟨v1, v2, v3, v4, v5, v6, v7⟩ := nb_vals ht hm hs h1 h2 h3
  rcases end_cases hx with c | ⟨k, hk, rfl⟩
  · rcases col_cases (n := n) (t := t) (m := m) (s := s) x with rfl | rfl | rfl | ⟨q1, q2, q3⟩
    · omega
    · omega
    · omega
    · have := (v7 x c q1 q2 q3).1; omega
  · rcases col_cases (n := n) (t := t) (m := m) (s := s) k with rfl | rfl | rfl | ⟨q1, q2, q3⟩
    · omega
    · omega
    · omega
    · have := (v7 k hk q1 q2 q3).2; omega
theorem nb_first {n j i t m s r : Nat} {f : Nat → Nat} (N : Nb n j i t m s) (L : Lyr n (hkF n j) (hkF n i) f r) : (∀ x, x < 2 * n → f x = nbF n t m s x) ∧ r = 0 := by
  obtain ⟨ht, hm, hs, e1, e2, e3, e4, e5, e6, e7, cj, ci⟩ := N.facts
  obtain ⟨v1, v2, v3, v4, v5, v6, v7⟩ := nb_vals ht hm hs e1 e2 e3
  have ju : Conn (LY n (hkF n j) (hkF n i)) (0 + t) (0 + m) := two_up N.j1 N.tj fun v w => eA
  have jl : Conn (LY n (hkF n j) (hkF n i)) (n + t) (n + m) := two_lo N.j1 N.tj fun v w => eA
  have iu : Conn (LY n (hkF n j) (hkF n i)) (n + s) (n + m) := two_up N.i1 N.ti fun v w => eB
  have il : Conn (LY n (hkF n j) (hkF n i)) (2 * n + s) (2 * n + m) := two_lo N.i1 N.ti fun v w => eB
  have s1 : Conn (LY n (hkF n j) (hkF n i)) (0 + s) (n + s) := eA (hk_st N.j1 hs e4 e5)
  have t2 : Conn (LY n (hkF n j) (hkF n i)) (n + t) (2 * n + t) := eB (hk_st N.i1 ht e6 e7)
  have st : ∀ k, k < n → k ≠ t → k ≠ m → k ≠ s → Conn (LY n (hkF n j) (hkF n i)) (0 + k) (n + k) ∧ Conn (LY n (hkF n j) (hkF n i)) (n + k) (2 * n + k) := fun k hk h1 h2 h3 =>
    ⟨eA (hk_st N.j1 hk (cj k h1 h2).1 (cj k h1 h2).2), eB (hk_st N.i1 hk (ci k h3 h2).1 (ci k h3 h2).2)⟩
  have sm := s1.trans iu
  have smt := sm.trans jl.symm
  have smtt := smt.trans t2
  refine ⟨L.cols (nb_ok ht hm hs e1 e2 e3) (fun k hk => ?_) (fun k hk => ?_), L.zeroC fun k hk => ?_⟩
  · rcases col_cases (n := n) (t := t) (m := m) (s := s) k with rfl | rfl | rfl | ⟨q1, q2, q3⟩
    · rw [v1, pl_t hm]; exact ju
    · rw [v2, pl_t ht]; exact ju.symm
    · rw [v3, pl_b ht]; exact smtt
    · rw [(v7 k hk q1 q2 q3).1, pl_b hk]; exact (st k hk q1 q2 q3).1.trans (st k hk q1 q2 q3).2
  · rcases col_cases (n := n) (t := t) (m := m) (s := s) k with rfl | rfl | rfl | ⟨q1, q2, q3⟩
    · rw [v6, pl_t hs]; exact smtt.symm
    · rw [v5, pl_b hs]; exact il.symm
    · rw [v4, pl_b hm]; exact il
    · rw [(v7 k hk q1 q2 q3).2, pl_t hk]; exact ((st k hk q1 q2 q3).1.trans (st k hk q1 q2 q3).2).symm
  · rcases col_cases (n := n) (t := t) (m := m) (s := s) k with rfl | rfl | rfl | ⟨q1, q2, q3⟩
    · exact ⟨s, hs, .inl smt⟩
    · exact ⟨s, hs, .inl sm⟩
    · exact ⟨k, hs, .inl s1⟩
    · exact ⟨k, hk, .inl (st k hk q1 q2 q3).1⟩
theorem nb_again {n j i t m s r : Nat} {f g : Nat → Nat} (N : Nb n j i t m s) (hf : ∀ x, x < 2 * n → f x = nbF n t m s x) (L : Lyr n f (hkF n j) g r) : (∀ x, x < 2 * n → g x = hkF n j x) ∧ r = 0 := by
  obtain ⟨ht, hm, hs, e1, e2, e3, e4, e5, e6, e7, cj, ci⟩ := N.facts
  obtain ⟨v1, v2, v3, v4, v5, v6, v7⟩ := nb_vals ht hm hs e1 e2 e3
  have row : ∀ x y, x < 2 * n → nbF n t m s x = y → Conn (LY n f (hkF n j)) (pl n 0 n x) (pl n 0 n y) := fun x y hx e => by
    have := ly_a (a := f) (b := hkF n j) hx
    rw [hf x hx, e] at this
    exact this
  have fu : Conn (LY n f (hkF n j)) (0 + t) (0 + m) := by
    have := row t m (by omega) v1
    rw [pl_t ht, pl_t hm] at this
    exact this
  have st0 : Conn (LY n f (hkF n j)) (0 + s) (n + t) := by
    have := row s _ (by omega) v3
    rw [pl_t hs, pl_b ht] at this
    exact this
  have sm0 : Conn (LY n f (hkF n j)) (n + s) (n + m) := by
    have := row (2 * n - 1 - s) _ (by omega) v4
    rw [pl_b hs, pl_b hm] at this
    exact this
  have ju : Conn (LY n f (hkF n j)) (n + t) (n + m) := two_up N.j1 N.tj fun v w => eB
  have jl : Conn (LY n f (hkF n j)) (2 * n + t) (2 * n + m) := two_lo N.j1 N.tj fun v w => eB
  have s2 : Conn (LY n f (hkF n j)) (n + s) (2 * n + s) := eB (hk_st N.j1 hs e4 e5)
  have st : ∀ k, k < n → k ≠ t → k ≠ m → k ≠ s → Conn (LY n f (hkF n j)) (0 + k) (n + k) ∧ Conn (LY n f (hkF n j)) (n + k) (2 * n + k) := fun k hk h1 h2 h3 => by
    refine ⟨?_, eB (hk_st N.j1 hk (cj k h1 h2).1 (cj k h1 h2).2)⟩
    have := row k _ (by omega) (v7 k hk h1 h2 h3).1
    rw [pl_t hk, pl_b hk] at this
    exact this
  have stm := st0.trans ju
  have stms := stm.trans sm0.symm
  have all := stms.trans s2
  have A := hk_arcs N.j1
  have hv : hkF n j t = m ∧ hkF n j m = t ∧ hkF n j (2 * n - 1 - t) = 2 * n - 1 - m ∧ hkF n j (2 * n - 1 - m) = 2 * n - 1 - t ∧ (∀ k, k < n → k ≠ t → k ≠ m → hkF n j k = 2 * n - 1 - k ∧ hkF n j (2 * n - 1 - k) = k) := by
    have T := N.tj
    have h4 := N.j1
    unfold Two at T
    refine ⟨?_, ?_, ?_, ?_, fun k hk q1 q2 => ⟨?_, ?_⟩⟩
    · have := hk_cases n j t; omega
    · have := hk_cases n j m; omega
    · have := hk_cases n j (2 * n - 1 - t); omega
    · have := hk_cases n j (2 * n - 1 - m); omega
    · have := hk_cases n j k; omega
    · have := hk_cases n j (2 * n - 1 - k); omega
  obtain ⟨w1, w2, w3, w4, w5⟩ := hv
  refine ⟨L.cols (fun x hx => ⟨A.lt x hx, A.ne x hx⟩) (fun k hk => ?_) (fun k hk => ?_), L.zeroC fun k hk => ?_⟩
  · rcases col_cases (n := n) (t := t) (m := m) (s := s) k with rfl | rfl | rfl | ⟨q1, q2, q3⟩
    · rw [w1, pl_t hm]; exact fu
    · rw [w2, pl_t ht]; exact fu.symm
    · rw [(w5 k hs e3 e2).1, pl_b hs]; exact all
    · rw [(w5 k hk q1 q2).1, pl_b hk]; exact (st k hk q1 q2 q3).1.trans (st k hk q1 q2 q3).2
  · rcases col_cases (n := n) (t := t) (m := m) (s := s) k with rfl | rfl | rfl | ⟨q1, q2, q3⟩
    · rw [w3, pl_b hm]; exact jl
    · rw [w4, pl_b ht]; exact jl.symm
    · rw [(w5 k hs e3 e2).2, pl_t hs]; exact all.symm
    · rw [(w5 k hk q1 q2).2, pl_t hk]; exact ((st k hk q1 q2 q3).1.trans (st k hk q1 q2 q3).2).symm
  · rcases col_cases (n := n) (t := t) (m := m) (s := s) k with rfl | rfl | rfl | ⟨q1, q2, q3⟩
    · exact ⟨s, hs, .inl st0⟩
    · exact ⟨s, hs, .inl stm⟩
    · exact ⟨k, hs, .inl stms⟩
    · exact ⟨k, hk, .inl (st k hk q1 q2 q3).1⟩
/-! ### two that stand apart -/
def twF (n i j x : Nat) : Nat := if x = j then j + 1 else if x = j + 1 then j else if x = i then i + 1 else if x = i + 1 then i else if x = 2 * n - 1 - j then 2 * n - 1 - (j + 1) else if x = 2 * n - 1 - (j + 1) then 2 * n - 1 - j else
  if x = 2 * n - 1 - i then 2 * n - 1 - (i + 1) else if x = 2 * n - 1 - (i + 1) then 2 * n - 1 - i else 2 * n - 1 - x
theorem tw_vals {n i j : Nat} (hj : j + 1 < n) (hi : i + 1 < n) (h1 : i ≠ j) (h2 : i ≠ j + 1) (h3 : j ≠ i + 1) :
    (twF n i j j = j + 1 ∧ twF n i j (j + 1) = j ∧ twF n i j i = i + 1 ∧ twF n i j (i + 1) = i) ∧ (twF n i j (2 * n - 1 - j) = 2 * n - 1 - (j + 1) ∧ twF n i j (2 * n - 1 - (j + 1)) = 2 * n - 1 - j ∧ twF n i j (2 * n - 1 - i) = 2 * n - 1 - (i + 1) ∧ twF n i j (2 * n - 1 - (i + 1)) = 2 * n - 1 - i) ∧
    ∀ k, k < n → k ≠ j → k ≠ j + 1 → k ≠ i → k ≠ i + 1 → twF n i j k = 2 * n - 1 - k ∧ twF n i j (2 * n - 1 - k) = k := by
  unfold twF
  refine ⟨⟨if_pos rfl, ?_, ?_, ?_⟩, ⟨?_, ?_, ?_, ?_⟩, fun k hk q1 q2 q3 q4 => ⟨?_, ?_⟩⟩
  · rw [if_neg (by omega), if_pos rfl]
  · rw [if_neg (by omega), if_neg (by omega), if_pos rfl]
  · rw [if_neg (by omega), if_neg (by omega), if_neg (by omega), if_pos rfl]
  · rw [if_neg (by omega), if_neg (by omega), if_neg (by omega), if_neg (by omega), if_pos rfl]
  · rw [if_neg (by omega), if_neg (by omega), if_neg (by omega), if_neg (by omega), if_neg (by omega), if_pos rfl]
  · rw [if_neg (by omega), if_neg (by omega), if_neg (by omega), if_neg (by omega), if_neg (by omega), if_neg (by omega), if_pos rfl]
  · rw [if_neg (by omega), if_neg (by omega), if_neg (by omega), if_neg (by omega), if_neg (by omega), if_neg (by omega), if_neg (by omega), if_pos rfl]
  · rw [if_neg (by omega), if_neg (by omega), if_neg (by omega), if_neg (by omega), if_neg (by omega), if_neg (by omega), if_neg (by omega), if_neg (by omega)]
  · rw [if_neg (by omega), if_neg (by omega), if_neg (by omega), if_neg (by omega), if_neg (by omega), if_neg (by omega), if_neg (by omega), if_neg (by omega)]
    omega
theorem col4 (i j k : Nat) : k = j ∨ k = j + 1 ∨ k = i ∨ k = i + 1 ∨ (k ≠ j ∧ k ≠ j + 1 ∧ k ≠ i ∧ k ≠ i + 1) := by omega
theorem tw_ok {n i j : Nat} (hj : j + 1 < n) (hi : i + 1 < n) (h1 : i ≠ j) (h2 : i ≠ j + 1) (h3 : j ≠ i + 1) : ∀ x, x < 2 * n → twF n i j x < 2 * n ∧ twF n i j x ≠ x := fun x hx => by
  obtain ⟨⟨v1, v2, v3, v4⟩, ⟨v5, v6, v7, v8⟩, v9⟩ := tw_vals hj hi h1 h2 h3
  rcases end_cases hx with c | ⟨k, hk, rfl⟩
  · rcases col4 i j x with e | e | e | e | ⟨q1, q2, q3, q4⟩
    · rw [e]; omega
    · rw [e]; omega
    · rw [e]; omega
    · rw [e]; omega
    · have := (v9 x c q1 q2 q3 q4).1; omega
  · rcases col4 i j k with e | e | e | e | ⟨q1, q2, q3, q4⟩
    · rw [e]; omega
    · rw [e]; omega
    · rw [e]; omega
    · rw [e]; omega
    · have := (v9 k hk q1 q2 q3 q4).2; omega
theorem tw_swap {n i j : Nat} (hj : j + 1 < n) (hi : i + 1 < n) (h1 : i ≠ j) (h2 : i ≠ j + 1) (h3 : j ≠ i + 1) : ∀ x, x < 2 * n → twF n i j x = twF n j i x := fun x hx => by
  obtain ⟨⟨v1, v2, v3, v4⟩, ⟨v5, v6, v7, v8⟩, v9⟩ := tw_vals hj hi h1 h2 h3
  obtain ⟨⟨w1, w2, w3, w4⟩, ⟨w5, w6, w7, w8⟩, w9⟩ := tw_vals hi hj (fun e => h1 e.symm) h3 h2
  rcases end_cases hx with c | ⟨k, hk, rfl⟩
  · rcases col4 i j x with e | e | e | e | ⟨q1, q2, q3, q4⟩
    · rw [e, v1, w3]
    · rw [e, v2, w4]
    · rw [e, v3, w1]
    · rw [e, v4, w2]
    · rw [(v9 x c q1 q2 q3 q4).1, (w9 x c q3 q4 q1 q2).1]
  · rcases col4 i j k with e | e | e | e | ⟨q1, q2, q3, q4⟩
    · rw [e, v5, w7]
    · rw [e, v6, w8]
    · rw [e, v7, w5]
    · rw [e, v8, w6]
    · rw [(v9 k hk q1 q2 q3 q4).2, (w9 k hk q3 q4 q1 q2).2]
theorem tw_all {n i j r : Nat} {f : Nat → Nat} (hj : j + 1 < n) (hi : i + 1 < n) (h1 : i ≠ j) (h2 : i ≠ j + 1) (h3 : j ≠ i + 1) (L : Lyr n (hkF n j) (hkF n i) f r) : (∀ x, x < 2 * n → f x = twF n i j x) ∧ r = 0 := by
  obtain ⟨⟨v1, v2, v3, v4⟩, ⟨v5, v6, v7, v8⟩, v9⟩ := tw_vals hj hi h1 h2 h3
  have ju : Conn (LY n (hkF n j) (hkF n i)) (0 + j) (0 + (j + 1)) := eA (hk_up hj)
  have jl : Conn (LY n (hkF n j) (hkF n i)) (n + (j + 1)) (n + j) := eA (hk_lo hj)
  have iu : Conn (LY n (hkF n j) (hkF n i)) (n + i) (n + (i + 1)) := eB (hk_up hi)
  have il : Conn (LY n (hkF n j) (hkF n i)) (2 * n + (i + 1)) (2 * n + i) := eB (hk_lo hi)
  have sa : ∀ k, k < n → k ≠ j → k ≠ j + 1 → Conn (LY n (hkF n j) (hkF n i)) (0 + k) (n + k) := fun k hk q1 q2 => eA (hk_st hj hk q1 q2)
  have sb : ∀ k, k < n → k ≠ i → k ≠ i + 1 → Conn (LY n (hkF n j) (hkF n i)) (n + k) (2 * n + k) := fun k hk q1 q2 => eB (hk_st hi hk q1 q2)
  have i0 := sa i (by omega) h1 h2
  have i1 := sa (i + 1) (by omega) (by omega) (by omega)
  have j0 := sb j (by omega) (fun e => h1 e.symm) h3
  have j1 := sb (j + 1) (by omega) (by omega) (by omega)
  have it := (i0.trans iu).trans i1.symm
  have jt := (j0.symm.trans jl.symm).trans j1
  refine ⟨L.cols (tw_ok hj hi h1 h2 h3) (fun k hk => ?_) (fun k hk => ?_), L.zeroC fun k hk => ?_⟩
  · rcases col4 i j k with e | e | e | e | ⟨q1, q2, q3, q4⟩
    · rw [e, v1, pl_t (by omega)]; exact ju
    · rw [e, v2, pl_t (by omega)]; exact ju.symm
    · rw [e, v3, pl_t (by omega)]; exact it
    · rw [e, v4, pl_t (by omega)]; exact it.symm
    · rw [(v9 k hk q1 q2 q3 q4).1, pl_b hk]; exact (sa k hk q1 q2).trans (sb k hk q3 q4)
  · rcases col4 i j k with e | e | e | e | ⟨q1, q2, q3, q4⟩
    · rw [e, v5, pl_b (by omega)]; exact jt
    · rw [e, v6, pl_b (by omega)]; exact jt.symm
    · rw [e, v7, pl_b (by omega)]; exact il.symm
    · rw [e, v8, pl_b (by omega)]; exact il
    · rw [(v9 k hk q1 q2 q3 q4).2, pl_t hk]; exact ((sa k hk q1 q2).trans (sb k hk q3 q4)).symm
  · rcases col4 i j k with e | e | e | e | ⟨q1, q2, q3, q4⟩
    · rw [e]; exact ⟨j, by omega, .inr j0.symm⟩
    · rw [e]; exact ⟨j + 1, by omega, .inr j1.symm⟩
    · rw [e]; exact ⟨i, by omega, .inl i0⟩
    · rw [e]; exact ⟨i + 1, by omega, .inl i1⟩
    · exact ⟨k, hk, .inl (sa k hk q1 q2)⟩
/-! ### closed round -/
theorem cl_straight {n : Nat} {f b : Nat → Nat} (hf : ∀ k, k < 2 * n → f k = strF (2 * n) k) (hb : ∀ k, k < 2 * n → b k = strF (2 * n) k) : (roadsM f b (2 * n)).length = n := by
  refine (ro_closed (u := 0) ((str_arcs n).congr hf) hb).unique ⟨fun v => v, fun v hv => by show v < n; omega, fun i hi => ⟨i, by omega, rfl⟩, fun u v hu hv => ⟨fun e => by rw [show u = v from e]; exact .refl _, fun c => ?_⟩⟩
  refine c.stays (C := fun z => u = z) (fun s t hs hst => ?_) rfl
  rcases hst with (⟨z, hz, h1, h2⟩ | h) | (⟨z, hz, h1, h2⟩ | h)
  · rw [hf z hz] at h2
    have e : strF (2 * n) z = 2 * n - 1 - z := rfl
    have := pl_cases n 0 0 z; have := pl_cases n 0 0 (2 * n - 1 - z)
    rw [e] at h2
    omega
  · exact h.elim
  · rw [hf z hz] at h2
    have e : strF (2 * n) z = 2 * n - 1 - z := rfl
    have := pl_cases n 0 0 z; have := pl_cases n 0 0 (2 * n - 1 - z)
    rw [e] at h2
    omega
  · exact h.elim
theorem cl_hook {n j : Nat} {f b : Nat → Nat} (h : j + 1 < n) (hf : ∀ k, k < 2 * n → f k = hkF n j k) (hb : ∀ k, k < 2 * n → b k = strF (2 * n) k) : (roadsM f b (2 * n)).length = n - 1 := by
  have ej : ∀ v, (v ≤ j ∧ (if v ≤ j then v else v - 1) = v) ∨ (j < v ∧ (if v ≤ j then v else v - 1) = v - 1) := fun v => by split <;> omega
  refine (ro_closed (u := 0) ((hk_arcs h).congr hf) hb).unique ⟨fun v => if v ≤ j then v else v - 1, fun v hv => by have := ej v; show (if v ≤ j then v else v - 1) < n - 1; omega, fun i hi => ?_, fun u v hu hv => ⟨fun e => ?_, fun c => ?_⟩⟩
  · by_cases c : i ≤ j
    · exact ⟨i, by omega, if_pos c⟩
    · exact ⟨i + 1, by omega, by show (if i + 1 ≤ j then i + 1 else i + 1 - 1) = i; have := ej (i + 1); omega⟩
  · have e : (if u ≤ j then u else u - 1) = if v ≤ j then v else v - 1 := e
    have h1 := ej u
    have h2 := ej v
    have ed : Ed n 0 0 f (0 + j) (0 + (j + 1)) := by
      obtain ⟨x, hx, q1, q2⟩ := hk_up (u := 0) (d := 0) h
      exact ⟨x, hx, q1, by rw [hf x hx]; exact q2⟩
    have c : Conn (RO n 0 0 f noS) (0 + j) (0 + (j + 1)) := .one (.inl ⟨_, ed.choose_spec.1, ed.choose_spec.2.1, ed.choose_spec.2.2⟩)
    rw [Nat.zero_add, Nat.zero_add] at c
    by_cases q : u = v
    · rw [q]; exact .refl _
    · by_cases q2 : u = j
      · rw [q2, show v = j + 1 by omega]; exact c
      · rw [show u = j + 1 by omega, show v = j by omega]; exact c.symm
  · have key : ∀ z, z < 2 * n → (if pl n 0 0 z ≤ j then pl n 0 0 z else pl n 0 0 z - 1) = if pl n 0 0 (f z) ≤ j then pl n 0 0 (f z) else pl n 0 0 (f z) - 1 := fun z hz => by
      rw [hf z hz]
      have := hk_cases n j z; have := pl_cases n 0 0 z; have := pl_cases n 0 0 (hkF n j z)
      have := ej (pl n 0 0 z); have := ej (pl n 0 0 (hkF n j z))
      omega
    refine c.stays (C := fun z => (if u ≤ j then u else u - 1) = if z ≤ j then z else z - 1) (fun s t hs hst => ?_) rfl
    rcases hst with (⟨z, hz, rfl, rfl⟩ | h) | (⟨z, hz, rfl, rfl⟩ | h)
    · exact hs.trans (key z hz)
    · exact h.elim
    · exact hs.trans (key z hz).symm
    · exact h.elim
end Rm

set_option linter.all false
namespace Rm
theorem Lyr.congr {n : Nat} {a b a' b' f : Nat → Nat} {r : Nat} (L : Lyr n a b f r) (ha : ∀ k, k < 2 * n → a k = a' k) (hb : ∀ k, k < 2 * n → b k = b' k) : Lyr n a' b' f r := by
  have e : ∀ (u d : Nat) (f g : Nat → Nat), (∀ k, k < 2 * n → f k = g k) → ∀ x y, Ed n u d f x y → Ed n u d g x y := fun u d f g h x y ⟨z, hz, h1, h2⟩ => ⟨z, hz, h1, by rw [← h z hz]; exact h2⟩
  have c : ∀ x y, Conn (LY n a b) x y ↔ Conn (LY n a' b') x y := fun x y => conn_congr (fun u v z => .one (z.imp (e _ _ _ _ ha _ _) (e _ _ _ _ hb _ _))) (fun u v z => .one (z.imp (e _ _ _ _ (fun k hk => (ha k hk).symm) _ _) (e _ _ _ _ (fun k hk => (hb k hk).symm) _ _)))
  refine ⟨L.arcs, fun x y hx hy => ?_, L.rings.congr (fun v => ?_) fun u v _ _ => c u v⟩
  · rw [← c]; exact L.con x y hx hy
  · constructor
    · rintro ⟨h1, h2⟩
      exact ⟨h1, fun x hx q => h2 x hx ((c _ _).mpr q)⟩
    · rintro ⟨h1, h2⟩
      exact ⟨h1, fun x hx q => h2 x hx ((c _ _).mp q)⟩
end Rm

namespace Rv
open PySem PySem.Spec PyProof.Rows L2
open Rm (zs at')
def topS (i : Nat) : Stmt := PySem.Challenge.pw_riverloops_k12_whole_hooks.main.body.getD i (.Pass ⟨0, 0, 0, 0⟩)
structure Blt (mg : Str → Option Value) : Prop where
  len_ : mg "len" = none
  range_ : mg "range" = none
  isinstance_ : mg "isinstance" = none
  int_ : mg "int" = none
  bool_ : mg "bool" = none
  list_ : mg "list" = none
  str_ : mg "str" = none
  reversed_ : mg "reversed" = none
  min_ : mg "min" = none
  max_ : mg "max" = none
  abs_ : mg "abs" = none
  sum_ : mg "sum" = none
  set_ : mg "set" = none
  tuple_ : mg "tuple" = none
/-! ### common words of the walks -/
theorem hu64 {A : Around} {k : Nat} (hr : Room k A) : A.units + 64 < cLine := hr.units
/-- a def of the text: where it stands, what name it has -/
structure Dfn (K : PySem.W.Frag) (mg : Str → Option Value) (x : Str) (st : Stmt) (ps : List Str) : Prop where
  ex : ∃ (f : Addr) (fd : FuncData), Fun K x x st f fd ∧ mg x = some (.ref f) ∧ Binds K fd ps []
/-- a def that may be called by its name, and what it is worth; nothing leaves it -/
structure Cal (P : Program) (w : World) (K : PySem.W.Frag) (mg : Str → Option Value) (base : Heap) (k : Nat) (x : Str) (sp : Sp) : Prop where
  ex : ∃ (f : Addr) (fd : FuncData) (ps : List Str), FnOk P w K mg base CX0 k f fd ps sp ∧ mg x = some (.ref f) ∧ PySem.W.keepIn K (.ref f) = true ∧ Binds K fd ps []
theorem pe_c {X : Cx} {x : Str} {p pos : Pos} {e : Expr} {es : List Expr} {t : TA} {sp : Sp} {j k : Nat} (c : Cal X.prog X.w X.K X.mg X.base k x sp) (hr : Room j X.A) (hk : k ≤ j) (hg : Gl X x) (ha : PA X (e :: es) t)
    (hdb : (x == ("__debug__" : Str)) = false := by decide) (he : starEach (e :: es) X.env = (false, eval e X.env) :: starEach es X.env := by rfl) (hpl : (backTo pos (starEach es X.env)).any (·.1) = false := by rfl) :
    PE X (.Call (.Name x p) (e :: es) [] pos) (tCall sp [] E0 t) := by
  obtain ⟨f, fd, ps, F, hm, kp, b⟩ := c.ex
  exact pe_call F (hr.mono hk) hg hm kp b .nil pass0 ha hdb he hpl
section
variable {P : Program} {w : World} {K : PySem.W.Frag} {mg : Str → Option Value} {base : Heap}
theorem Dfn.cal {x : Str} {st : Stmt} {N ps : List Str} {k : Nat} {sp : Sp} (D : Dfn K mg x st ps) (S : FnScope N ps (defScope st)) (len : ∀ vs H Q E, sp vs H Q E → vs.length = ps.length)
    (hbody : ∀ (f : Addr) (cdv : Value) (A : Around) (outer : List Env) (s : Shared) (H : Hp) (vs : List V) (Q : VK) (E : XK), Room k (A.deeper (envOfC x (defScope st) s.heap.objs.size f cdv)) → sp vs H Q E →
      ∃ t, PSs (cxOf CX0 P w K mg base N x (defScope st) f cdv A outer s H E).nox (defBody st) t ∧ t { nx := fun _ H' => Q .non H', rt := Q } (start N vs) H) : Cal P w K mg base (k + 1) x sp := by
  obtain ⟨f, fd, F, hm, b⟩ := D.ex
  exact ⟨f, fd, ps, F.ok S len (fun cdv A outer s H vs Q E hr h => hbody f cdv A outer s H vs Q E hr h), hm, F.kp, b⟩
theorem cal_imp {x : Str} {k : Nat} {sp sp' : Sp} (c : Cal P w K mg base k x sp) (h : ∀ vs H Q E, sp' vs H Q E → sp vs H Q E) : Cal P w K mg base k x sp' := by
  obtain ⟨f, fd, ps, F, a, b, d⟩ := c.ex
  exact ⟨f, fd, ps, F.imp h, a, b, d⟩
theorem cal_mono {x : Str} {j k : Nat} {sp : Sp} (c : Cal P w K mg base j x sp) (h : j ≤ k) : Cal P w K mg base k x sp := by
  obtain ⟨f, fd, ps, F, a, b, d⟩ := c.ex
  exact ⟨f, fd, ps, F.mono h, a, b, d⟩
end
/-! heaps -/
theorem same_new {H : Hp} {p : Addr} {o : HO} (h : H p = none) : Same H (upd H p o) := fun b x e => by
  rw [upd_ne (ne_of_none e h)]
  exact e
/-- a store to an object that H did not hold -/
theorem same_upd {H H' : Hp} {p : Addr} {o : HO} (sm : Same H H') (h : H p = none) : Same H (upd H' p o) := fun b x e => by
  rw [upd_ne (ne_of_none e h)]
  exact sm b x e
theorem sqL {K : PySem.W.Frag} {H : Hp} {p : Addr} {xs : List V} (h : H p = some (.lst xs)) : SqL K H p xs := .inl (.inl h)
theorem sqT {K : PySem.W.Frag} {H : Hp} {p : Addr} {xs : List V} (h : H p = some (.tup xs)) : SqT K H p xs := .inl (.inl h)
theorem small63 {n : Nat} (h : n ≤ 100000) : n < sizeLine := Nat.lt_of_le_of_lt h (by decide)
theorem small63' {n : Nat} (h : n ≤ 100000) : n ≤ sizeLine := Nat.le_of_lt (small63 h)
/-! lists -/
abbrev vi (s : List Int) : List V := s.map V.int
abbrev vn (a : List Nat) : List V := vi (zs a)
theorem vi_get {s : List Int} {k : Nat} (h : k < s.length) : (vi s)[k]? = some (.int (Rm.g s k)) := by
  rw [List.getElem?_map, List.getElem?_eq_getElem h]
  simp [Rm.g, List.getD_eq_getElem?_getD, h]
theorem vi_at {s : List Int} {k : Nat} {z : Int} (h : k < s.length) (e : z = (k : Int)) : atI (vi s) z = some (.int (Rm.g s k)) := at_of e (vi_get h)
theorem vi_append (s t : List Int) : vi s ++ vi t = vi (s ++ t) := (List.map_append).symm
theorem zs_append (s t : List Nat) : zs s ++ zs t = zs (s ++ t) := (List.map_append).symm
theorem vn_push (s : List Nat) (k : Nat) : vn s ++ [V.int (k : Int)] = vn (s ++ [k]) := by simp [vn, vi, zs]
theorem vn_last (s : List Nat) (k : Nat) : (vn (s ++ [k]))[(vn (s ++ [k])).length - 1]? = some (.int (k : Int)) := by simp [vn, vi, zs]
theorem vn_drop (s : List Nat) (k : Nat) : (vn (s ++ [k])).dropLast = vn s := by simp [vn, vi, zs]
theorem vn_len (s : List Nat) : (vn s).length = s.length := by simp [vn, vi, zs]
/-! tests that are decided -/
theorem dn {p : Prop} [Decidable p] (h : ¬ decide p = true) : ¬ p := fun z => h (decide_eq_true z)
theorem nd {p : Prop} [Decidable p] (h : ¬ (!decide p) = true) : p := by
  by_cases q : p
  · exact q
  · rw [decide_eq_false q] at h; exact absurd rfl h
theorem nt {p : Prop} [Decidable p] (h : (!decide p) = true) : ¬ p := fun z => by
  rw [decide_eq_true z] at h; exact nomatch h
theorem ixN_nat {n k : Nat} (h : k < n) : ixN n (k : Int) = some k := by
  unfold ixN
  rw [if_pos (by omega), if_pos (by omega), Int.toNat_natCast]
theorem ixN_of {n k : Nat} {z : Int} (e : z = (k : Int)) (h : k < n) : ixN n z = some k := by rw [e]; exact ixN_nat h
theorem vn_set (s : List Nat) (k t : Nat) : (vn s).set k (V.int (t : Int)) = vn (s.set k t) := by simp [vn, vi, zs, List.map_set]
theorem vi_set (s : List Int) (k : Nat) (t : Int) : (vi s).set k (V.int t) = vi (s.set k t) := by simp [vi, List.map_set]
theorem rep1 {α : Type} (x : α) : ∀ n : Nat, (List.replicate n [x]).flatten = List.replicate n x
  | 0 => rfl
  | n + 1 => by rw [List.replicate_succ, List.flatten_cons, rep1 x n, List.replicate_succ]; rfl
theorem vn_rep (n : Nat) : List.replicate n (V.int 0) = vn (List.replicate n 0) := by simp [vn, vi, zs]
theorem zs_g (a : List Nat) (k : Nat) : Rm.g (zs a) k = ((at' a k : Nat) : Int) := by
  simp only [Rm.g, at', zs, List.getD_eq_getElem?_getD, List.getElem?_map]
  cases a[k]? <;> simp
theorem vn_at {a : List Nat} {k : Nat} {z : Int} (h : k < a.length) (e : z = (k : Int)) : atI (vn a) z = some (.int ((at' a k : Nat) : Int)) := by
  have := vi_at (s := zs a) (by simpa using h) e
  rw [zs_g] at this
  exact this
theorem vn_get {a : List Nat} {k : Nat} (h : k < a.length) : (vn a)[k]? = some (.int ((at' a k : Nat) : Int)) := by
  have := vi_get (s := zs a) (k := k) (by simpa using h)
  rw [zs_g] at this
  exact this
/-! texts by their signs -/
def tx (cs : List Nat) : Str := ⟨cs.toArray⟩
theorem tx_len (cs : List Nat) : (tx cs).length = cs.length := by simp [tx, Str.length]
theorem tx_lp : (("(" : String) : Str) = tx [40] := by decide +kernel
theorem tx_rp : ((")" : String) : Str) = tx [41] := by decide +kernel
theorem tx_nil : (("" : String) : Str) = tx [] := by decide +kernel
theorem tx_app (a b : List Nat) : tx a ++ tx b = tx (a ++ b) := by
  show Str.append (tx a) (tx b) = _
  simp [tx, Str.append]
theorem tx_inj {a b : List Nat} (h : tx a = tx b) : a = b := by
  have := congrArg (fun s : Str => s.cps.toList) h
  simpa [tx] using this
theorem tx_join : ∀ l : List Nat, Str.join (tx []) (l.map fun c => tx [c]) = tx l
  | [] => rfl
  | [c] => rfl
  | c :: d :: r => by
    have h := tx_join (d :: r)
    show tx [c] ++ tx [] ++ Str.join (tx []) ((d :: r).map fun c => tx [c]) = _
    rw [h, tx_app, tx_app]
    rfl
theorem tx_get {cs : List Nat} {k c : Nat} (h : cs[k]? = some c) : (tx cs).cps[k]? = some c := by simpa [tx] using h
/-! lists of ints as data -/
theorem dp_vi {K : PySem.W.Frag} {H : Hp} : ∀ s : List Int, DpAll K H (vi s) (s.map PyData.int)
  | [] => .nil
  | x :: r => .cons (.int x) (dp_vi r)
theorem rEq_ints {K : PySem.W.Frag} {H : Hp} {a b : Addr} {s t : List Int} {Q : VK} (ha : SqL K H a (vi s)) (hb : SqL K H b (vi t)) (q : Q (.bl (decide (s = t))) H) : rEqD K (.ref a) (.ref b) H Q := by
  refine ⟨_, _, .lst ha (dp_vi s), .lst hb (dp_vi t), PySem.W.ke_shaped_ints s, PySem.W.ke_shaped_ints t, ?_⟩
  rw [PyData.eqv, PySem.W.ked_eqvAll]
  exact q
theorem rNe_ints {K : PySem.W.Frag} {H : Hp} {a b : Addr} {s t : List Int} {Q : VK} (ha : SqL K H a (vi s)) (hb : SqL K H b (vi t)) (q : Q (.bl (!decide (s = t))) H) : rNeD K (.ref a) (.ref b) H Q := by
  refine ⟨_, _, .lst ha (dp_vi s), .lst hb (dp_vi t), PySem.W.ke_shaped_ints s, PySem.W.ke_shaped_ints t, ?_⟩
  rw [PyData.eqv, PySem.W.ked_eqvAll]
  exact q
/-! ways that meet: G is found at the first use -/
theorem joinC {α : Type} {C G : α → Prop} {goal : Prop} (h : (∀ x, C x → G x) → goal) (hG : ∀ x, C x → G x) : goal := h hG
def rLenK (K : PySem.W.Frag) : List V → Hp → VK → Prop := fun xs H Q => ∃ p ys, xs = [.ref p] ∧ (SqL K H p ys ∨ SqT K H p ys) ∧ Q (.int ((ys.length : Nat) : Int)) H
/-! a chain of three comparisons as a test -/
def tChain3 (r r' r'' : R2) (ta tb tc td : TE) : TE := fun σ H Q => ta σ H fun x H1 => tb σ H1 fun y H2 => r x y H2 fun z H3 => ∃ k, z = .bl k ∧ (if k = true then tc σ H3 fun u H4 => r' y u H4 fun z' H5 => ∃ k', z' = .bl k' ∧ (if k' = true then td σ H5 fun v H6 => r'' u v H6 Q else Q (.bl false) H5) else Q (.bl false) H3)
theorem pt_chain3 {X : Cx} {a b c d : Expr} {pos : Pos} {ta tb tc td : TE} {op op' op'' : CmpOp} {r r' r'' : R2} (ho : OpR X (compareOp op) r) (ho' : OpR X (compareOp op') r') (ho'' : OpR X (compareOp op'') r'') (ha : PE X a ta) (hb : PE X b tb) (hc : PE X c tc) (hd : PE X d td)
    (hm : lastMarks [op, op', op''] [b, c, d] = false := by with_unfolding_all rfl) : PT X (.Compare a [op, op', op''] [b, c, d] pos) (tTest (tChain3 r r' r'' ta tb tc td)) := by
  refine ⟨fun pins s σ H Q I h => ?_⟩
  refine isTrue_chain (thn (ha.run pins s σ H _ I h) fun v s1 ⟨x, H1, I1, r1, q1⟩ => test_link (thn (hb.run pins s1 σ H1 _ I1 q1) fun u s2 ⟨y, H2, I2, r2, q2⟩ =>
    thn (ho pins s2 σ H2 x y v u _ I2 r1 r2 q2) fun d1 s3 ⟨z, H3, I3, r3, k, e, q3⟩ => ?_)) hm
  subst e
  cases r3
  refine wpAny_truthy_bool ?_
  cases k with
  | false =>
    obtain ⟨k', e', q'⟩ := q3
    cases e'
    exact ite_ff ⟨H3, I3, q'⟩
  | true =>
    refine ite_tt (test_link (thn (hc.run pins s3 σ H3 _ I3 q3) fun w' s4 ⟨z', H4, I4, r4, q4⟩ =>
      thn (ho' pins s4 σ H4 y z' u w' _ I4 r2 r4 q4) fun d2 s5 ⟨z5, H5, I5, r5, k5, e5, q5⟩ => ?_))
    subst e5
    cases r5
    refine wpAny_truthy_bool ?_
    cases k5 with
    | false =>
      obtain ⟨k', e', q'⟩ := q5
      cases e'
      exact ite_ff ⟨H5, I5, q'⟩
    | true =>
      refine ite_tt (test_last (thn (hd.run pins s5 σ H5 _ I5 q5) fun w6 s6 ⟨z6, H6, I6, r6, q6⟩ => thn (ho'' pins s6 σ H6 z' z6 w' w6 _ I6 r4 r6 q6) fun d3 s7 ⟨z7, H7, I7, r7, k7, e7, q7⟩ => ?_))
      subst e7
      cases r7
      exact wpAny_truthy_bool ⟨H7, I7, q7⟩
/-! a new list is handed back, all else stays -/
def NewL (H : Hp) (Q : VK) (l : List Nat) : Prop := ∀ H' p, Same H H' → H p = none → H' p = some (.lst (vn l)) → Q (.ref p) H'
theorem vn_take (l : List Nat) (i : Nat) (c : Nat) (h : l[i]? = some c) : vn (l.take i) ++ [V.int (c : Int)] = vn (l.take (i + 1)) := by
  rw [vn_push, List.take_add_one, h]
  rfl
theorem vn_full {l : List Nat} {m : Nat} (h : l.length = m) : l.take m = l := List.take_of_length_le (by omega)
theorem size_of {z : Int} (m : Int) (h : 0 < m) (h20 : m ≤ 20) : ∃ n : Nat, 1 + z.fmod m = (n : Int) ∧ 1 ≤ n ∧ (n : Int) ≤ m := by
  have h0 := Int.fmod_nonneg_of_pos z h
  have h1 := Int.fmod_lt_of_pos z h
  exact ⟨(1 + z.fmod m).toNat, by omega, by omega, by omega⟩
/-! nested data -/
theorem dEq {K : PySem.W.Frag} {H : Hp} {α : Type} [DecidableEq α] [PySem.W.Datum α] {x y : V} {c d : α} {Q : VK} (hx : Dp K H x (PySem.W.Datum.toD c)) (hy : Dp K H y (PySem.W.Datum.toD d))
    (sx : SeqAt.shaped (PySem.W.Datum.toD c) = true) (sy : SeqAt.shaped (PySem.W.Datum.toD d) = true) (q : Q (.bl (decide (c = d))) H) : rEqD K x y H Q := ⟨_, _, hx, hy, sx, sy, by rw [PySem.W.Datum.eqv]; exact q⟩
theorem dNe {K : PySem.W.Frag} {H : Hp} {α : Type} [DecidableEq α] [PySem.W.Datum α] {x y : V} {c d : α} {Q : VK} (hx : Dp K H x (PySem.W.Datum.toD c)) (hy : Dp K H y (PySem.W.Datum.toD d))
    (sx : SeqAt.shaped (PySem.W.Datum.toD c) = true) (sy : SeqAt.shaped (PySem.W.Datum.toD d) = true) (q : Q (.bl (!decide (c = d))) H) : rNeD K x y H Q := ⟨_, _, hx, hy, sx, sy, by rw [PySem.W.Datum.eqv]; exact q⟩
/-- a list of lists of ints: the addresses and what they hold -/
def AllL (K : PySem.W.Frag) (H : Hp) : List V → List (List Int) → Prop
  | [], [] => True
  | .ref p :: r, s :: t => SqL K H p (vi s) ∧ AllL K H r t
  | _, _ => False
theorem AllL.dp {K : PySem.W.Frag} {H : Hp} : ∀ {xs : List V} {ss : List (List Int)}, AllL K H xs ss → DpAll K H xs (ss.map PySem.W.Datum.toD)
  | [], [], _ => .nil
  | [], _ :: _, h => h.elim
  | .ref p :: r, s :: t, h => .cons (.lst h.1 (dp_vi s)) (AllL.dp h.2)
  | .ref _ :: _, [], h => by cases h
  | .non :: _, _, h => by cases h
  | .bl _ :: _, _, h => by cases h
  | .int _ :: _, _, h => by cases h
  | .str _ :: _, _, h => by cases h
  | .byt _ :: _, _, h => by cases h
  | .flt _ :: _, _, h => by cases h
  | .ty _ :: _, _, h => by cases h
theorem AllL.same {K : PySem.W.Frag} {H H' : Hp} (sm : Same H H') : ∀ {xs : List V} {ss : List (List Int)}, AllL K H xs ss → AllL K H' xs ss
  | [], [], _ => True.intro
  | [], _ :: _, h => h.elim
  | .ref p :: r, s :: t, h => ⟨sm.seq h.1, AllL.same sm h.2⟩
  | .ref _ :: _, [], h => by cases h
  | .non :: _, _, h => by cases h
  | .bl _ :: _, _, h => by cases h
  | .int _ :: _, _, h => by cases h
  | .str _ :: _, _, h => by cases h
  | .byt _ :: _, _, h => by cases h
  | .flt _ :: _, _, h => by cases h
  | .ty _ :: _, _, h => by cases h
theorem canLayAll_ll : ∀ ss : List (List Int), PyData.canLayAll0 (ss.map PySem.W.Datum.toD) = true
  | [] => rfl
  | s :: r => by
    rw [List.map_cons, PyData.canLayAll0, canLayAll_ll r, Bool.and_true]
    show PyData.canLay0 (.list (s.map PyData.int)) = true
    rw [PyData.canLay0]
    exact PySem.W.ke_canLayAll0 s
theorem depthAll_ll : ∀ ss : List (List Int), PyData.depthAll (ss.map PySem.W.Datum.toD) ≤ 1
  | [] => Nat.zero_le _
  | s :: r => by
    rw [List.map_cons, PyData.depthAll]
    refine Nat.max_le.mpr ⟨?_, depthAll_ll r⟩
    show PyData.depth (.list (s.map PyData.int)) ≤ 1
    rw [PyData.depth, PySem.W.ke_depthAll]
    exact Nat.le_refl _
theorem shaped_ll (ss : List (List Int)) : SeqAt.shaped (PySem.W.Datum.toD ss) = true := by
  show (PyData.canLay0 (.list (ss.map PySem.W.Datum.toD)) && decide (PyData.depth (.list (ss.map PySem.W.Datum.toD)) ≤ 64)) = true
  rw [PyData.canLay0, canLayAll_ll, Bool.true_and, decide_eq_true_eq, PyData.depth]
  have := depthAll_ll ss
  omega
theorem rEq_ll {K : PySem.W.Frag} {H : Hp} {a b : Addr} {xs ys : List V} {s t : List (List Int)} {Q : VK} (ha : SqL K H a xs) (hb : SqL K H b ys) (hs : AllL K H xs s) (ht : AllL K H ys t) (q : Q (.bl (decide (s = t))) H) : rEqD K (.ref a) (.ref b) H Q :=
  dEq (.lst ha hs.dp) (.lst hb ht.dp) (shaped_ll s) (shaped_ll t) q
theorem rNe_ll {K : PySem.W.Frag} {H : Hp} {a b : Addr} {xs ys : List V} {s t : List (List Int)} {Q : VK} (ha : SqL K H a xs) (hb : SqL K H b ys) (hs : AllL K H xs s) (ht : AllL K H ys t) (q : Q (.bl (!decide (s = t))) H) : rNeD K (.ref a) (.ref b) H Q :=
  dNe (.lst ha hs.dp) (.lst hb ht.dp) (shaped_ll s) (shaped_ll t) q
def spLaw (K : PySem.W.Frag) : Sp := fun vs H Q _ => ∃ (a : Addr) (ns : List Int), vs = [.ref a] ∧ SqL K H a (vi ns) ∧ ns.length ≤ 63 ∧ ∀ H', Q (.bl true) H'
/-! all but some stay -/
def Sx (X : List Addr) (H H' : Hp) : Prop := ∀ b o, b ∉ X → H b = some o → H' b = some o
theorem Sx.refl (X : List Addr) (H : Hp) : Sx X H H := fun _ _ _ h => h
theorem Sx.trans {X : List Addr} {H H1 H2 : Hp} (s : Sx X H H1) (t : Sx X H1 H2) : Sx X H H2 := fun b o hb h => t b o hb (s b o hb h)
theorem Sx.of {X : List Addr} {H H' : Hp} (s : Same H H') : Sx X H H' := fun b o _ h => s b o h
theorem Sx.upd {X : List Addr} {H H' : Hp} {p : Addr} {o : HO} (s : Sx X H H') (hp : p ∈ X) : Sx X H (upd H' p o) := fun b u hb h => by
  rw [upd_ne (fun e => hb (by rw [e]; exact hp))]
  exact s b u hb h
theorem Sx.same {X : List Addr} {H0 H H' : Hp} (s : Sx X H H') (h0 : Same H0 H) (hX : ∀ x, x ∈ X → H0 x = none) : Same H0 H' := fun b o h => s b o (fun hb => by rw [hX b hb] at h; cases h) (h0 b o h)
/-! lists of lists -/
abbrev vr (rs : List Addr) : List V := rs.map V.ref
def HL (H : Hp) (rs : List Addr) (F : List (List Nat)) : Prop := rs.length = F.length ∧ ∀ (i : Nat) (r : Addr) (l : List Nat), rs[i]? = some r → F[i]? = some l → H r = some (.lst (vn l))
theorem HL.nil (H : Hp) : HL H [] [] := ⟨rfl, fun i r l h => by simp at h⟩
theorem HL.same {H H' : Hp} {rs : List Addr} {F : List (List Nat)} (h : HL H rs F) (s : Same H H') : HL H' rs F := ⟨h.1, fun i r l h1 h2 => s _ _ (h.2 i r l h1 h2)⟩
theorem HL.sx {X : List Addr} {H H' : Hp} {rs : List Addr} {F : List (List Nat)} (h : HL H rs F) (s : Sx X H H') (hX : ∀ x, x ∈ X → x ∉ rs) : HL H' rs F :=
  ⟨h.1, fun i r l h1 h2 => s _ _ (fun hm => hX r hm (List.mem_of_getElem? h1)) (h.2 i r l h1 h2)⟩
theorem HL.snoc {H : Hp} {rs : List Addr} {F : List (List Nat)} {r : Addr} {l : List Nat} (h : HL H rs F) (hr : H r = some (.lst (vn l))) : HL H (rs ++ [r]) (F ++ [l]) := by
  refine ⟨by simp [h.1], fun i r' l' h1 h2 => ?_⟩
  by_cases c : i < rs.length
  · rw [List.getElem?_append_left c] at h1
    rw [List.getElem?_append_left (by rw [← h.1]; exact c)] at h2
    exact h.2 i r' l' h1 h2
  · by_cases e : i = rs.length
    · subst e
      rw [List.getElem?_append_right (Nat.le_refl _)] at h1
      rw [List.getElem?_append_right (by rw [h.1]; exact Nat.le_refl _), h.1] at h2
      simp at h1 h2
      rw [← h1, ← h2]
      exact hr
    · rw [List.getElem?_eq_none (by simp; omega)] at h1
      cases h1
theorem HL.allL {K : PySem.W.Frag} {H : Hp} : ∀ {rs : List Addr} {F : List (List Nat)}, HL H rs F → AllL K H (vr rs) (F.map zs)
  | [], [], _ => True.intro
  | [], _ :: _, h => by cases h.1
  | _ :: _, [], h => by cases h.1
  | r :: rs, l :: F, h => ⟨sqL (h.2 0 r l rfl rfl), HL.allL ⟨by have := h.1; simp at this; exact this, fun i r' l' h1 h2 => h.2 (i + 1) r' l' h1 h2⟩⟩
def NewLL (H : Hp) (Q : VK) (F : List (List Nat)) : Prop := ∀ H' p rs, Same H H' → H p = none → H' p = some (.lst (vr rs)) → HL H' rs F → rs.Nodup → p ∉ rs → (∀ r, r ∈ rs → H r = none) → Q (.ref p) H'
/-! a dict as a set of places -/
def kvsOf (l : List Nat) : List (Key × V) := l.map fun k : Nat => (Sum.inl (k : Int), V.bl true)
theorem kvs_len (l : List Nat) : (kvsOf l).length = l.length := List.length_map _
theorem kvs_get : ∀ (l : List Nat) (k : Nat), (valV (kvsOf l) (Sum.inl (k : Int) : Key)).isSome = decide (k ∈ l)
  | [], k => by simp [kvsOf, valV]
  | x :: r, k => by
    show (valV (((Sum.inl (x : Int) : Key), V.bl true) :: kvsOf r) (Sum.inl (k : Int) : Key)).isSome = _
    by_cases e : x = k
    · subst e
      rw [valV_pos rfl]
      simp
    · rw [valV_neg (fun z => e (by have := Sum.inl.inj z; omega)), kvs_get r k]
      simp [show ¬ k = x from fun z => e z.symm]
theorem kvs_put {l : List Nat} {k : Nat} (h : k ∉ l) : putK (kvsOf l) (Sum.inl (k : Int) : Key) (V.bl true) = kvsOf (l ++ [k]) := by
  rw [putK_new]
  · simp [kvsOf]
  · have h2 := kvs_get l k
    rw [decide_eq_false h] at h2
    cases e : valV (kvsOf l) (Sum.inl (k : Int) : Key) with
    | none => rfl
    | some v => rw [e] at h2; cases h2
theorem in_vn (l : List Nat) (k : Nat) : inV (.int (k : Int)) (vn l) = decide (k ∈ l) := by
  unfold inV
  induction l with
  | nil => rfl
  | cons x r ih =>
    show (eqV (.int (x : Int)) (.int (k : Int)) || (vn r).any fun y => eqV y (.int (k : Int))) = _
    rw [ih]
    have e : eqV (.int (x : Int)) (.int (k : Int)) = decide (k = x) := by
      show ((x : Int) == (k : Int)) = _
      by_cases c : k = x
      · subst c; simp
      · rw [decide_eq_false c, beq_eq_false_iff_ne.mpr (fun z => c (by omega))]
    rw [e]
    simp
theorem flat_vn (l : List Nat) : (vn l).all flatV = true := by
  rw [List.all_eq_true]
  intro v hv
  simp [vn, vi, zs] at hv
  obtain ⟨x, _, rfl⟩ := hv
  rfl
theorem rgV_vn (M : Nat) : rgV 0 (M : Int) = vn (List.range M) := by
  unfold rgV
  rw [show ((M : Int) - 0).toNat = M by omega]
  simp [vn, vi, zs]
theorem zs_erase : ∀ (L : List Nat) (j : Nat), (zs L).eraseIdx j = zs (L.eraseIdx j)
  | [], _ => rfl
  | _ :: _, 0 => rfl
  | x :: r, j + 1 => by
    show (x : Int) :: (zs r).eraseIdx j = (x : Int) :: zs (r.eraseIdx j)
    rw [zs_erase r j]
/-- the place of a number in a list without repeats, and the list without it -/
theorem rem_ok {L : List Nat} {x : Nat} (hn : L.Nodup) (hx : x ∈ L) : ∃ j : Nat, (zs L)[j]? = some (x : Int) ∧ (∀ m : Nat, m < j → (zs L)[m]? ≠ some (x : Int)) ∧ (zs L).eraseIdx j = zs (L.filter fun y => decide (y ≠ x)) := by
  obtain ⟨j, hj⟩ := List.mem_iff_getElem?.mp hx
  have hjl := (List.getElem?_eq_some_iff.mp hj).1
  refine ⟨j, by simp [zs, hj], fun m hm h => ?_, ?_⟩
  · have hml : m < L.length := by omega
    have h2 : L[m]? = some x := by
      simp [zs] at h
      obtain ⟨y, h3, h4⟩ := h
      rw [h3]
      congr 1
      omega
    have := nd_ix hn h2 hj
    omega
  · rw [← Rm.eraseIdx_filter L j x hn hj]
    exact zs_erase L j
theorem cut1 (xs : List V) : cutV xs (some 1) none = xs.drop 1 := by
  unfold cutV
  rw [show HT.sIx xs.length 0 (some 1) = min 1 xs.length from HT.sIx_nat xs.length 0 1, HT.sIx_none]
  cases xs with
  | nil => rfl
  | cons x r =>
    rw [show min 1 (x :: r).length = 1 by
      rw [List.length_cons]
      omega]
    show (List.take ((x :: r).length - 1) r) = r
    rw [List.length_cons, Nat.add_sub_cancel]
    exact List.take_length
theorem fdiv2 (n : Nat) : ((2 * n : Nat) : Int).fdiv 2 = (n : Int) := by
  rw [Int.fdiv_eq_ediv_of_nonneg _ (by decide)]
  omega
/-! objects of one make at some addresses -/
def HG {α : Type} (c : α → HO) (H : Hp) (rs : List Addr) (F : List α) : Prop := rs.length = F.length ∧ ∀ (i : Nat) (r : Addr) (l : α), rs[i]? = some r → F[i]? = some l → H r = some (c l)
section
variable {α : Type} {c : α → HO} {H H' : Hp} {rs : List Addr} {F : List α}
theorem HG.nil (c : α → HO) (H : Hp) : HG c H [] [] := ⟨rfl, fun i r l h => by simp at h⟩
theorem HG.same (h : HG c H rs F) (s : Same H H') : HG c H' rs F := ⟨h.1, fun i r l h1 h2 => s _ _ (h.2 i r l h1 h2)⟩
theorem HG.sx {X : List Addr} (h : HG c H rs F) (s : Sx X H H') (hX : ∀ x, x ∈ X → x ∉ rs) : HG c H' rs F :=
  ⟨h.1, fun i r l h1 h2 => s _ _ (fun hm => hX r hm (List.mem_of_getElem? h1)) (h.2 i r l h1 h2)⟩
theorem HG.snoc {r : Addr} {l : α} (h : HG c H rs F) (hr : H r = some (c l)) : HG c H (rs ++ [r]) (F ++ [l]) := by
  refine ⟨by simp [h.1], fun i r' l' h1 h2 => ?_⟩
  by_cases q : i < rs.length
  · rw [List.getElem?_append_left q] at h1
    rw [List.getElem?_append_left (by rw [← h.1]; exact q)] at h2
    exact h.2 i r' l' h1 h2
  · by_cases e : i = rs.length
    · subst e
      rw [List.getElem?_append_right (Nat.le_refl _)] at h1
      rw [List.getElem?_append_right (by rw [h.1]; exact Nat.le_refl _), h.1] at h2
      simp at h1 h2
      rw [← h1, ← h2]
      exact hr
    · rw [List.getElem?_eq_none (by simp; omega)] at h1
      cases h1
theorem HG.at (h : HG c H rs F) {i : Nat} (hi : i < F.length) : ∃ r, rs[i]? = some r ∧ H r = some (c F[i]) := by
  have : i < rs.length := by rw [h.1]; exact hi
  exact ⟨rs[i], List.getElem?_eq_getElem this, h.2 i _ _ (List.getElem?_eq_getElem this) (List.getElem?_eq_getElem hi)⟩
theorem HG.mem (h : HG c H rs F) {r : Addr} (hr : r ∈ rs) : ∃ l, H r = some (c l) := by
  obtain ⟨i, hi⟩ := List.mem_iff_getElem?.mp hr
  have h1 := (List.getElem?_eq_some_iff.mp hi).1
  have h2 : i < F.length := by rw [← h.1]; exact h1
  exact ⟨_, h.2 i r _ hi (List.getElem?_eq_getElem h2)⟩
end
theorem HL.hg {H : Hp} {rs : List Addr} {F : List (List Nat)} (h : HL H rs F) : HG (fun l => .lst (vn l)) H rs F := h

end Rv

namespace Rv
open PySem PySem.Spec PyProof.Rows L2
open Rm (zs at')
/-! ### is_arcs -/
abbrev s_is_arcs : Stmt := topS 7
theorem sc_is_arcs : FnScope ["some", "open_ones", "k"] ["some"] (defScope s_is_arcs) := ⟨rfl, rfl, rfl, by decide +kernel, rfl, by decide +kernel, by decide +kernel⟩
def spIsArcs (K : PySem.W.Frag) : Sp := fun vs H Q _ => ∃ (a : Addr) (s : List Int), vs = [.ref a] ∧ SqL K H a (vi s) ∧ s.length ≤ 1000 ∧ ∀ b H', Same H H' → (b = true ↔ Rm.Good s) → Q (.bl b) H'
section
variable {P : Program} {w : World} {K : PySem.W.Frag} {mg : Str → Option Value} {base : Heap}
theorem ok_is_arcs {tM : Tok} (D : Dfn K mg "is_arcs" s_is_arcs ["some"]) (B : Blt mg) (g_MOST : mg "MOST" = some (.int 20 tM)) : Cal P w K mg base 1 "is_arcs" (spIsArcs K) := by
  refine D.cal sc_is_arcs (fun vs H Q E h => ?_) (fun f cdv A outer s0 H vs Q E hr h => ?_)
  · obtain ⟨a, s, rfl, _⟩ := h
    rfl
  · obtain ⟨a, s, rfl, hS, hlen, q⟩ := h
    refine ⟨_, (pss_cons (ps_if (PW.pt (pw_or (pt_cmpR op_lt (pe_callB call_len_seq (by rfl) B.len_ PySem.boot_len (pa_cons (pv 0) pa_nil)) pe_int (nomark _)) (pw_or1 (pt_cmpR op_gt (pe_callB call_len_seq (by rfl) B.len_ PySem.boot_len (pa_cons (pv 0) pa_nil)) (pe_op op_mul pe_int (pe_glob (v := .int 20) (by rfl) g_MOST ⟨_, rfl⟩)) (nomark _)))))
        (pss_one (ps_ret pe_bl))
        pss_nil)
      (pss_cons (ps_set (i := 1) sc_is_arcs.nd rfl (.inl rfl) (pe_lst pa_nil))
      (pss_cons (ps_for PassesOwn.never rfl (pi_range1 (by rfl) B.range_ (pa_cons (pe_callB call_len_seq (by rfl) B.len_ PySem.boot_len (pa_cons (pv 0) pa_nil)) pa_nil)) (pg_name (i := 2) sc_is_arcs.nd rfl (.inl rfl))
        (pss_cons (ps_if (PW.pt (pw_or (pt_not (pt_chain op_le op_lt pe_int (pe_ix ix_list (pv 0) (pv 2) (fun _ _ => rfl)) (pe_callB call_len_seq (by rfl) B.len_ PySem.boot_len (pa_cons (pv 0) pa_nil)))) (pw_or (pt_cmpR op_eq (pe_ix ix_list (pv 0) (pv 2) (fun _ _ => rfl)) (pv 2) (nomark _)) (pw_or1 (pt_cmpR op_ne (pe_ix ix_list (pv 0) (pe_ix ix_list (pv 0) (pv 2) (fun _ _ => rfl)) (fun _ _ => rfl)) (pv 2) (nomark _))))))
          (pss_one (ps_ret pe_bl))
          pss_nil)
        (pss_one (ps_if (pt_cmpR op_gt (pe_ix ix_list (pv 0) (pv 2) (fun _ _ => rfl)) (pv 2) (nomark _))
          (pss_one (ps_expr (pe_bm PySem.F.plainAttrs_list PySem.F.slot_list_append PySem.F.type_list_append mt_append (pv 1) (pa_cons (pv 2) pa_nil))))
          (pss_one (ps_if (pt_cmpR op_ne (pe_bm0 PySem.F.plainAttrs_list PySem.F.slot_list_pop PySem.F.type_list_pop mt_pop (pv 1)) (pe_ix ix_list (pv 0) (pv 2) (fun _ _ => rfl)) (nomark _))
            (pss_one (ps_ret pe_bl))
            pss_nil))))))
      (pss_one (ps_ret pe_bl))))), ?_⟩
    refine ⟨.ref a, rfl, a, _, rfl, .inl hS, _, _, rfl, rfl, _, rfl, ite2 (fun e => ?_) (fun e => ?_)⟩
    · have e := of_decide_eq_true e
      rw [List.length_map] at e
      refine iteT (q false H (Same.refl H) ⟨fun z => (nomatch z), fun G => ?_⟩)
      have := G.1.1
      omega
    have e1 := of_decide_eq_false (Bool.eq_false_iff.mpr e)
    rw [List.length_map] at e1
    refine ⟨.ref a, rfl, a, _, rfl, .inl hS, _, _, rfl, rfl, .inl ⟨by decide, by decide⟩, _, _, rfl, rfl, _, rfl, ite2 (fun e => ?_) (fun e => ?_)⟩
    · have e := of_decide_eq_true e
      rw [List.length_map] at e
      refine q false H (Same.refl H) ⟨fun z => (nomatch z), fun G => ?_⟩
      have := G.1.2
      omega
    have e2 := of_decide_eq_false (Bool.eq_false_iff.mpr e)
    rw [List.length_map] at e2
    have hL : 2 ≤ s.length ∧ s.length ≤ 40 := by omega
    refine ⟨Nat.zero_le _, fun p np => ?_⟩
    refine ⟨.ref a, rfl, a, _, rfl, .inl ((same_new np).seq hS), _, rfl, by rw [List.length_map]; omega, by rw [List.length_map]; omega, ?_⟩
    rw [show ((vi s).length : Int).toNat = s.length by rw [List.length_map]; omega]
    refine for_range (lo := 0) (n := s.length) (fun i σ H' => ∃ y2, σ = [some (.ref a), some (.ref p), y2] ∧ Same H H' ∧ H' p = some (.lst (vn (Rm.opens s i))) ∧ Rm.Stage s i) ⟨none, rfl, same_new np, upd_same, Rm.stage0 s⟩ (fun i σ H' hi hP => ?_) (fun σ H' hP => ?_)
    · obtain ⟨y2, rfl, sm, hp, st⟩ := hP
      have hS' := sm.seq hS
      rw [Int.zero_add]
      have iv : atI (vi s) (i : Int) = some (.int (Rm.g s i)) := vi_at hi rfl
      have bad : ¬ Rm.OkAt s i → Q (.bl false) H' := fun h => q false H' sm ⟨fun z => (nomatch z), fun G => absurd (G.2.1 i hi) h⟩
      -- 0 <= some[k] < len(some)
      refine ⟨.ref a, rfl, .int i, rfl, a, _, _, _, rfl, rfl, hS', iv, _, _, rfl, rfl, _, rfl, ite2 (fun e1 => ?_) (fun e1 => ?_)⟩
      case refine_2 =>
        exact ⟨_, rfl, iteT (bad fun ok => e1 (decide_eq_true ok.1))⟩
      have e1 := of_decide_eq_true e1
      refine ⟨.ref a, rfl, a, _, rfl, .inl hS', _, _, rfl, rfl, _, rfl, ?_⟩
      show if (!decide (Rm.g s i < ((vi s).length : Int))) = true then _ else _
      rw [List.length_map]
      refine ite2 (fun e2 => ?_) (fun e2 => ?_)
      · refine iteT (bad fun ok => ?_)
        have := ok.2.1
        rw [decide_eq_true this] at e2
        exact nomatch e2
      have e2 : Rm.g s i < (s.length : Int) := by
        rcases Bool.eq_false_or_eq_true (decide (Rm.g s i < (s.length : Int))) with z | z
        · exact of_decide_eq_true z
        · rw [z] at e2; exact absurd rfl e2
      -- some[k] == k
      refine ⟨.ref a, rfl, .int i, rfl, a, _, _, _, rfl, rfl, hS', iv, .int i, rfl, rfl, _, rfl, ite2 (fun e3 => ?_) (fun e3 => ?_)⟩
      · exact iteT (bad fun ok => ok.2.2.1 (V.int.inj (of_decide_eq_true e3)))
      have e3 : Rm.g s i ≠ (i : Int) := fun z => e3 (decide_eq_true (congrArg V.int z))
      -- some[some[k]] != k
      have iv2 : atI (vi s) (Rm.g s i) = some (.int (Rm.g s (Rm.g s i).toNat)) := vi_at (by omega) (by omega)
      refine ⟨.ref a, rfl, .ref a, rfl, .int i, rfl, a, _, _, _, rfl, rfl, hS', iv, a, _, _, _, rfl, rfl, hS', iv2, .int i, rfl, rfl, _, rfl, ite2 (fun e4 => ?_) (fun e4 => ?_)⟩
      · refine bad fun ok => ?_
        rw [ok.2.2.2, decide_eq_true rfl] at e4
        exact nomatch e4
      have e4 : Rm.g s (Rm.g s i).toNat = (i : Int) := by
        rcases Bool.eq_false_or_eq_true (decide (V.int (Rm.g s (Rm.g s i).toNat) = V.int (i : Int))) with z | z
        · exact V.int.inj (of_decide_eq_true z)
        · rw [z] at e4; exact absurd rfl e4
      have ok : Rm.OkAt s i := ⟨e1, e2, e3, e4⟩
      -- some[k] > k
      refine ⟨.ref a, rfl, .int i, rfl, a, _, _, _, rfl, rfl, hS', iv, .int i, rfl, _, _, rfl, rfl, _, rfl, ite2 (fun e5 => ?_) (fun e5 => ?_)⟩
      · have e5 := of_decide_eq_true e5
        refine ⟨.ref p, rfl, .inl ⟨rfl, _, sqL hp⟩, .int i, rfl, p, _, _, rfl, rfl, hp, ?_, ?_⟩
        · rw [vn_len]
          exact small63 (by have := Rm.opens_len s i; omega)
        · refine ⟨_, rfl, same_upd sm np, ?_, Rm.stage_push st ok e5⟩
          rw [upd_same, vn_push, Rm.opens_push st e5]
      · have e5 : Rm.g s i < (i : Int) := by
          have : ¬ (i : Int) < Rm.g s i := fun z => e5 (decide_eq_true z)
          omega
        obtain ⟨l, t, eo⟩ := Rm.opens_ne ok e5
        rw [eo] at hp
        refine ⟨.ref p, rfl, .inl ⟨rfl, _, sqL hp⟩, p, _, _, rfl, rfl, hp, vn_last l t, ?_⟩
        have sm2 := same_upd (o := .lst (vn l)) sm np
        rw [vn_drop]
        refine ⟨.ref a, rfl, .int i, rfl, a, _, _, _, rfl, rfl, sm2.seq hS, iv, rfl, _, rfl, ite2 (fun e6 => ?_) (fun e6 => ?_)⟩
        · have e6 : (t : Int) ≠ Rm.g s i := fun z => by
            rw [z, decide_eq_true rfl] at e6
            exact nomatch e6
          exact q false _ sm2 ⟨fun z => (nomatch z), fun G => absurd G.2.2 (Rm.stage_cross st ok e5 hi eo e6)⟩
        · have e6 : (t : Int) = Rm.g s i := by
            rcases Bool.eq_false_or_eq_true (decide (V.int (t : Int) = V.int (Rm.g s i))) with z | z
            · exact V.int.inj (of_decide_eq_true z)
            · rw [z] at e6; exact absurd rfl e6
          refine ⟨_, rfl, sm2, ?_, Rm.stage_pop st ok eo e6⟩
          rw [upd_same, Rm.opens_pop st ok e5 eo e6]
    · obtain ⟨y2, rfl, sm, hp, st⟩ := hP
      exact q true H' sm ⟨fun _ => Rm.stage_good hL st, fun _ => rfl⟩
end

end Rv

namespace Rv
open PySem PySem.Spec PyProof.Rows L2
open Rm (zs at')
/-! ### ask, of arcs -/
abbrev s_ask : Stmt := topS 8
theorem sc_ask : FnScope ["arcs"] ["arcs"] (defScope s_ask) := ⟨rfl, rfl, rfl, by decide +kernel, rfl, by decide +kernel, by decide +kernel⟩
def spAsk (K : PySem.W.Frag) : Sp := fun vs H Q _ => ∃ (a : Addr) (s : List Int), vs = [.ref a] ∧ SqL K H a (vi s) ∧ Rm.Good s ∧ ∀ H', Same H H' → Q .non H'
section
variable {P : Program} {w : World} {K : PySem.W.Frag} {mg : Str → Option Value} {base : Heap}
theorem ok_ask (D : Dfn K mg "ask" s_ask ["arcs"]) (c_is_arcs : Cal P w K mg base 1 "is_arcs" (spIsArcs K)) : Cal P w K mg base 2 "ask" (spAsk K) := by
  refine D.cal sc_ask (fun vs H Q E h => ?_) (fun f cdv A outer s0 H vs Q E hr h => ?_)
  · obtain ⟨a, s, rfl, _⟩ := h
    rfl
  · obtain ⟨a, s, rfl, hS, G, q⟩ := h
    refine ⟨_, (pss_one (ps_if (pt_not (pt_val (pe_c c_is_arcs hr (by omega) (by rfl) (pa_cons (pv 0) pa_nil))))
        (pss_one (ps_never))
        pss_nil)), ?_⟩
    refine ⟨.ref a, rfl, a, s, rfl, hS, by have := G.1; omega, fun b H' sm hb => ⟨b, rfl, ?_⟩⟩
    rw [hb.mpr G]
    exact iteF (q H' sm)
end

end Rv

namespace Rv
open PySem PySem.Spec PyProof.Rows L2
open Rm (zs at')
/-! ### ask_both -/
abbrev s_ask_both : Stmt := topS 12
theorem sc_ask_both : FnScope ["one", "other"] ["one", "other"] (defScope s_ask_both) := ⟨rfl, rfl, rfl, by decide +kernel, rfl, by decide +kernel, by decide +kernel⟩
def spAskBoth (K : PySem.W.Frag) : Sp := fun vs H Q _ => ∃ (a b : Addr) (n : Nat) (f1 f2 : List Nat), vs = [.ref a, .ref b] ∧ SqL K H a (vn f1) ∧ SqL K H b (vn f2) ∧ Rm.ArcsL n f1 ∧ Rm.ArcsL n f2 ∧ 1 ≤ n ∧ n ≤ 20 ∧ ∀ H', Same H H' → Q .non H'
section
variable {P : Program} {w : World} {K : PySem.W.Frag} {mg : Str → Option Value} {base : Heap}
theorem ok_ask_both (D : Dfn K mg "ask_both" s_ask_both ["one", "other"]) (B : Blt mg) (c_ask : Cal P w K mg base 2 "ask" (spAsk K)) : Cal P w K mg base 3 "ask_both" (spAskBoth K) := by
  refine D.cal sc_ask_both (fun vs H Q E h => ?_) (fun f cdv A outer s0 H vs Q E hr h => ?_)
  · obtain ⟨a, b, n, f1, f2, rfl, _⟩ := h
    rfl
  · obtain ⟨a, b, n, f1, f2, rfl, ha, hb, hA, hB, h1, h20, q⟩ := h
    refine ⟨_, (pss_cons (ps_expr (pe_c c_ask hr (by omega) (by rfl) (pa_cons (pv 0) pa_nil)))
      (pss_cons (ps_expr (pe_c c_ask hr (by omega) (by rfl) (pa_cons (pv 1) pa_nil)))
      (pss_one (ps_if (pt_cmpR op_ne (pe_callB call_len_seq (by rfl) B.len_ PySem.boot_len (pa_cons (pv 0) pa_nil)) (pe_callB call_len_seq (by rfl) B.len_ PySem.boot_len (pa_cons (pv 1) pa_nil)) (nomark _))
        (pss_one (ps_never))
        pss_nil)))), ?_⟩
    refine ⟨.ref a, rfl, a, zs f1, rfl, ha, Rm.arcs_good hA h1 h20, fun H1 s1 => ?_⟩
    refine ⟨.ref b, rfl, b, zs f2, rfl, s1.seq hb, Rm.arcs_good hB h1 h20, fun H2 s2 => ?_⟩
    refine ⟨.ref a, rfl, a, _, rfl, .inl (s2.seq (s1.seq ha)), .ref b, rfl, b, _, rfl, .inl (s2.seq (s1.seq hb)), rfl, _, rfl, ?_⟩
    rw [decide_eq_true (by rw [vn_len, vn_len, hA.len, hB.len])]
    exact iteF (q _ (s1.trans s2))
end

end Rv

namespace Rv
open PySem PySem.Spec PyProof.Rows L2
open Rm (zs at')
/-! ### _law_cell_at -/
abbrev s_law_cell_at : Stmt := topS 21
theorem sc_law_cell_at : FnScope ["script", "k"] ["script", "k"] (defScope s_law_cell_at) := ⟨rfl, rfl, rfl, by decide +kernel, rfl, by decide +kernel, by decide +kernel⟩
def spCell (K : PySem.W.Frag) : Sp := fun vs H Q _ => ∃ (a : Addr) (ns : List Int) (k : Int), vs = [.ref a, .int k] ∧ SqL K H a (vi ns) ∧ 0 ≤ k ∧ ∀ c : Int, Q (.int c) H
section
variable {P : Program} {w : World} {K : PySem.W.Frag} {mg : Str → Option Value} {base : Heap}
theorem ok_law_cell_at (D : Dfn K mg "_law_cell_at" s_law_cell_at ["script", "k"]) (B : Blt mg) : Cal P w K mg base 1 "_law_cell_at" (spCell K) := by
  refine D.cal sc_law_cell_at (fun vs H Q E h => ?_) (fun f cdv A outer s0 H vs Q E hr h => ?_)
  · obtain ⟨a, ns, k, rfl, _⟩ := h
    rfl
  · obtain ⟨a, ns, k, rfl, hS, h0, q⟩ := h
    refine ⟨_, (pss_cons (ps_if (pt_cmpR op_lt (pv 1) (pe_callB call_len_seq (by rfl) B.len_ PySem.boot_len (pa_cons (pv 0) pa_nil)) (nomark _))
        (pss_one (ps_ret (pe_ix ix_list (pv 0) (pv 1) (fun _ _ => rfl))))
        pss_nil)
      (pss_one (ps_ret pe_int))), ?_⟩
    refine ⟨.int k, rfl, .ref a, rfl, a, _, rfl, .inl hS, _, _, rfl, rfl, _, rfl, ite2 (fun e => ?_) (fun e => ?_)⟩
    · have e := of_decide_eq_true e
      rw [List.length_map] at e
      exact ⟨.ref a, rfl, .int k, rfl, a, _, _, _, rfl, rfl, hS, vi_at (k := k.toNat) (by omega) (by omega), q _⟩
    · exact q 0
end

end Rv

namespace Rv
open PySem PySem.Spec PyProof.Rows L2
open Rm (zs at')
/-! ### _law_whole -/
abbrev s_law_whole : Stmt := topS 22
theorem sc_law_whole : FnScope ["found"] ["found"] (defScope s_law_whole) := ⟨rfl, rfl, rfl, by decide +kernel, rfl, by decide +kernel, by decide +kernel⟩
theorem tyInt {K : PySem.W.Frag} {H : Hp} (i : Int) : TyX K H (.int i) (.type "int") := .base (.int i)
def spWhole : Sp := fun vs H Q _ => ∃ i : Int, vs = [.int i] ∧ Q (.bl true) H
section
variable {P : Program} {w : World} {K : PySem.W.Frag} {mg : Str → Option Value} {base : Heap}
theorem ok_law_whole (D : Dfn K mg "_law_whole" s_law_whole ["found"]) (B : Blt mg) : Cal P w K mg base 1 "_law_whole" spWhole := by
  refine D.cal sc_law_whole (fun vs H Q E h => ?_) (fun f cdv A outer s0 H vs Q E hr h => ?_)
  · obtain ⟨i, rfl, _⟩ := h
    rfl
  · obtain ⟨i, rfl, q⟩ := h
    refine ⟨_, (pss_one (ps_ret (pe_and (pe_callB call_isi (by rfl) B.isinstance_ (by decide +kernel) (pa_cons (pv 0) (pa_cons (pe_bltn (v := .ty "int") (by rfl) B.int_ (by decide +kernel) rfl) pa_nil))) (pe_one (pe_not (pe_callB call_isi (by rfl) B.isinstance_ (by decide +kernel) (pa_cons (pv 0) (pa_cons (pe_bltn (v := .ty "bool") (by rfl) B.bool_ (by decide +kernel) rfl) pa_nil)))))))), ?_⟩
    refine ⟨.int i, rfl, _, _, _, _, true, rfl, .ty "int", tyInt i, kit_ty (by decide +kernel), true, rfl, iteT ?_⟩
    exact ⟨.int i, rfl, _, _, _, _, false, rfl, .ty "bool", tyInt i, kit_ty (by decide +kernel), false, rfl, q⟩
end

end Rv

namespace Rv
open PySem PySem.Spec PyProof.Rows L2
open Rm (zs at')
/-! ### _law_numbers -/
abbrev s_law_numbers : Stmt := topS 23
theorem sc_law_numbers : FnScope ["found", "due", "x"] ["found", "due"] (defScope s_law_numbers) := ⟨rfl, rfl, rfl, by decide +kernel, rfl, by decide +kernel, by decide +kernel⟩
theorem tyLst {K : PySem.W.Frag} {H : Hp} {p : Addr} {xs : List V} (h : H p = some (.lst xs)) : TyX K H (.ref p) (.type "list") := .base (.lst h)
def spNumbers (K : PySem.W.Frag) : Sp := fun vs H Q _ => ∃ (p b : Addr) (s t : List Int), vs = [.ref p, .ref b] ∧ H p = some (.lst (vi s)) ∧ SqL K H b (vi t) ∧ (s = t → Q (.bl true) H) ∧ (s ≠ t → Q (.bl false) H)
section
variable {P : Program} {w : World} {K : PySem.W.Frag} {mg : Str → Option Value} {base : Heap}
theorem ok_law_numbers (D : Dfn K mg "_law_numbers" s_law_numbers ["found", "due"]) (B : Blt mg) (c_law_whole : Cal P w K mg base 1 "_law_whole" spWhole) : Cal P w K mg base 2 "_law_numbers" (spNumbers K) := by
  refine D.cal sc_law_numbers (fun vs H Q E h => ?_) (fun f cdv A outer s0 H vs Q E hr h => ?_)
  · obtain ⟨p, b, s, t, rfl, _⟩ := h
    rfl
  · obtain ⟨p, b, s, t, rfl, hP, hT, q1, q2⟩ := h
    refine ⟨_, (pss_cons (ps_if (PW.pt (pw_or (pt_not (pt_val (pe_callB call_isi (by rfl) B.isinstance_ (by decide +kernel) (pa_cons (pv 0) (pa_cons (pe_bltn (v := .ty "list") (by rfl) B.list_ (by decide +kernel) rfl) pa_nil))))) (pw_or1 (pt_cmpR op_ne (pe_callB call_len_seq (by rfl) B.len_ PySem.boot_len (pa_cons (pv 0) pa_nil)) (pe_callB call_len_seq (by rfl) B.len_ PySem.boot_len (pa_cons (pv 1) pa_nil)) (nomark _)))))
        (pss_one (ps_ret pe_bl))
        pss_nil)
      (pss_cons (ps_for PassesOwn.never rfl (pi_list (pv 0)) (pg_name (i := 2) sc_law_numbers.nd rfl (.inl rfl))
        (pss_one (ps_if (pt_not (pt_val (pe_c c_law_whole hr (by omega) (by rfl) (pa_cons (pv 2) pa_nil))))
          (pss_one (ps_ret pe_bl))
          pss_nil)))
      (pss_one (ps_ret (pe_cmpR (op_eqD (hu64 hr)) (pv 0) (pv 1) (nomark _)))))), ?_⟩
    refine ⟨.ref p, rfl, _, _, _, _, true, rfl, .ty "list", tyLst hP, kit_ty (by decide +kernel), true, rfl, iteF ?_⟩
    refine ⟨.ref p, rfl, p, _, rfl, .inl (sqL hP), .ref b, rfl, b, _, rfl, .inl hT, rfl, _, rfl, ite2 (fun e => ?_) (fun e => ?_)⟩
    · refine q2 fun z => ?_
      rw [z, decide_eq_true rfl] at e
      exact nomatch e
    refine ⟨.ref p, rfl, p, rfl, ⟨_, sqL hP⟩, for_list (xs := vi s) (fun i σ H' => H' = H ∧ ∃ y2, σ = [some (.ref p), some (.ref b), y2]) ⟨rfl, none, rfl⟩ (fun i σ H' _ h => ?_) (fun i v σ H' hi h => ?_) (fun σ H' h => ?_)⟩
    · rw [h.1]
      exact sqL hP
    · obtain ⟨rfl, y2, rfl⟩ := h
      have hi' : i < s.length := by
        have := (List.getElem?_eq_some_iff.mp hi).1
        simpa using this
      rw [vi_get hi'] at hi
      cases hi
      exact ⟨_, rfl, _, rfl, true, rfl, iteF ⟨rfl, _, rfl⟩⟩
    · obtain ⟨rfl, y2, rfl⟩ := h
      refine ⟨.ref p, rfl, .ref b, rfl, rEq_ints (sqL hP) hT ?_⟩
      by_cases z : s = t
      · rw [decide_eq_true z]; exact q1 z
      · rw [decide_eq_false z]; exact q2 z
end

end Rv

namespace Rv
open PySem PySem.Spec PyProof.Rows L2
open Rm (zs at')
/-! ### led_out -/
abbrev s_led_out : Stmt := topS 17
theorem sc_led_out : FnScope ["one", "other", "end", "low", "many", "inner", "row"] ["one", "other", "end", "low"] (defScope s_led_out) := ⟨rfl, rfl, rfl, by decide +kernel, rfl, by decide +kernel, by decide +kernel⟩
/-- what stands at the way's places -/
def wayL (n : Nat) (a b : Nat → Nat) (k t : Nat) : List Nat := (List.range t).map fun i => Rm.gi n (Rm.rowsA n a b (Rm.way n a b k i))
def spLed (K : PySem.W.Frag) : Sp := fun vs H Q _ => ∃ (a b : Addr) (n k : Nat) (fa fb : List Nat), vs = [.ref a, .ref b, .int (k : Int), .bl (decide (n ≤ k))] ∧ SqL K H a (vn fa) ∧ SqL K H b (vn fb) ∧ Rm.ArcsL n fa ∧ Rm.ArcsL n fb ∧ 1 ≤ n ∧ n ≤ 20 ∧ k < 2 * n ∧
  ∀ H' t r x j, Same H H' → H t = none → H r = none → H' t = some (.tup [.int ((x : Nat) : Int), .ref r]) → H' r = some (.lst (vn (wayL n (at' fa) (at' fb) k j))) → (∀ i, i < j → Rm.mid n (Rm.rowsA n (at' fa) (at' fb) (Rm.way n (at' fa) (at' fb) k i))) → x < 2 * n → Rm.ext n n x = Rm.rowsA n (at' fa) (at' fb) (Rm.way n (at' fa) (at' fb) k j) → Q (.ref t) H'
section
variable {P : Program} {w : World} {K : PySem.W.Frag} {mg : Str → Option Value} {base : Heap}
theorem ok_led_out (D : Dfn K mg "led_out" s_led_out ["one", "other", "end", "low"]) (B : Blt mg) : Cal P w K mg base 1 "led_out" (spLed K) := by
  refine D.cal sc_led_out (fun vs H Q E h => ?_) (fun f cdv A outer s0 H vs Q E hr h => ?_)
  · obtain ⟨a, b, n, k, fa, fb, rfl, _⟩ := h
    rfl
  · obtain ⟨a, b, n, k, fa, fb, rfl, hS, hT, hA, hB, h1, h20, hk, q⟩ := h
    refine ⟨_, (pss_cons (ps_set (i := 4) sc_led_out.nd rfl (.inl rfl) (pe_op op_fdivN (pe_callB call_len_seq (by rfl) B.len_ PySem.boot_len (pa_cons (pv 0) pa_nil)) pe_int))
      (pss_cons (ps_set (i := 5) sc_led_out.nd rfl (.inl rfl) (pe_lst pa_nil))
      (pss_one (ps_while PassesOwn.never (pt_val pe_bl)
        (pss_cons (ps_set (i := 6) sc_led_out.nd rfl (.inl rfl) (pe_ifExp (pt_val (pv 3)) (pv 1) (pv 0)))
        (pss_cons (ps_set (i := 2) sc_led_out.nd rfl (.inl rfl) (pe_ix ix_list (pv 6) (pv 2) (fun _ _ => rfl)))
        (pss_cons (ps_if (pt_cmpR op_eq (pv 3) (pe_cmpR op_ge (pv 2) (pv 4) (nomark _)) (nomark _))
          (pss_one (ps_ret (pe_tup (pa_cons (pv 2) (pa_cons (pv 5) pa_nil)))))
          pss_nil)
        (pss_cons (ps_expr (pe_bm PySem.F.plainAttrs_list PySem.F.slot_list_append PySem.F.type_list_append mt_append (pv 5) (pa_cons (pe_callB (call_min2 rfl) (by rfl) B.min_ (by decide +kernel) (pa_cons (pv 2) (pa_cons (pe_op op_sub (pe_op op_sub (pe_op op_mul pe_int (pv 4)) pe_int) (pv 2)) pa_nil))) pa_nil)))
        (pss_cons (ps_set (i := 2) sc_led_out.nd rfl (.inl rfl) (pe_op op_sub (pe_op op_sub (pe_op op_mul pe_int (pv 4)) pe_int) (pv 2)))
        (pss_one (ps_set (i := 3) sc_led_out.nd rfl (.inl rfl) (pe_not (pv 3))))))))))))), ?_⟩
    have hl := hA.len
    refine ⟨.ref a, rfl, a, _, rfl, .inl hS, _, _, rfl, rfl, ⟨by decide, by decide⟩, ?_⟩
    rw [vn_len, hl, show (fun i j : Int => V.int (i.fdiv j)) (((2 * n : Nat) : Int)) 2 = V.int (n : Int) by dsimp only; rw [fdiv2]]
    refine ⟨Nat.zero_le _, fun r nr => ?_⟩
    refine ⟨fun m σ H' => ∃ (t : Nat) (y6 : Option V), σ = [some (.ref a), some (.ref b), some (.int ((if Rm.way n (at' fa) (at' fb) k t < 2 * n then Rm.way n (at' fa) (at' fb) k t else Rm.way n (at' fa) (at' fb) k t - 2 * n : Nat) : Int)), some (.bl (decide (2 * n ≤ Rm.way n (at' fa) (at' fb) k t))), some (.int (n : Int)), some (.ref r), y6] ∧ Same H H' ∧
      H' r = some (.lst (vn (wayL n (at' fa) (at' fb) k t))) ∧ (∀ i, i < t → Rm.mid n (Rm.rowsA n (at' fa) (at' fb) (Rm.way n (at' fa) (at' fb) k i))) ∧ m + t = 4 * n, ⟨4 * n, 0, none, ?_, same_new nr, upd_same, fun i hi => absurd hi (Nat.not_lt_zero _), rfl⟩, fun m σ H' hW => ?_⟩
    · have hw : Rm.way n (at' fa) (at' fb) k 0 = Rm.ext n n k := rfl
      rw [hw]
      unfold Rm.ext
      by_cases c : k < n
      · rw [if_pos c, if_pos (by omega), decide_eq_false (by omega), decide_eq_false (by omega)]
        rfl
      · rw [if_neg c, if_neg (by omega), decide_eq_true (by omega), decide_eq_true (by omega), show k + 2 * n - 2 * n = k by omega]
        rfl
    obtain ⟨t, y6, rfl, sm, hr', hm, hmt⟩ := hW
    have hBl := hB.len
    have R := Rm.rows_arcs hA.arcs hB.arcs
    have wl := Rm.way_len hA.arcs hB.arcs hk hm
    obtain ⟨v4, vm⟩ := Rm.way_lt hA.arcs hB.arcs hk t hm
    have nx : Rm.way n (at' fa) (at' fb) k (t + 1) = 4 * n - 1 - Rm.rowsA n (at' fa) (at' fb) (Rm.way n (at' fa) (at' fb) k t) := rfl
    have wL : wayL n (at' fa) (at' fb) k (t + 1) = wayL n (at' fa) (at' fb) k t ++ [Rm.gi n (Rm.rowsA n (at' fa) (at' fb) (Rm.way n (at' fa) (at' fb) k t))] := by
      unfold wayL
      rw [List.range_succ, List.map_append]
      rfl
    have wLl : (wayL n (at' fa) (at' fb) k t).length = t := by simp [wayL]
    have hS' := sm.seq hS
    have hT' := sm.seq hT
    generalize hv : Rm.way n (at' fa) (at' fb) k t = v at v4 nx wL
    have vl := R.lt v v4
    have hgo : ∀ j, j < t + 1 → (Rm.mid n (Rm.rowsA n (at' fa) (at' fb) v)) → Rm.mid n (Rm.rowsA n (at' fa) (at' fb) (Rm.way n (at' fa) (at' fb) k j)) := fun j hj h => by
      by_cases c : j = t
      · rw [c, hv]; exact h
      · exact hm j (by omega)
    refine ⟨true, rfl, iteT ⟨fun σ H2 => ∃ y6, σ = [some (.ref a), some (.ref b), some (.int ((if Rm.way n (at' fa) (at' fb) k (t + 1) < 2 * n then Rm.way n (at' fa) (at' fb) k (t + 1) else Rm.way n (at' fa) (at' fb) k (t + 1) - 2 * n : Nat) : Int)), some (.bl (decide (2 * n ≤ Rm.way n (at' fa) (at' fb) k (t + 1)))), some (.int (n : Int)), some (.ref r), y6] ∧ Same H H2 ∧
      H2 r = some (.lst (vn (wayL n (at' fa) (at' fb) k (t + 1)))) ∧ Rm.mid n (Rm.rowsA n (at' fa) (at' fb) v), fun σ' H2 ⟨y6, e, s2, r2, m2⟩ => ⟨m - 1, by omega, t + 1, y6, e, s2, r2, fun i hi => hgo i hi m2, by omega⟩, ?_⟩⟩
    by_cases c : v < 2 * n
    · have hRv : Rm.rowsA n (at' fa) (at' fb) v = at' fa v := by unfold Rm.rowsA Rm.sideF; rw [if_pos c]
      have he : at' fa v < 2 * n := hA.arcs.lt v c
      rw [if_pos c, decide_eq_false (show ¬ 2 * n ≤ v by omega)]
      rw [hRv] at nx wL vl
      generalize hee : at' fa (v) = e at hRv he nx wL vl
      refine ⟨_, rfl, _, rfl, iteF ⟨.ref a, rfl, ?_⟩⟩
      refine ⟨.ref a, rfl, _, rfl, a, _, _, _, rfl, rfl, hS', vn_at (k := v) (by omega) rfl, ?_⟩
      rw [hee]
      refine ⟨_, rfl, _, rfl, .int n, rfl, _, _, rfl, rfl, rfl, _, rfl, ite2 (fun z => ?_) (fun z => ?_)⟩
      · have z : ¬ n ≤ e := fun h => by have := V.bl.inj (of_decide_eq_true z); rw [decide_eq_true (show (n : Int) ≤ (e : Int) by omega)] at this; cases this
        refine ⟨_, rfl, .ref r, rfl, by show 2 ≤ sizeLine; decide, fun tt ntt => ?_⟩
        exact q _ tt r e t (sm.trans (same_new ntt)) (sm.free ntt) nr upd_same (same_new ntt _ _ hr') hm he (by rw [hv, hRv]; unfold Rm.ext; rw [if_pos (by omega)])
      · have z : n ≤ e := by
          by_cases h : n ≤ e
          · exact h
          · exact absurd (by dsimp only; rw [decide_eq_false (show ¬ (n : Int) ≤ (e : Int) by omega)]) (dn z)
        refine ⟨.ref r, rfl, .inl ⟨rfl, _, sqL hr'⟩, _, rfl, .int n, rfl, _, _, rfl, rfl, .inl ⟨by decide, by decide⟩, _, _, rfl, rfl, _, rfl, _, _, rfl, rfl, _, _, rfl, r, _, _, rfl, rfl, hr', by rw [vn_len, wLl]; exact small63 (by omega), ?_⟩
        have hmin : (if (2 : Int) * n - 1 - e < (e : Int) then (2 : Int) * n - 1 - e else (e : Int)) = ((Rm.gi n e : Nat) : Int) := by unfold Rm.gi; rw [if_pos (by omega), if_pos he]; omega
        refine ⟨_, rfl, _, _, rfl, rfl, .inl ⟨by decide, by decide⟩, _, _, rfl, rfl, _, rfl, _, _, rfl, rfl, _, rfl, _, rfl, some (.ref a), ?_, same_upd sm nr, ?_, ?_⟩
        · rw [nx, if_neg (by omega), decide_eq_true (by omega)]
          have e1 : (2 : Int) * n - 1 - e = ((4 * n - 1 - e - 2 * n : Nat) : Int) := by omega
          rw [← e1]
          rfl
        · rw [upd_same, wL, ← vn_push, ← hmin]
        · rw [hRv]; unfold Rm.mid; omega
    · have hRv : Rm.rowsA n (at' fa) (at' fb) v = 2 * n + at' fb (v - 2 * n) := by unfold Rm.rowsA Rm.sideF; rw [if_neg c]
      have he : at' fb (v - 2 * n) < 2 * n := hB.arcs.lt _ (by omega)
      rw [if_neg c, decide_eq_true (show 2 * n ≤ v by omega)]
      rw [hRv] at nx wL vl
      generalize hee : at' fb (v - 2 * n) = e at hRv he nx wL vl
      refine ⟨_, rfl, _, rfl, iteT ⟨.ref b, rfl, ?_⟩⟩
      refine ⟨.ref b, rfl, _, rfl, b, _, _, _, rfl, rfl, hT', vn_at (k := v - 2 * n) (by omega) rfl, ?_⟩
      rw [hee]
      refine ⟨_, rfl, _, rfl, .int n, rfl, _, _, rfl, rfl, rfl, _, rfl, ite2 (fun z => ?_) (fun z => ?_)⟩
      · have z : n ≤ e := by
          by_cases h : n ≤ e
          · exact h
          · have := V.bl.inj (of_decide_eq_true z); rw [decide_eq_false (show ¬ (n : Int) ≤ (e : Int) by omega)] at this; cases this
        refine ⟨_, rfl, .ref r, rfl, by show 2 ≤ sizeLine; decide, fun tt ntt => ?_⟩
        exact q _ tt r e t (sm.trans (same_new ntt)) (sm.free ntt) nr upd_same (same_new ntt _ _ hr') hm he (by rw [hv, hRv]; unfold Rm.ext; rw [if_neg (by omega)]; omega)
      · have z : ¬ n ≤ e := fun h => dn z (by dsimp only; rw [decide_eq_true (show (n : Int) ≤ (e : Int) by omega)])
        refine ⟨.ref r, rfl, .inl ⟨rfl, _, sqL hr'⟩, _, rfl, .int n, rfl, _, _, rfl, rfl, .inl ⟨by decide, by decide⟩, _, _, rfl, rfl, _, rfl, _, _, rfl, rfl, _, _, rfl, r, _, _, rfl, rfl, hr', by rw [vn_len, wLl]; exact small63 (by omega), ?_⟩
        have hmin : (if (2 : Int) * n - 1 - e < (e : Int) then (2 : Int) * n - 1 - e else (e : Int)) = ((Rm.gi n (2 * n + e) : Nat) : Int) := by unfold Rm.gi; rw [if_neg (by omega), if_neg (by omega)]; omega
        refine ⟨_, rfl, _, _, rfl, rfl, .inl ⟨by decide, by decide⟩, _, _, rfl, rfl, _, rfl, _, _, rfl, rfl, _, rfl, _, rfl, some (.ref b), ?_, same_upd sm nr, ?_, ?_⟩
        · rw [nx, if_pos (by omega), decide_eq_false (by omega)]
          have e1 : (2 : Int) * n - 1 - e = ((4 * n - 1 - (2 * n + e) : Nat) : Int) := by omega
          rw [← e1]
          rfl
        · rw [upd_same, wL, ← vn_push, ← hmin]
        · rw [hRv]; unfold Rm.mid; omega
end

end Rv

namespace Rv
open PySem PySem.Spec PyProof.Rows L2
open Rm (zs at')
/-! ### laid -/
abbrev s_laid : Stmt := topS 18
theorem sc_laid : FnScope ["one", "other", "many", "found", "met", "k", "told", "end", "rings", "start", "lower"] ["one", "other"] (defScope s_laid) := ⟨rfl, rfl, rfl, by decide +kernel, rfl, by decide +kernel, by decide +kernel⟩
def spLaid (K : PySem.W.Frag) : Sp := fun vs H Q _ => ∃ (a b : Addr) (n : Nat) (fa fb : List Nat), vs = [.ref a, .ref b] ∧ SqL K H a (vn fa) ∧ SqL K H b (vn fb) ∧ Rm.ArcsL n fa ∧ Rm.ArcsL n fb ∧ 1 ≤ n ∧ n ≤ 20 ∧
  ∀ (H' : Hp) (t p : Addr) (fo : List Nat) (r : Nat), Same H H' → H t = none → H p = none → H' t = some (.tup [.ref p, .int (r : Int)]) → H' p = some (.lst (vn fo)) → Rm.ArcsL n fo → Rm.Lrn n (at' fa) (at' fb) (at' fo) r → r ≤ n → Q (.ref t) H'
theorem kvs_add {l : List Nat} {k : Nat} : putK (kvsOf l) (Sum.inl (k : Int) : Key) (V.bl true) = kvsOf (Rm.addN l k) := by
  unfold Rm.addN
  split
  · rename_i h
    unfold putK
    split
    · unfold kvsOf
      rw [List.map_map]
      apply List.map_congr_left
      intro x _
      show (if (Sum.inl (x : Int) : Key) = Sum.inl (k : Int) then ((Sum.inl (x : Int) : Key), V.bl true) else ((Sum.inl (x : Int) : Key), V.bl true)) = _
      split <;> rfl
    · rename_i h2
      rw [valV_any, kvs_get, decide_eq_true h] at h2
      exact absurd rfl h2
  · rename_i h
    exact kvs_put h
theorem wayL_at {n k t i : Nat} {a b : Nat → Nat} (h : i < t) : (wayL n a b k t)[i]? = some (Rm.gi n (Rm.rowsA n a b (Rm.way n a b k i))) := by
  unfold wayL
  rw [List.getElem?_map, List.getElem?_range h]
  rfl
theorem vn_get' {L : List Nat} {i c : Nat} (h : L[i]? = some c) : (vn L)[i]? = some (.int (c : Int)) := by simp [vn, vi, zs, h]
section
variable {P : Program} {w : World} {K : PySem.W.Frag} {mg : Str → Option Value} {base : Heap}
theorem ok_laid (D : Dfn K mg "laid" s_laid ["one", "other"]) (B : Blt mg) (c_ask_both : Cal P w K mg base 3 "ask_both" (spAskBoth K)) (c_led_out : Cal P w K mg base 1 "led_out" (spLed K)) : Cal P w K mg base 4 "laid" (spLaid K) := by
  refine D.cal sc_laid (fun vs H Q E h => ?_) (fun f cdv A outer s0 H vs Q E hr h => ?_)
  · obtain ⟨a, b, n, fa, fb, rfl, _⟩ := h
    rfl
  · obtain ⟨a, b, n, fa, fb, rfl, hS0, hT0, hA, hB, h1, h20, q⟩ := h
    refine ⟨_, (pss_cons (ps_expr (pe_c c_ask_both hr (by omega) (by rfl) (pa_cons (pv 0) (pa_cons (pv 1) pa_nil))))
      (pss_cons (ps_set (i := 2) sc_laid.nd rfl (.inl rfl) (pe_op op_fdivN (pe_callB call_len_seq (by rfl) B.len_ PySem.boot_len (pa_cons (pv 0) pa_nil)) pe_int))
      (pss_cons (ps_set (i := 3) sc_laid.nd rfl (.inl rfl) (pe_lst pa_nil))
      (pss_cons (ps_set (i := 4) sc_laid.nd rfl (.inl rfl) pe_dnewK)
      (pss_cons (ps_for PassesOwn.never rfl (pi_range1 (by rfl) B.range_ (pa_cons (pe_op op_mul pe_int (pv 2)) pa_nil)) (pg_name (i := 5) sc_laid.nd rfl (.inl rfl))
        (pss_cons (ps_set (i := 6) sc_laid.nd rfl (.inl rfl) (pe_c c_led_out hr (by omega) (by rfl) (pa_cons (pv 0) (pa_cons (pv 1) (pa_cons (pv 5) (pa_cons (pe_cmpR op_ge (pv 5) (pv 2) (nomark _)) pa_nil))))))
        (pss_cons (ps_expr (pe_bm PySem.F.plainAttrs_list PySem.F.slot_list_append PySem.F.type_list_append mt_append (pv 3) (pa_cons (pe_ix ix_tup (pv 6) pe_int (fun _ _ => rfl)) pa_nil)))
        (pss_one (ps_for PassesOwn.never rfl (pi_list (pe_ix ix_tup (pv 6) pe_int (fun _ _ => rfl))) (pg_name (i := 7) sc_laid.nd rfl (.inl rfl))
          (pss_one (ps_dput (hu_of hr) (pv 4) (pv 7) pe_bl rfl)))))))
      (pss_cons (ps_set (i := 8) sc_laid.nd rfl (.inl rfl) pe_int)
      (pss_cons (ps_for PassesOwn.never rfl (pi_range1 (by rfl) B.range_ (pa_cons (pv 2) pa_nil)) (pg_name (i := 9) sc_laid.nd rfl (.inl rfl))
        (pss_one (ps_if (pt_cmp (pc_dnotin (hu_of hr) (pv 9) (pv 4)))
          (pss_cons (ps_set (i := 8) sc_laid.nd rfl (.inl rfl) (pe_op op_add (pv 8) pe_int))
          (pss_cons (ps_set (i := 7) sc_laid.nd rfl (.inl rfl) (pv 9))
          (pss_one (ps_while PassesOwn.never (pt_cmp (pc_dnotin (hu_of hr) (pv 7) (pv 4)))
            (pss_cons (ps_dput (hu_of hr) (pv 4) (pv 7) pe_bl rfl)
            (pss_cons (ps_set (i := 10) sc_laid.nd rfl (.inl rfl) (pe_ix ix_list (pv 1) (pv 7) (fun _ _ => rfl)))
            (pss_cons (ps_dput (hu_of hr) (pv 4) (pv 10) pe_bl rfl)
            (pss_one (ps_set (i := 7) sc_laid.nd rfl (.inl rfl) (pe_op op_sub (pe_op op_sub (pe_op op_mul pe_int (pv 2)) pe_int) (pe_ix ix_list (pv 0) (pe_op op_sub (pe_op op_sub (pe_op op_mul pe_int (pv 2)) pe_int) (pv 10)) (fun _ _ => rfl))))))))))))
          pss_nil)))
      (pss_one (ps_ret (pe_tup (pa_cons (pv 3) (pa_cons (pv 8) pa_nil)))))))))))), ?_⟩
    have hl := hA.len
    have hlB := hB.len
    obtain ⟨g, G, hg⟩ := Rm.laid_some hA.arcs hB.arcs
    obtain ⟨T, hF⟩ := Rm.far_ex hA.arcs hB.arcs
    refine ⟨.ref a, rfl, .ref b, rfl, a, b, n, fa, fb, rfl, hS0, hT0, hA, hB, h1, h20, fun H0 sm0 => ?_⟩
    have hS := sm0.seq hS0
    have hT := sm0.seq hT0
    refine ⟨.ref a, rfl, a, _, rfl, .inl hS, _, _, rfl, rfl, ⟨by decide, by decide⟩, ?_⟩
    rw [vn_len, hl, show (fun i j : Int => V.int (i.fdiv j)) (((2 * n : Nat) : Int)) 2 = V.int (n : Int) by dsimp only; rw [fdiv2]]
    refine ⟨Nat.zero_le _, fun p np => fun d nd => ?_⟩
    have sp := same_new (o := .lst []) np
    have d0 : H0 d = none := sp.free nd
    have hpd : p ≠ d := ne_of_none upd_same nd
    have sd := sp.trans (same_new (o := .dK []) nd)
    refine ⟨_, rfl, _, _, rfl, rfl, .inl ⟨by decide, by decide⟩, _, rfl, by omega, by omega, ?_⟩
    rw [show (2 * (n : Int)).toNat = 2 * n by omega]
    refine for_range (lo := 0) (n := 2 * n) (fun k σ H' => ∃ (y5 y6 y7 : Option V) (s : List Nat), σ = [some (.ref a), some (.ref b), some (.int (n : Int)), some (.ref p), some (.ref d), y5, y6, y7, none, none, none] ∧ Same H0 H' ∧ H' p = some (.lst (vn ((Rm.mkL (2 * n) g).take k))) ∧ H' d = some (.dK (kvsOf s)) ∧ Rm.MetTo n (at' fa) (at' fb) T k 0 s)
      ⟨none, none, none, [], rfl, sd, by rw [upd_ne hpd, upd_same]; rfl, by rw [upd_same]; rfl, Rm.MetTo.zero _ _ _ _⟩ (fun k σ H' hk hP => ?_) (fun σ H' hP => ?_)
    · obtain ⟨y5, y6, y7, s, rfl, sm, hp, hd, hM⟩ := hP
      rw [Int.zero_add]
      refine ⟨.ref a, rfl, .ref b, rfl, .int k, rfl, .int k, rfl, .int n, rfl, _, _, rfl, rfl, a, b, n, k, fa, fb, ?_, sm.seq hS, sm.seq hT, hA, hB, h1, h20, hk, fun H1 t r x j s1 nt nr ht hr1 hmid hx hxe => ?_⟩
      · simp
      have hj : j = T k := Rm.far_one hF hk hmid (by rw [← hxe]; exact (Rm.ext_lt hx).2)
      have hxg : x = g k := Rm.way_out hA.arcs hB.arcs hk hg hmid hx hxe
      subst hj
      have hp1 := s1 _ _ hp
      have hd1 := s1 _ _ hd
      have hrp : r ≠ p := (ne_of_none hp nr).symm
      have hrd : r ≠ d := (ne_of_none hd nr).symm
      have htp : t ≠ p := (ne_of_none hp nt).symm
      have htd : t ≠ d := (ne_of_none hd nt).symm
      have hTk := Rm.way_len hA.arcs hB.arcs hk hmid
      -- found.append(told[0])
      refine ⟨.ref p, rfl, .inl ⟨rfl, _, sqL hp1⟩, .ref t, rfl, t, _, 0, _, rfl, rfl, sqT ht, rfl, p, _, _, rfl, rfl, hp1, by rw [vn_len, List.length_take]; exact small63 (by omega), ?_⟩
      have ep : vn ((Rm.mkL (2 * n) g).take k) ++ [V.int (x : Int)] = vn ((Rm.mkL (2 * n) g).take (k + 1)) := by rw [hxg]; exact vn_take _ _ _ (Rm.mkL_get hk)
      rw [ep]
      have sm2 : Same H0 (upd H1 p (.lst (vn ((Rm.mkL (2 * n) g).take (k + 1))))) := same_upd (sm.trans s1) np
      have hp2 : (upd H1 p (.lst (vn ((Rm.mkL (2 * n) g).take (k + 1))))) p = _ := upd_same
      have ht2 : (upd H1 p (.lst (vn ((Rm.mkL (2 * n) g).take (k + 1))))) t = _ := (upd_ne htp).trans ht
      have hr2 : (upd H1 p (.lst (vn ((Rm.mkL (2 * n) g).take (k + 1))))) r = _ := (upd_ne hrp).trans hr1
      have hd2 : (upd H1 p (.lst (vn ((Rm.mkL (2 * n) g).take (k + 1))))) d = _ := (upd_ne hpd.symm).trans hd1
      generalize upd H1 p (.lst (vn ((Rm.mkL (2 * n) g).take (k + 1)))) = H2 at sm2 hp2 ht2 hr2 hd2
      -- for end in told[1]
      refine ⟨.ref t, rfl, t, _, 1, _, rfl, rfl, sqT ht2, rfl, r, rfl, ⟨_, sqL hr2⟩, for_list (xs := vn (wayL n (at' fa) (at' fb) k (T k))) (fun i σ H'' => ∃ (y7 : Option V) (s : List Nat), σ = [some (.ref a), some (.ref b), some (.int (n : Int)), some (.ref p), some (.ref d), some (.int (k : Int)), some (.ref t), y7, none, none, none] ∧ Same H0 H'' ∧ H'' p = some (.lst (vn ((Rm.mkL (2 * n) g).take (k + 1)))) ∧ H'' r = some (.lst (vn (wayL n (at' fa) (at' fb) k (T k)))) ∧ H'' d = some (.dK (kvsOf s)) ∧ Rm.MetTo n (at' fa) (at' fb) T k i s)
        ⟨y7, s, rfl, sm2, hp2, hr2, hd2, hM⟩ (fun i σ H'' _ h => ?_) (fun i v σ H'' hi h => ?_) (fun σ H'' h => ?_)⟩
      · obtain ⟨_, _, _, _, _, h3, _⟩ := h
        exact sqL h3
      · obtain ⟨y7, s', rfl, sm3, hp3, hr3, hd3, hM3⟩ := h
        have hiT : i < T k := by
          have := (List.getElem?_eq_some_iff.mp hi).1
          rw [vn_len] at this
          simpa [wayL] using this
        rw [vn_get' (wayL_at hiT)] at hi
        cases hi
        have hlt := hM3.lt hF (by omega) (.inl ⟨hk, by omega⟩)
        have hsl := Rm.nodup_len n _ hM3.nd hlt
        refine ⟨.ref d, rfl, .int (Rm.gi n (Rm.rowsA n (at' fa) (at' fb) (Rm.way n (at' fa) (at' fb) k i)) : Nat), rfl, d, _, rfl, DPut.k (k := Sum.inl ((Rm.gi n (Rm.rowsA n (at' fa) (at' fb) (Rm.way n (at' fa) (at' fb) k i)) : Nat) : Int)) hd3 (by rw [kvs_len]; exact small63 (by omega)), ?_⟩
        rw [kvs_add]
        exact ⟨_, _, rfl, same_upd sm3 d0, (upd_ne hpd).trans hp3, (upd_ne hrd).trans hr3, upd_same, hM3.push⟩
      · obtain ⟨y7, s', rfl, sm3, hp3, hr3, hd3, hM3⟩ := h
        rw [vn_len] at hM3
        rw [show (wayL n (at' fa) (at' fb) k (T k)).length = T k by simp [wayL]] at hM3
        exact ⟨_, _, _, s', rfl, sm3, hp3, hd3, hM3.next⟩
    · obtain ⟨y5, y6, y7, s, rfl, sm, hp, hd, hM⟩ := hP
      have M := hM.met hA.arcs hB.arcs hF
      have oB := M.ownB hA.arcs hB.arcs
      have oA := M.ownA hA.arcs hB.arcs
      have IB := Rm.alF_inv2 M.lt oB
      have IA := Rm.alF_inv2 M.lt oA
      have SS := Rm.s0F_seen M.nd M.lt oB
      have gLl : (Rm.mkL (2 * n) g).length = 2 * n := Rm.mkL_len _ _
      rw [vn_full gLl] at hp
      refine ⟨.int n, rfl, _, rfl, by omega, by omega, ?_⟩
      rw [show ((n : Nat) : Int).toNat = n by omega]
      refine for_range (lo := 0) (n := n) (fun i σ H2 => ∃ (y5 y6 y7 y9 y10 : Option V), σ = [some (.ref a), some (.ref b), some (.int (n : Int)), some (.ref p), some (.ref d), y5, y6, y7, some (.int ((Rm.ringsF n (at' fa) (at' fb) s i).length : Nat)), y9, y10] ∧ Same H0 H2 ∧ H2 p = some (.lst (vn (Rm.mkL (2 * n) g))) ∧ H2 d = some (.dK (kvsOf (s ++ (Rm.ringsF n (at' fa) (at' fb) s i).flatten))))
        ⟨y5, y6, y7, none, none, by rw [Rm.rings_zero]; rfl, sm, hp, by rw [Rm.rings_zero]; simpa using hd⟩ (fun i σ H2 hi hP => ?_) (fun σ H2 hP => ?_)
      · obtain ⟨y5, y6, y7, y9, y10, rfl, sm2, hp2, hd2⟩ := hP
        rw [Int.zero_add]
        have S := Rm.goR_seen (s0 := Rm.s0F n s) IB IA.lt SS i (by omega)
        have efold : Rm.goR (Rm.alF n (at' fb) s) (Rm.alF n (Rm.bbF n (at' fa)) s) (2 * n) (Rm.s0F n s) i = Rm.ringsF n (at' fa) (at' fb) s i := rfl
        have hlen := (show (Rm.ringsF n (at' fa) (at' fb) s i).length ≤ i from Rm.goR_len i (by omega))
        have esucc : Rm.ringsF n (at' fa) (at' fb) s (i + 1) = _ := Rm.goR_succ _ _ _ _ _
        unfold Rm.stepR at esucc
        rw [efold] at S esucc
        generalize Rm.ringsF n (at' fa) (at' fb) s i = F at *
        have hmem : ∀ (road : List Nat) (x : Nat), x < n → (x ∈ Rm.s0F n s ++ F.flatten ++ road ↔ x ∈ s ++ F.flatten ++ road) := fun road x hx => by
          simp only [List.mem_append, Rm.mem_s0F M.lt]
          constructor
          · rintro ((h | h) | h)
            · rcases h with h | h
              · exact .inl (.inl h.2)
              · omega
            · exact .inl (.inr h)
            · exact .inr h
          · rintro ((h | h) | h)
            · exact .inl (.inl (.inl ⟨hx, h⟩))
            · exact .inl (.inr h)
            · exact .inr h
        have hmem0 := hmem [] i hi
        rw [List.append_nil, List.append_nil] at hmem0
        refine ⟨.int i, rfl, .ref d, rfl, d, _, rfl, DGet.k (k := Sum.inl (i : Int)) hd2, _, rfl, ?_⟩
        rw [kvs_get]
        by_cases hm : i ∈ s ++ F.flatten
        · rw [decide_eq_true hm]
          rw [if_pos (hmem0.mpr hm)] at esucc
          refine iteF ?_
          show ∃ y5 y6 y7 y9 y10, _
          rw [esucc]
          exact ⟨_, _, _, _, _, rfl, sm2, hp2, hd2⟩
        · rw [decide_eq_false hm]
          rw [if_neg (fun z => hm (hmem0.mp z))] at esucc
          refine iteT ⟨_, rfl, _, _, rfl, rfl, .int i, rfl, ?_⟩
          -- while end not in met
          refine ⟨fun m σ H3 => ∃ (x : Nat) (road : List Nat) (y10 : Option V), σ = [some (.ref a), some (.ref b), some (.int (n : Int)), some (.ref p), some (.ref d), y5, y6, some (.int (x : Int)), some (.int ((F.length + 1 : Nat) : Int)), some (.int (i : Int)), y10] ∧ Same H0 H3 ∧ H3 p = some (.lst (vn (Rm.mkL (2 * n) g))) ∧ H3 d = some (.dK (kvsOf (s ++ F.flatten ++ road))) ∧ x < n ∧ Rm.Seen (Rm.alF n (at' fb) s) (2 * n) (Rm.s0F n s ++ F.flatten ++ road) ∧
            Rm.walk (Rm.alF n (at' fb) s) (Rm.alF n (Rm.bbF n (at' fa)) s) m (Rm.s0F n s ++ F.flatten) x road = Rm.walk (Rm.alF n (at' fb) s) (Rm.alF n (Rm.bbF n (at' fa)) s) (2 * n) (Rm.s0F n s ++ F.flatten) i [] ∧ 2 * n ≤ m + (Rm.s0F n s ++ F.flatten ++ road).length,
            ⟨2 * n, i, [], y10, rfl, sm2, hp2, by rw [List.append_nil]; exact hd2, hi, by rw [List.append_nil]; exact S, rfl, by omega⟩, fun m σ H3 hW => ?_⟩
          obtain ⟨x, road, y10, rfl, sm3, hp3, hd3, hx, S3, hwk, hfu⟩ := hW
          refine ⟨.int x, rfl, .ref d, rfl, d, _, rfl, DGet.k (k := Sum.inl (x : Int)) hd3, _, rfl, ?_⟩
          rw [kvs_get]
          by_cases hxm : x ∈ s ++ F.flatten ++ road
          · rw [decide_eq_true hxm]
            rw [Rm.walk_stop ((hmem road x hx).mpr hxm)] at hwk
            refine iteF ?_
            show ∃ y5 y6 y7 y9 y10, _
            rw [esucc, ← hwk, List.length_append, List.length_singleton, Rm.flatten_snoc, ← List.append_assoc]
            exact ⟨_, _, _, _, _, rfl, sm3, hp3, hd3⟩
          · rw [decide_eq_false hxm]
            have hx0 : x ∉ Rm.s0F n s ++ F.flatten ++ road := fun z => hxm ((hmem road x hx).mp z)
            obtain ⟨m', rfl⟩ := Rm.fuel_pos S3 (show x < 2 * n by omega) hx0 hfu
            rw [Rm.walk_go hx0] at hwk
            have hpush := S3.push IB (show x < 2 * n by omega) hx0
            have hszl := Rm.nodup_len (2 * n) _ hpush.2.nd hpush.2.lt
            rw [List.length_append, List.length_cons, List.length_cons, List.length_nil] at hszl
            have hxs : x ∉ s := fun z => hxm (by simp [z])
            have hb1 := oB x hx hxs
            have ha1 := oA (at' fb x) hb1.1 hb1.2.1
            have eb : Rm.alF n (at' fb) s x = at' fb x := Rm.alF_in hx hxs
            have ea : Rm.alF n (Rm.bbF n (at' fa)) s (at' fb x) = Rm.bbF n (at' fa) (at' fb x) := Rm.alF_in hb1.1 hb1.2.1
            rw [eb] at hwk hpush
            rw [ea] at hwk
            have hnb : at' fb x ∉ s ++ F.flatten ++ road ++ [x] := fun z => by
              rcases List.mem_append.mp z with z | z
              · exact hpush.1 ((hmem road _ hb1.1).mpr z)
              · simp at z
                exact hb1.2.2.1 z
            have hbx : at' fb x < fb.length := by rw [hlB]; omega
            have hk1 : (s ++ F.flatten ++ road).length ≤ 1000 := by
              have h3 : (Rm.s0F n s).length = s.length + n := by simp [Rm.s0F]
              simp only [List.length_append] at hszl h3 ⊢
              omega
            refine iteT ⟨fun σ' H4 => ∃ (x' : Nat) (road' : List Nat) (y10 : Option V), σ' = [some (.ref a), some (.ref b), some (.int (n : Int)), some (.ref p), some (.ref d), y5, y6, some (.int (x' : Int)), some (.int ((F.length + 1 : Nat) : Int)), some (.int (i : Int)), y10] ∧ Same H0 H4 ∧ H4 p = some (.lst (vn (Rm.mkL (2 * n) g))) ∧ H4 d = some (.dK (kvsOf (s ++ F.flatten ++ road'))) ∧ x' < n ∧ Rm.Seen (Rm.alF n (at' fb) s) (2 * n) (Rm.s0F n s ++ F.flatten ++ road') ∧
              Rm.walk (Rm.alF n (at' fb) s) (Rm.alF n (Rm.bbF n (at' fa)) s) m' (Rm.s0F n s ++ F.flatten) x' road' = Rm.walk (Rm.alF n (at' fb) s) (Rm.alF n (Rm.bbF n (at' fa)) s) (2 * n) (Rm.s0F n s ++ F.flatten) i [] ∧ 2 * n ≤ m' + (Rm.s0F n s ++ F.flatten ++ road').length, fun σ' H4 h4 => ⟨m', Nat.lt_succ_self _, h4⟩, ?_⟩
            -- met[end] = True
            refine ⟨.ref d, rfl, .int x, rfl, d, _, rfl, DPut.k (k := Sum.inl (x : Int)) hd3 (by rw [kvs_len]; exact small63 (by omega)), ?_⟩
            rw [kvs_put hxm]
            have sm4 := same_upd (o := .dK (kvsOf (s ++ F.flatten ++ road ++ [x]))) sm3 d0
            have hp4 : (upd H3 d (.dK (kvsOf (s ++ F.flatten ++ road ++ [x])))) p = _ := (upd_ne hpd).trans hp3
            have hd4 : (upd H3 d (.dK (kvsOf (s ++ F.flatten ++ road ++ [x])))) d = _ := upd_same
            generalize upd H3 d (.dK (kvsOf (s ++ F.flatten ++ road ++ [x]))) = H4 at sm4 hp4 hd4
            -- lower = other[end]
            refine ⟨.ref b, rfl, .int x, rfl, b, _, _, _, rfl, rfl, sm4.seq hT, vn_at (by omega) rfl, ?_⟩
            -- met[lower] = True
            refine ⟨.ref d, rfl, .int (at' fb x : Nat), rfl, d, _, rfl, DPut.k (k := Sum.inl ((at' fb x : Nat) : Int)) hd4 (by rw [kvs_len, List.length_append, List.length_singleton]; exact small63 (by omega)), ?_⟩
            rw [kvs_put hnb]
            have sm5 := same_upd (o := .dK (kvsOf (s ++ F.flatten ++ road ++ [x] ++ [at' fb x]))) sm4 d0
            have hp5 : (upd H4 d (.dK (kvsOf (s ++ F.flatten ++ road ++ [x] ++ [at' fb x])))) p = _ := (upd_ne hpd).trans hp4
            have hd5 : (upd H4 d (.dK (kvsOf (s ++ F.flatten ++ road ++ [x] ++ [at' fb x])))) d = _ := upd_same
            generalize upd H4 d (.dK (kvsOf (s ++ F.flatten ++ road ++ [x] ++ [at' fb x]))) = H5 at sm5 hp5 hd5
            -- end = 2 * many - 1 - one[2 * many - 1 - lower]
            refine ⟨.int n, rfl, _, _, rfl, rfl, .inl ⟨by decide, by decide⟩, _, _, rfl, rfl, .ref a, rfl, .int n, rfl, _, _, rfl, rfl, .inl ⟨by decide, by decide⟩, _, _, rfl, rfl, .int (at' fb x : Nat), rfl, _, _, rfl, rfl, a, _, _, _, rfl, rfl, sm5.seq hS, vn_at (k := 2 * n - 1 - at' fb x) (by omega) (by omega), _, _, rfl, rfl, ?_⟩
            have la := hA.arcs.lt (2 * n - 1 - at' fb x) (by omega)
            refine ⟨Rm.bbF n (at' fa) (at' fb x), road ++ [x, at' fb x], some (.int (at' fb x : Nat)), ?_, sm5, hp5, ?_, ha1.1, ?_, hwk, ?_⟩
            · have : (2 : Int) * n - 1 - ((at' fa (2 * n - 1 - at' fb x) : Nat) : Int) = ((Rm.bbF n (at' fa) (at' fb x) : Nat) : Int) := by unfold Rm.bbF; omega
              rw [← this]
              rfl
            · rw [hd5]
              simp
            · rw [← List.append_assoc]; exact hpush.2
            · simp at hfu ⊢
              omega
      · obtain ⟨y5, y6, y7, y9, y10, rfl, sm2, hp2, hd2⟩ := hP
        have hL : Rm.ArcsL n (Rm.mkL (2 * n) g) := Rm.mkL_arcs G
        refine ⟨.ref p, rfl, _, rfl, by show 2 ≤ sizeLine; decide, fun t nt => ?_⟩
        refine q _ t p (Rm.mkL (2 * n) g) _ ((sm0.trans sm2).trans (same_new nt)) (sm0.free (sm2.free nt)) (sm0.free np) upd_same (same_new nt _ _ hp2) hL ⟨hL.arcs, fun u v hu hv => ?_, Rm.rings_comp M hA.arcs hB.arcs⟩ Rm.rings_le
        rw [Rm.mkL_at hu]
        exact hg u v hu hv
end

end Rv

namespace Rv
open PySem PySem.Spec PyProof.Rows L2
open Rm (zs at')
/-! ### roads_by -/
abbrev s_roads_by : Stmt := topS 13
theorem sc_roads_by : FnScope ["above", "below", "found", "seen", "start", "road", "at"] ["above", "below"] (defScope s_roads_by) := ⟨rfl, rfl, rfl, by decide +kernel, rfl, by decide +kernel, by decide +kernel⟩
def spRoadsBy (K : PySem.W.Frag) : Sp := fun vs H Q _ => ∃ (a b : Addr) (M : Nat) (f1 f2 : List Nat), vs = [.ref a, .ref b] ∧ SqL K H a (vn f1) ∧ SqL K H b (vn f2) ∧ f1.length = M ∧ f2.length = M ∧ M ≤ 1000 ∧ Rm.Inv2 M (at' f1) ∧ (∀ k, k < M → at' f2 k < M) ∧
  NewLL H Q (Rm.roadsM (at' f1) (at' f2) M)
section
variable {P : Program} {w : World} {K : PySem.W.Frag} {mg : Str → Option Value} {base : Heap}
theorem ok_roads_by (D : Dfn K mg "roads_by" s_roads_by ["above", "below"]) (B : Blt mg) : Cal P w K mg base 1 "roads_by" (spRoadsBy K) := by
  refine D.cal sc_roads_by (fun vs H Q E h => ?_) (fun f cdv A outer s0 H vs Q E hr h => ?_)
  · obtain ⟨a, b, M, f1, f2, rfl, _⟩ := h
    rfl
  · obtain ⟨a, b, M, f1, f2, rfl, ha, hb, l1, l2, hM, IA, hB, q⟩ := h
    refine ⟨_, (pss_cons (ps_set (i := 2) sc_roads_by.nd rfl (.inl rfl) (pe_lst pa_nil))
      (pss_cons (ps_set (i := 3) sc_roads_by.nd rfl (.inl rfl) pe_dnewK)
      (pss_cons (ps_for PassesOwn.never rfl (pi_range1 (by rfl) B.range_ (pa_cons (pe_callB call_len_seq (by rfl) B.len_ PySem.boot_len (pa_cons (pv 0) pa_nil)) pa_nil)) (pg_name (i := 4) sc_roads_by.nd rfl (.inl rfl))
        (pss_one (ps_if (pt_cmp (pc_dnotin (hu_of hr) (pv 4) (pv 3)))
          (pss_cons (ps_set (i := 5) sc_roads_by.nd rfl (.inl rfl) (pe_lst pa_nil))
          (pss_cons (ps_set (i := 6) sc_roads_by.nd rfl (.inl rfl) (pv 4))
          (pss_cons (ps_while PassesOwn.never (pt_cmp (pc_dnotin (hu_of hr) (pv 6) (pv 3)))
            (pss_cons (ps_dput (hu_of hr) (pv 3) (pv 6) pe_bl rfl)
            (pss_cons (ps_dput (hu_of hr) (pv 3) (pe_ix ix_list (pv 0) (pv 6) (fun _ _ => rfl)) pe_bl rfl)
            (pss_cons (ps_expr (pe_bm PySem.F.plainAttrs_list PySem.F.slot_list_append PySem.F.type_list_append mt_append (pv 5) (pa_cons (pv 6) pa_nil)))
            (pss_cons (ps_expr (pe_bm PySem.F.plainAttrs_list PySem.F.slot_list_append PySem.F.type_list_append mt_append (pv 5) (pa_cons (pe_ix ix_list (pv 0) (pv 6) (fun _ _ => rfl)) pa_nil)))
            (pss_one (ps_set (i := 6) sc_roads_by.nd rfl (.inl rfl) (pe_ix ix_list (pv 1) (pe_ix ix_list (pv 0) (pv 6) (fun _ _ => rfl)) (fun _ _ => rfl)))))))))
          (pss_one (ps_expr (pe_bm PySem.F.plainAttrs_list PySem.F.slot_list_append PySem.F.type_list_append mt_append (pv 2) (pa_cons (pv 5) pa_nil)))))))
          pss_nil)))
      (pss_one (ps_ret (pv 2)))))), ?_⟩
    refine ⟨Nat.zero_le _, fun p np => fun d nd => ?_⟩
    have sp := same_new (o := .lst []) np
    have d0 : H d = none := sp.free nd
    have hpd : p ≠ d := ne_of_none upd_same nd
    have sd := sp.trans (same_new (o := .dK []) nd)
    refine ⟨.ref a, rfl, a, _, rfl, .inl (sd.seq ha), _, rfl, by rw [vn_len]; omega, by rw [vn_len]; omega, ?_⟩
    rw [show (((vn f1).length : Nat) : Int).toNat = M by rw [vn_len, l1]; omega]
    refine for_range (lo := 0) (n := M) (fun i σ H' => ∃ y4 y5 y6 rs, σ = [some (.ref a), some (.ref b), some (.ref p), some (.ref d), y4, y5, y6] ∧ Same H H' ∧ H' p = some (.lst (vr rs)) ∧ H' d = some (.dK (kvsOf (Rm.goR (at' f1) (at' f2) M [] i).flatten)) ∧ HL H' rs (Rm.goR (at' f1) (at' f2) M [] i) ∧ rs.Nodup ∧ p ∉ rs ∧ ∀ r, r ∈ rs → H r = none)
      ⟨none, none, none, [], rfl, sd, by rw [upd_ne hpd, upd_same]; rfl, by rw [upd_same]; rfl, HL.nil _, .nil, by simp, by simp⟩ (fun i σ H' hi hP => ?_) (fun σ H' hP => ?_)
    · obtain ⟨y4, y5, y6, rs, rfl, sm, hp, hd, hl, hnd, hpr, hfr⟩ := hP
      rw [Int.zero_add]
      have S := Rm.goR_seen (s0 := []) IA hB ⟨.nil, by simp, by simp⟩ i (by omega)
      rw [List.nil_append] at S
      generalize hF : Rm.goR (at' f1) (at' f2) M [] i = F at *
      refine ⟨.int i, rfl, .ref d, rfl, d, _, rfl, DGet.k (k := Sum.inl (i : Int)) hd, _, rfl, ?_⟩
      rw [kvs_get]
      by_cases hm : i ∈ F.flatten
      · rw [decide_eq_true hm]
        refine iteF ⟨_, _, _, rs, rfl, sm, hp, ?_⟩
        have e : Rm.goR (at' f1) (at' f2) M [] (i + 1) = F := by
          rw [Rm.goR_succ, hF]
          exact if_pos (by simpa using hm)
        rw [e]
        exact ⟨hd, hl, hnd, hpr, hfr⟩
      rw [decide_eq_false hm]
      have e : Rm.goR (at' f1) (at' f2) M [] (i + 1) = F ++ [Rm.walk (at' f1) (at' f2) M F.flatten i []] := by
        rw [Rm.goR_succ, hF]
        unfold Rm.stepR
        rw [if_neg (by simpa using hm), List.nil_append]
      refine iteT ⟨Nat.zero_le _, fun r nr => ?_⟩
      have sr := same_new (o := .lst []) nr
      have r0 : H r = none := sm.free nr
      have hrp : r ≠ p := (ne_of_none hp nr).symm
      have hrd : r ≠ d := (ne_of_none hd nr).symm
      have hrs : r ∉ rs := fun h => by
        obtain ⟨j, hj⟩ := List.mem_iff_getElem?.mp h
        have hj2 : j < F.length := by rw [← hl.1]; exact (List.getElem?_eq_some_iff.mp hj).1
        have := hl.2 j r _ hj (List.getElem?_eq_getElem hj2)
        rw [nr] at this
        cases this
      have hds : d ∉ rs := fun h => by
        obtain ⟨j, hj⟩ := List.mem_iff_getElem?.mp h
        have hj2 : j < F.length := by rw [← hl.1]; exact (List.getElem?_eq_some_iff.mp hj).1
        have := hl.2 j d _ hj (List.getElem?_eq_getElem hj2)
        rw [hd] at this
        cases this
      have ha' := (sm.trans sr).seq ha
      have hb' := (sm.trans sr).seq hb
      have S0 : ∀ x, x ∈ [d, r] → H x = none := fun x hx => by
        simp at hx
        rcases hx with rfl | rfl
        · exact d0
        · exact r0
      refine ⟨.int i, rfl, ?_⟩
      -- while at not in seen
      refine ⟨fun m σ H'' => ∃ (x : Nat) (road : List Nat), σ = [some (.ref a), some (.ref b), some (.ref p), some (.ref d), some (.int i), some (.ref r), some (.int x)] ∧ Sx [d, r] (upd H' r (.lst [])) H'' ∧ H'' d = some (.dK (kvsOf (F.flatten ++ road))) ∧ H'' r = some (.lst (vn road)) ∧ x < M ∧ Rm.Seen (at' f1) M (F.flatten ++ road) ∧
        Rm.walk (at' f1) (at' f2) m F.flatten x road = Rm.walk (at' f1) (at' f2) M F.flatten i [] ∧ M ≤ m + (F.flatten ++ road).length,
        ⟨M, i, [], rfl, Sx.refl _ _, by rw [List.append_nil]; exact sr _ _ hd, upd_same, hi, by rw [List.append_nil]; exact S, rfl, by omega⟩, fun m σ H'' hW => ?_⟩
      obtain ⟨x, road, rfl, sx, hd2, hr2, hxM, S2, hwk, hfu⟩ := hW
      have hSm : Same H H'' := Sx.same sx (sm.trans sr) S0
      refine ⟨.int x, rfl, .ref d, rfl, d, _, rfl, DGet.k (k := Sum.inl (x : Int)) hd2, _, rfl, ?_⟩
      rw [kvs_get]
      by_cases hx : x ∈ F.flatten ++ road
      · -- the road's end
        rw [decide_eq_true hx]
        rw [Rm.walk_stop hx] at hwk
        have hp2 : H'' p = some (.lst (vr rs)) := sx _ _ (by simp [hpd, hrp.symm]) (sr _ _ hp)
        have hl2 : HL H'' rs F := HL.sx (hl.same sr) sx (fun y hy => by
          simp at hy
          rcases hy with rfl | rfl
          · exact hds
          · exact hrs)
        refine iteF ⟨.ref p, rfl, .inl ⟨rfl, _, sqL hp2⟩, .ref r, rfl, p, _, _, rfl, rfl, hp2, ?_, ?_⟩
        · rw [List.length_map, hl.1]
          have h1 := Rm.nodup_len M _ S.nd S.lt
          have h2 : F.length ≤ i := by rw [← hF]; exact Rm.goR_len (M := M) i (by omega)
          exact small63 (by omega)
        · refine ⟨_, _, _, rs ++ [r], rfl, same_upd hSm np, by rw [upd_same]; simp [vr], ?_⟩
          rw [e, Rm.flatten_snoc, ← hwk]
          refine ⟨by rw [upd_ne hpd.symm]; exact hd2, ?_, ?_, ?_, ?_⟩
          · have hl3 := HL.snoc hl2 hr2
            refine HL.sx (X := [p]) hl3 ((Sx.refl _ _).upd (by simp)) (fun y hy => ?_)
            simp at hy
            subst hy
            simp [hpr, hrp.symm]
          · rw [List.nodup_append]
            exact ⟨hnd, by simp, fun y hy z hz => by simp at hz; rw [hz]; exact fun e => hrs (e ▸ hy)⟩
          · simp [hpr, hrp.symm]
          · intro y hy
            simp at hy
            rcases hy with hy | rfl
            · exact hfr y hy
            · exact r0
      · -- a turn
        rw [decide_eq_false hx]
        obtain ⟨m', rfl⟩ := Rm.fuel_pos S2 hxM hx hfu
        rw [Rm.walk_go hx] at hwk
        have hpush := S2.push IA hxM hx
        have hax := IA.lt x hxM
        have hszl := Rm.nodup_len M _ hpush.2.nd hpush.2.lt
        rw [List.length_append, List.length_cons, List.length_cons, List.length_nil] at hszl
        have hk1 : (F.flatten ++ road).length ≤ 1000 := by omega
        have hk2 : (F.flatten ++ road ++ [x]).length ≤ 1000 := by rw [List.length_append, List.length_singleton]; omega
        have hk3 : road.length + 1 ≤ 1000 := by rw [List.length_append] at hk1 hszl; omega
        refine iteT ⟨fun σ' H3 => ∃ (x' : Nat) (road' : List Nat), σ' = [some (.ref a), some (.ref b), some (.ref p), some (.ref d), some (.int i), some (.ref r), some (.int x')] ∧ Sx [d, r] (upd H' r (.lst [])) H3 ∧ H3 d = some (.dK (kvsOf (F.flatten ++ road'))) ∧ H3 r = some (.lst (vn road')) ∧ x' < M ∧ Rm.Seen (at' f1) M (F.flatten ++ road') ∧
          Rm.walk (at' f1) (at' f2) m' F.flatten x' road' = Rm.walk (at' f1) (at' f2) M F.flatten i [] ∧ M ≤ m' + (F.flatten ++ road').length, fun σ' H3 h3 => ⟨m', Nat.lt_succ_self _, h3⟩, ?_⟩
        -- seen[at] = True
        refine ⟨.ref d, rfl, .int x, rfl, d, _, rfl, DPut.k (k := Sum.inl (x : Int)) hd2 (by rw [kvs_len]; exact small63 (by omega)), ?_⟩
        rw [kvs_put hx]
        have sx1 : Sx [d, r] (upd H' r (.lst [])) (upd H'' d (.dK (kvsOf (F.flatten ++ road ++ [x])))) := sx.upd (by simp)
        have hr3 : (upd H'' d (.dK (kvsOf (F.flatten ++ road ++ [x])))) r = some (.lst (vn road)) := by rw [upd_ne hrd]; exact hr2
        have hd3 : (upd H'' d (.dK (kvsOf (F.flatten ++ road ++ [x])))) d = some (.dK (kvsOf (F.flatten ++ road ++ [x]))) := upd_same
        generalize upd H'' d (.dK (kvsOf (F.flatten ++ road ++ [x]))) = H4 at sx1 hr3 hd3
        have ha4 := (Sx.same sx1 (sm.trans sr) S0).seq ha
        -- seen[above[at]] = True
        refine ⟨.ref d, rfl, .ref a, rfl, .int x, rfl, a, _, _, _, rfl, rfl, ha4, vn_at (by omega) rfl, d, _, rfl, DPut.k (k := Sum.inl ((at' f1 x : Nat) : Int)) hd3 (by rw [kvs_len]; exact small63 (by omega)), ?_⟩
        rw [kvs_put (by
          intro h
          rcases List.mem_append.mp h with h | h
          · exact hpush.1 h
          · simp at h
            exact IA.ne x hxM h)]
        have sx2 : Sx [d, r] (upd H' r (.lst [])) (upd H4 d (.dK (kvsOf (F.flatten ++ road ++ [x] ++ [at' f1 x])))) := sx1.upd (by simp)
        have hr4 : (upd H4 d (.dK (kvsOf (F.flatten ++ road ++ [x] ++ [at' f1 x])))) r = some (.lst (vn road)) := by rw [upd_ne hrd]; exact hr3
        have hd4 : (upd H4 d (.dK (kvsOf (F.flatten ++ road ++ [x] ++ [at' f1 x])))) d = some (.dK (kvsOf (F.flatten ++ road ++ [x] ++ [at' f1 x]))) := upd_same
        generalize upd H4 d (.dK (kvsOf (F.flatten ++ road ++ [x] ++ [at' f1 x]))) = H5 at sx2 hr4 hd4
        have ha5 := (Sx.same sx2 (sm.trans sr) S0).seq ha
        -- road.append(at)
        refine ⟨.ref r, rfl, .inl ⟨rfl, _, sqL hr4⟩, .int x, rfl, r, _, _, rfl, rfl, hr4, by rw [vn_len]; exact small63 (by omega), ?_⟩
        rw [vn_push]
        have sx3 : Sx [d, r] (upd H' r (.lst [])) (upd H5 r (.lst (vn (road ++ [x])))) := sx2.upd (by simp)
        have hr5 : (upd H5 r (.lst (vn (road ++ [x])))) r = some (.lst (vn (road ++ [x]))) := upd_same
        have hd5 : (upd H5 r (.lst (vn (road ++ [x])))) d = _ := (upd_ne hrd.symm).trans hd4
        generalize upd H5 r (.lst (vn (road ++ [x]))) = H6 at sx3 hr5 hd5
        have ha6 := (Sx.same sx3 (sm.trans sr) S0).seq ha
        -- road.append(above[at])
        refine ⟨.ref r, rfl, .inl ⟨rfl, _, sqL hr5⟩, .ref a, rfl, .int x, rfl, a, _, _, _, rfl, rfl, ha6, vn_at (by omega) rfl, r, _, _, rfl, rfl, hr5, by rw [vn_len, List.length_append, List.length_singleton]; exact small63 (by omega), ?_⟩
        rw [vn_push]
        have sx4 : Sx [d, r] (upd H' r (.lst [])) (upd H6 r (.lst (vn (road ++ [x] ++ [at' f1 x])))) := sx3.upd (by simp)
        have hr6 : (upd H6 r (.lst (vn (road ++ [x] ++ [at' f1 x])))) r = some (.lst (vn (road ++ [x] ++ [at' f1 x]))) := upd_same
        have hd6 : (upd H6 r (.lst (vn (road ++ [x] ++ [at' f1 x])))) d = _ := (upd_ne hrd.symm).trans hd5
        generalize upd H6 r (.lst (vn (road ++ [x] ++ [at' f1 x]))) = H7 at sx4 hr6 hd6
        have ha7 := (Sx.same sx4 (sm.trans sr) S0).seq ha
        have hb7 := (Sx.same sx4 (sm.trans sr) S0).seq hb
        -- at = below[above[at]]
        refine ⟨.ref b, rfl, .ref a, rfl, .int x, rfl, a, _, _, _, rfl, rfl, ha7, vn_at (by omega) rfl, b, _, _, _, rfl, rfl, hb7, vn_at (by omega) rfl, ?_⟩
        refine ⟨at' f2 (at' f1 x), road ++ [x, at' f1 x], rfl, sx4, ?_, ?_, hB _ hax, ?_, hwk, ?_⟩
        · rw [hd6]
          simp
        · rw [hr6]
          simp
        · rw [← List.append_assoc]; exact hpush.2
        · simp at hfu ⊢
          omega
    · obtain ⟨y4, y5, y6, rs, rfl, sm, hp, hd, hl, hnd, hpr, hfr⟩ := hP
      exact ⟨.ref p, rfl, q H' p rs sm np hp hl hnd hpr hfr⟩
end

end Rv

namespace Rv
open PySem PySem.Spec PyProof.Rows L2
open Rm (zs at')
/-! ### ask_size -/
abbrev s_ask_size : Stmt := topS 10
theorem sc_ask_size : FnScope ["size"] ["size"] (defScope s_ask_size) := ⟨rfl, rfl, rfl, by decide +kernel, rfl, by decide +kernel, by decide +kernel⟩
def spAskSize : Sp := fun vs H Q _ => ∃ n : Nat, vs = [.int (n : Int)] ∧ 1 ≤ n ∧ n ≤ 20 ∧ Q .non H
section
variable {P : Program} {w : World} {K : PySem.W.Frag} {mg : Str → Option Value} {base : Heap}
theorem ok_ask_size {tM : Tok} (D : Dfn K mg "ask_size" s_ask_size ["size"]) (g_MOST : mg "MOST" = some (.int 20 tM)) : Cal P w K mg base 1 "ask_size" spAskSize := by
  refine D.cal sc_ask_size (fun vs H Q E h => ?_) (fun f cdv A outer s0 H vs Q E hr h => ?_)
  · obtain ⟨n, rfl, _⟩ := h
    rfl
  · obtain ⟨n, rfl, h1, h20, q⟩ := h
    refine ⟨_, (pss_one (ps_if (pt_not (pt_chain op_le op_le pe_int (pv 0) (pe_glob (v := .int 20) (by rfl) g_MOST ⟨_, rfl⟩)))
        (pss_one (ps_never))
        pss_nil)), ?_⟩
    refine ⟨.int n, rfl, _, _, rfl, rfl, _, rfl, ?_⟩
    rw [decide_eq_true (by omega)]
    refine iteT ⟨_, _, rfl, rfl, _, rfl, ?_⟩
    rw [decide_eq_true (by omega)]
    exact iteF q
end

end Rv

namespace Rv
open PySem PySem.Spec PyProof.Rows L2
open Rm (zs at')
/-! ### straight -/
abbrev s_straight : Stmt := topS 15
theorem sc_straight : FnScope ["size", "k"] ["size"] (defScope s_straight) := ⟨rfl, rfl, rfl, by decide +kernel, rfl, by decide +kernel, by decide +kernel⟩
def strL (n : Nat) : List Nat := Rm.mkL (2 * n) (Rm.strF (2 * n))
theorem strL_arcs (n : Nat) : Rm.ArcsL n (strL n) := Rm.mkL_arcs (Rm.str_arcs n)
def spStraight : Sp := fun vs H Q _ => ∃ n : Nat, vs = [.int (n : Int)] ∧ 1 ≤ n ∧ n ≤ 20 ∧ NewL H Q (strL n)
section
variable {P : Program} {w : World} {K : PySem.W.Frag} {mg : Str → Option Value} {base : Heap}
theorem ok_straight (D : Dfn K mg "straight" s_straight ["size"]) (B : Blt mg) (c_ask_size : Cal P w K mg base 1 "ask_size" spAskSize) : Cal P w K mg base 2 "straight" spStraight := by
  refine D.cal sc_straight (fun vs H Q E h => ?_) (fun f cdv A outer s0 H vs Q E hr h => ?_)
  · obtain ⟨n, rfl, _⟩ := h
    rfl
  · obtain ⟨n, rfl, h1, h20, q⟩ := h
    refine ⟨_, (pss_cons (ps_expr (pe_c c_ask_size hr (by omega) (by rfl) (pa_cons (pv 0) pa_nil)))
      (pss_one (ps_ret (pe_lc (own := [("k", 1)]) (g := gName 1) (tt := tYes) rfl sc_straight.nd (pi_range1 (by rfl) B.range_ (pa_cons (pe_op op_mul pe_int (pv 0)) pa_nil)) (blkOk_by (N := ["size", "k"]) (sc := defScope s_straight) (by decide +kernel)) (fun _ _ _ _ _ => pg_name (i := 1) sc_straight.nd rfl (Or.inl rfl)) (fun _ _ _ _ _ => pts_nil) (fun _ _ _ _ _ => (pe_op op_sub (pe_op op_sub (pe_op op_mul pe_int (pv 0)) pe_int) (pv 1))))))), ?_⟩
    refine ⟨.int n, rfl, n, rfl, h1, h20, ?_⟩
    refine ⟨.int n, rfl, 2, n, rfl, rfl, .inl ⟨by decide, by decide⟩, _, rfl, by omega, by omega, fun p np => ?_⟩
    rw [show (2 * (n : Int)).toNat = 2 * n by omega]
    refine lc_range (lo := 0) (n := 2 * n) (fun i H' => Same H H' ∧ H' p = some (.lst (vn ((strL n).take i)))) ⟨same_new np, upd_same⟩ (fun i H' hi hP => ?_) (fun H' hP => ?_)
    · obtain ⟨sm, hp⟩ := hP
      rw [Int.zero_add]
      refine ⟨rfl, ?_⟩
      unfold tYes
      refine iteT ⟨.int n, rfl, 2, n, rfl, rfl, .inl ⟨by decide, by decide⟩, _, _, rfl, rfl, .int i, rfl, _, _, rfl, rfl, _, hp, ?_, same_upd sm np, ?_⟩
      · rw [vn_len, List.length_take]
        exact small63 (by omega)
      · rw [upd_same]
        dsimp only
        rw [show (2 * (n : Int) - 1 - (i : Int)) = ((Rm.strF (2 * n) i : Nat) : Int) by unfold Rm.strF; omega]
        exact congrArg (fun l => some (HO.lst l)) (vn_take (strL n) i _ (Rm.mkL_get hi))
    · obtain ⟨sm, hp⟩ := hP
      rw [vn_full (l := strL n) (Rm.mkL_len _ _)] at hp
      exact q H' p sm np hp
end

end Rv

namespace Rv
open PySem PySem.Spec PyProof.Rows L2
open Rm (zs at')
/-! ### closed -/
abbrev s_closed : Stmt := topS 19
theorem sc_closed : FnScope ["arcs"] ["arcs"] (defScope s_closed) := ⟨rfl, rfl, rfl, by decide +kernel, rfl, by decide +kernel, by decide +kernel⟩
def spClosed (K : PySem.W.Frag) : Sp := fun vs H Q _ => ∃ (a : Addr) (n : Nat) (fd : List Nat), vs = [.ref a] ∧ SqL K H a (vn fd) ∧ Rm.ArcsL n fd ∧ 1 ≤ n ∧ n ≤ 20 ∧ ∀ H', Same H H' → Q (.int (((Rm.roadsM (at' fd) (at' (strL n)) (2 * n)).length : Nat) : Int)) H'
section
variable {P : Program} {w : World} {K : PySem.W.Frag} {mg : Str → Option Value} {base : Heap}
theorem ok_closed (D : Dfn K mg "closed" s_closed ["arcs"]) (B : Blt mg) (c_ask : Cal P w K mg base 2 "ask" (spAsk K)) (c_roads_by : Cal P w K mg base 1 "roads_by" (spRoadsBy K)) (c_straight : Cal P w K mg base 2 "straight" spStraight) : Cal P w K mg base 3 "closed" (spClosed K) := by
  refine D.cal sc_closed (fun vs H Q E h => ?_) (fun f cdv A outer s0 H vs Q E hr h => ?_)
  · obtain ⟨a, n, fd, rfl, _⟩ := h
    rfl
  · obtain ⟨a, n, fd, rfl, ha, hA, h1, h20, q⟩ := h
    refine ⟨_, (pss_cons (ps_expr (pe_c c_ask hr (by omega) (by rfl) (pa_cons (pv 0) pa_nil)))
      (pss_one (ps_ret (pe_callB call_len_seq (by rfl) B.len_ PySem.boot_len (pa_cons (pe_c c_roads_by hr (by omega) (by rfl) (pa_cons (pv 0) (pa_cons (pe_c c_straight hr (by omega) (by rfl) (pa_cons (pe_op op_fdivN (pe_callB call_len_seq (by rfl) B.len_ PySem.boot_len (pa_cons (pv 0) pa_nil)) pe_int) pa_nil)) pa_nil))) pa_nil))))), ?_⟩
    have hl := hA.len
    refine ⟨.ref a, rfl, a, zs fd, rfl, ha, Rm.arcs_good hA h1 h20, fun H1 s1 => ?_⟩
    have ha1 := s1.seq ha
    refine ⟨.ref a, rfl, .ref a, rfl, a, _, rfl, .inl ha1, _, _, rfl, rfl, ⟨by decide, by decide⟩, n, by rw [vn_len, hl]; dsimp only; rw [fdiv2]; rfl, h1, h20, fun H2 p s2 np hp => ?_⟩
    have hS := strL_arcs n
    refine ⟨a, p, 2 * n, fd, strL n, rfl, s2.seq ha1, sqL hp, hl, hS.len, by omega, hA.arcs.inv2, hS.arcs.lt, fun H3 r rs s3 nr hr hl _ _ _ => ?_⟩
    refine ⟨r, _, rfl, .inl (sqL hr), ?_⟩
    rw [List.length_map, hl.1]
    exact q H3 ((s1.trans s2).trans s3)
end

end Rv

namespace Rv
open PySem PySem.Spec PyProof.Rows L2
open Rm (zs at')
/-! ### a list and a number in a tuple -/
theorem shaped_pr (s : List Int) (i : Int) : SeqAt.shaped (PySem.W.Datum.toD (s, i)) = true := by
  show (PyData.canLay0 (.tuple [.list (s.map PyData.int), .int i]) && decide (PyData.depth (.tuple [.list (s.map PyData.int), .int i]) ≤ 64)) = true
  have h1 : PyData.canLayAll0 (s.map PyData.int) = true := PySem.W.ke_canLayAll0 s
  have h2 : PyData.depthAll (s.map PyData.int) = 0 := PySem.W.ke_depthAll s
  simp [PyData.canLay0, PyData.canLayAll0, PyData.depth, PyData.depthAll, h1, h2]
theorem rNe_pr {K : PySem.W.Frag} {H : Hp} {a b p q : Addr} {s t : List Int} {i j : Int} {Q : VK} (ha : SqT K H a [.ref p, .int i]) (hp : SqL K H p (vi s)) (hb : SqT K H b [.ref q, .int j]) (hq : SqL K H q (vi t)) (w : Q (.bl (!decide ((s, i) = (t, j)))) H) : rNeD K (.ref a) (.ref b) H Q :=
  dNe (.tup ha (.cons (.lst hp (dp_vi s)) (.cons (.int i) .nil))) (.tup hb (.cons (.lst hq (dp_vi t)) (.cons (.int j) .nil))) (shaped_pr s i) (shaped_pr t j) w

end Rv

namespace Rv
open PySem PySem.Spec PyProof.Rows L2
open Rm (zs at')
/-! ### hook, _law_hook -/
abbrev s_hook : Stmt := topS 16
theorem sc_hook : FnScope ["size", "j", "found", "one"] ["size", "j"] (defScope s_hook) := ⟨rfl, rfl, rfl, by decide +kernel, rfl, by decide +kernel, by decide +kernel⟩
abbrev s_law_hook : Stmt := topS 24
theorem sc_law_hook : FnScope ["size", "j", "found", "first", "k"] ["size", "j"] (defScope s_law_hook) := ⟨rfl, rfl, rfl, by decide +kernel, rfl, by decide +kernel, by decide +kernel⟩
def hkL (n j : Nat) : List Nat := Rm.mkL (2 * n) (Rm.hkF n j)
theorem hkL_arcs {n j : Nat} (h : j + 1 < n) : Rm.ArcsL n (hkL n j) := Rm.mkL_arcs (Rm.hk_arcs h)
def tie2 (l : List Nat) (p : Nat) : List Nat := (l.set p (p + 1)).set (p + 1) p
def hkS (n j i : Nat) : List Nat := ([j, 2 * n - 2 - j].take i).foldl tie2 (strL n)
theorem tie2_len (l : List Nat) (p : Nat) : (tie2 l p).length = l.length := by simp [tie2]
theorem hkS_len (n j : Nat) : ∀ i, i ≤ 2 → (hkS n j i).length = 2 * n := fun i hi => by
  have : i = 0 ∨ i = 1 ∨ i = 2 := by omega
  rcases this with rfl | rfl | rfl <;> simp [hkS, tie2_len, strL, Rm.mkL]
theorem hkS_succ {n j i p : Nat} (h : [j, 2 * n - 2 - j][i]? = some p) : hkS n j (i + 1) = tie2 (hkS n j i) p := by
  unfold hkS
  rw [List.take_add_one, h, List.foldl_append]
  rfl
theorem tie2_at {l : List Nat} {p x : Nat} (h : p + 1 < l.length) : at' (tie2 l p) x = if x = p + 1 then p else if x = p then p + 1 else at' l x := by
  unfold tie2
  rw [Rm.at_set (by rw [List.length_set]; exact h), Rm.at_set (by omega)]
theorem hkS_end {n j : Nat} (h : j + 1 < n) : hkS n j 2 = hkL n j := by
  refine Rm.ext_at (by rw [hkS_len n j 2 (Nat.le_refl _)]; exact (Rm.mkL_len _ _).symm) fun x hx => ?_
  have hx : x < 2 * n := by unfold hkL at hx; rw [Rm.mkL_len] at hx; exact hx
  have hl : (strL n).length = 2 * n := Rm.mkL_len _ _
  show at' (tie2 (tie2 (strL n) j) (2 * n - 2 - j)) x = at' (hkL n j) x
  rw [tie2_at (by rw [tie2_len, hl]; omega), tie2_at (by rw [hl]; omega)]
  unfold hkL strL
  rw [Rm.mkL_at hx, Rm.mkL_at hx]
  have e : Rm.strF (2 * n) x = 2 * n - 1 - x := rfl
  have c := Rm.hk_cases n j x
  rw [e]
  split
  · omega
  · split
    · omega
    · split
      · omega
      · split <;> omega
def spHook : Sp := fun vs H Q _ => ∃ n j : Nat, vs = [.int (n : Int), .int (j : Int)] ∧ j + 1 < n ∧ n ≤ 20 ∧ NewL H Q (hkL n j)
section
variable {P : Program} {w : World} {K : PySem.W.Frag} {mg : Str → Option Value} {base : Heap}
theorem ok_hook (D : Dfn K mg "hook" s_hook ["size", "j"]) (B : Blt mg) (c_ask_size : Cal P w K mg base 1 "ask_size" spAskSize) (c_straight : Cal P w K mg base 2 "straight" spStraight) : Cal P w K mg base 3 "hook" spHook := by
  refine D.cal sc_hook (fun vs H Q E h => ?_) (fun f cdv A outer s0 H vs Q E hr h => ?_)
  · obtain ⟨n, j, rfl, _⟩ := h
    rfl
  · obtain ⟨n, j, rfl, hj, h20, q⟩ := h
    refine ⟨_, (pss_cons (ps_expr (pe_c c_ask_size hr (by omega) (by rfl) (pa_cons (pv 0) pa_nil)))
      (pss_cons (ps_if (pt_not (pt_chain op_le op_le pe_int (pv 1) (pe_op op_sub (pv 0) pe_int)))
        (pss_one (ps_never))
        pss_nil)
      (pss_cons (ps_set (i := 2) sc_hook.nd rfl (.inl rfl) (pe_c c_straight hr (by omega) (by rfl) (pa_cons (pv 0) pa_nil)))
      (pss_cons (ps_for PassesOwn.never rfl (pi_tup (pe_tup (pa_cons (pv 1) (pa_cons (pe_op op_sub (pe_op op_sub (pe_op op_mul pe_int (pv 0)) pe_int) (pv 1)) pa_nil)))) (pg_name (i := 3) sc_hook.nd rfl (.inl rfl))
        (pss_cons (ps_asg (pe_op op_add (pv 3) pe_int) (pg_sub (pv 2) (pv 3) set_list))
        (pss_one (ps_asg (pv 3) (pg_sub (pv 2) (pe_op op_add (pv 3) pe_int) set_list)))))
      (pss_one (ps_ret (pv 2))))))), ?_⟩
    refine ⟨.int n, rfl, n, rfl, by omega, h20, ?_⟩
    refine ⟨.int j, rfl, _, _, rfl, rfl, _, rfl, ?_⟩
    rw [decide_eq_true (by omega)]
    refine iteT ⟨.int n, rfl, _, _, rfl, rfl, _, _, rfl, rfl, _, rfl, ?_⟩
    rw [decide_eq_true (by omega)]
    refine iteF ⟨.int n, rfl, n, rfl, by omega, h20, fun H1 p s1 np hp => ?_⟩
    refine ⟨.int j, rfl, .int n, rfl, _, _, rfl, rfl, .inl ⟨by decide, by decide⟩, _, _, rfl, rfl, .int j, rfl, _, _, rfl, rfl, by show 2 ≤ sizeLine; decide, fun t nt => ?_⟩
    have ev : [V.int (j : Int), (fun i j => V.int (i - j)) ((2 : Int) * n - 2) (j : Int)] = vn [j, 2 * n - 2 - j] := by
      show [V.int (j : Int), V.int ((2 : Int) * n - 2 - j)] = [V.int (j : Int), V.int ((2 * n - 2 - j : Nat) : Int)]
      rw [show (2 : Int) * n - 2 - j = ((2 * n - 2 - j : Nat) : Int) by omega]
    rw [ev]
    have st := same_new (o := .tup (vn [j, 2 * n - 2 - j])) nt
    have hp1 := st _ _ hp
    have ht1 : (upd H1 t (.tup (vn [j, 2 * n - 2 - j]))) t = some (.tup (vn [j, 2 * n - 2 - j])) := upd_same
    have sm1 := s1.trans st
    have htp : t ≠ p := (ne_of_none hp nt).symm
    generalize upd H1 t (.tup (vn [j, 2 * n - 2 - j])) = H2 at hp1 ht1 sm1
    refine ⟨t, rfl, ⟨_, sqT ht1⟩, for_tup (xs := vn [j, 2 * n - 2 - j]) (fun i σ H' => ∃ y3 : Option V, σ = [some (.int (n : Int)), some (.int (j : Int)), some (.ref p), y3] ∧ Same H H' ∧ H' t = some (.tup (vn [j, 2 * n - 2 - j])) ∧ H' p = some (.lst (vn (hkS n j i))))
      ⟨none, rfl, sm1, ht1, hp1⟩ (fun i σ H' _ h => ?_) (fun i v σ H' hi h => ?_) (fun σ H' h => ?_)⟩
    · obtain ⟨_, _, _, h3, _⟩ := h
      exact sqT h3
    · obtain ⟨y3, rfl, sm, ht, hp⟩ := h
      have hi2 : i < 2 := by
        have := (List.getElem?_eq_some_iff.mp hi).1
        simpa [vn] using this
      obtain ⟨x, hx, rfl⟩ : ∃ x, [j, 2 * n - 2 - j][i]? = some x ∧ V.int (x : Nat) = v := by
        have h01 : i = 0 ∨ i = 1 := by omega
        rcases h01 with rfl | rfl
        · exact ⟨_, rfl, Option.some.inj hi⟩
        · exact ⟨_, rfl, Option.some.inj hi⟩
      have hxl : x + 1 < 2 * n := by
        have h01 : i = 0 ∨ i = 1 := by omega
        rcases h01 with rfl | rfl
        · have := Option.some.inj hx; omega
        · have := Option.some.inj hx; omega
      have hl := hkS_len n j i (by omega)
      refine ⟨.int x, rfl, _, _, rfl, rfl, .ref p, rfl, .int x, rfl, p, _, _, x, rfl, rfl, hp, ixN_nat (by rw [vn_len, hl]; omega), ?_⟩
      rw [show (fun i j => V.int (i + j)) (x : Int) 1 = V.int ((x + 1 : Nat) : Int) from rfl, vn_set]
      have hp2 : (upd H' p (.lst (vn ((hkS n j i).set x (x + 1))))) p = _ := upd_same
      have ht2 : (upd H' p (.lst (vn ((hkS n j i).set x (x + 1))))) t = _ := (upd_ne htp).trans ht
      have sm2 := same_upd (o := .lst (vn ((hkS n j i).set x (x + 1)))) sm np
      generalize upd H' p (.lst (vn ((hkS n j i).set x (x + 1)))) = H3 at hp2 ht2 sm2
      refine ⟨.int x, rfl, .ref p, rfl, .int x, rfl, _, _, rfl, rfl, p, _, _, x + 1, rfl, rfl, hp2, ?_, ?_⟩
      · show ixN _ ((x : Int) + 1) = some (x + 1)
        rw [show (x : Int) + 1 = ((x + 1 : Nat) : Int) by omega]
        exact ixN_nat (by rw [vn_len, List.length_set, hl]; omega)
      · rw [vn_set]
        refine ⟨_, rfl, same_upd sm2 np, (upd_ne htp).trans ht2, ?_⟩
        rw [upd_same, hkS_succ hx]
        rfl
    · obtain ⟨y3, rfl, sm, ht, hp⟩ := h
      refine ⟨.ref p, rfl, q H' p sm np ?_⟩
      rw [← hkS_end hj]
      exact hp
theorem ok_law_hook (D : Dfn K mg "_law_hook" s_law_hook ["size", "j"]) (B : Blt mg) : Cal P w K mg base 1 "_law_hook" spHook := by
  refine D.cal sc_law_hook (fun vs H Q E h => ?_) (fun f cdv A outer s0 H vs Q E hr h => ?_)
  · obtain ⟨n, j, rfl, _⟩ := h
    rfl
  · obtain ⟨n, j, rfl, hj, h20, q⟩ := h
    refine ⟨_, (pss_cons (ps_setLc (i := 2) (own := [("k", 4)]) (g := gName 4) (tt := tYes) rfl sc_law_hook.nd rfl rfl (sw_true rfl rfl rfl (by decide +kernel)) (pi_range1 (by rfl) B.range_ (pa_cons (pe_op op_mul pe_int (pv 0)) pa_nil)) (blkOk_by (N := ["size", "j", "found", "first", "k"]) (sc := defScope s_law_hook) (by decide +kernel)) (fun _ _ _ _ _ => pg_name (i := 4) sc_law_hook.nd rfl (Or.inl rfl)) (fun _ _ _ _ _ => pts_nil) (fun _ _ _ _ _ => (pe_op op_sub (pe_op op_sub (pe_op op_mul pe_int (pv 0)) pe_int) (pv 4))))
      (pss_cons (ps_for PassesOwn.never rfl (pi_tup (pe_tup (pa_cons (pv 1) (pa_cons (pe_op op_sub (pe_op op_sub (pe_op op_mul pe_int (pv 0)) pe_int) (pv 1)) pa_nil)))) (pg_name (i := 3) sc_law_hook.nd rfl (.inl rfl))
        (pss_cons (ps_asg (pe_op op_add (pv 3) pe_int) (pg_sub (pv 2) (pv 3) set_list))
        (pss_one (ps_asg (pv 3) (pg_sub (pv 2) (pe_op op_add (pv 3) pe_int) set_list)))))
      (pss_one (ps_ret (pv 2))))), ?_⟩
    refine ⟨.int n, rfl, _, _, rfl, rfl, .inl ⟨by decide, by decide⟩, _, rfl, by omega, by omega, fun p np => ?_⟩
    rw [show (2 * (n : Int)).toNat = 2 * n by omega]
    refine lc_range (lo := 0) (n := 2 * n) (fun i H' => Same H H' ∧ H' p = some (.lst (vn ((strL n).take i)))) ⟨same_new np, upd_same⟩ (fun i H' hi hP => ?_) (fun H1 hP => ?_)
    · obtain ⟨sm, hp⟩ := hP
      rw [Int.zero_add]
      refine ⟨rfl, ?_⟩
      unfold tYes
      refine iteT ⟨.int n, rfl, 2, n, rfl, rfl, .inl ⟨by decide, by decide⟩, _, _, rfl, rfl, .int i, rfl, _, _, rfl, rfl, _, hp, ?_, same_upd sm np, ?_⟩
      · rw [vn_len, List.length_take]
        exact small63 (by omega)
      · rw [upd_same]
        dsimp only
        rw [show (2 * (n : Int) - 1 - (i : Int)) = ((Rm.strF (2 * n) i : Nat) : Int) by unfold Rm.strF; omega]
        exact congrArg (fun l => some (HO.lst l)) (vn_take (strL n) i _ (Rm.mkL_get hi))
    obtain ⟨s1, hp⟩ := hP
    rw [vn_full (l := strL n) (Rm.mkL_len _ _)] at hp
    refine ⟨.int j, rfl, .int n, rfl, _, _, rfl, rfl, .inl ⟨by decide, by decide⟩, _, _, rfl, rfl, .int j, rfl, _, _, rfl, rfl, by show 2 ≤ sizeLine; decide, fun t nt => ?_⟩
    have ev : [V.int (j : Int), (fun i j => V.int (i - j)) ((2 : Int) * n - 2) (j : Int)] = vn [j, 2 * n - 2 - j] := by
      show [V.int (j : Int), V.int ((2 : Int) * n - 2 - j)] = [V.int (j : Int), V.int ((2 * n - 2 - j : Nat) : Int)]
      rw [show (2 : Int) * n - 2 - j = ((2 * n - 2 - j : Nat) : Int) by omega]
    rw [ev]
    have st := same_new (o := .tup (vn [j, 2 * n - 2 - j])) nt
    have hp1 := st _ _ hp
    have ht1 : (upd H1 t (.tup (vn [j, 2 * n - 2 - j]))) t = some (.tup (vn [j, 2 * n - 2 - j])) := upd_same
    have sm1 := s1.trans st
    have htp : t ≠ p := (ne_of_none hp nt).symm
    generalize upd H1 t (.tup (vn [j, 2 * n - 2 - j])) = H2 at hp1 ht1 sm1
    refine ⟨t, rfl, ⟨_, sqT ht1⟩, for_tup (xs := vn [j, 2 * n - 2 - j]) (fun i σ H' => ∃ y3 : Option V, σ = [some (.int (n : Int)), some (.int (j : Int)), some (.ref p), y3, none] ∧ Same H H' ∧ H' t = some (.tup (vn [j, 2 * n - 2 - j])) ∧ H' p = some (.lst (vn (hkS n j i))))
      ⟨none, rfl, sm1, ht1, hp1⟩ (fun i σ H' _ h => ?_) (fun i v σ H' hi h => ?_) (fun σ H' h => ?_)⟩
    · obtain ⟨_, _, _, h3, _⟩ := h
      exact sqT h3
    · obtain ⟨y3, rfl, sm, ht, hp⟩ := h
      have hi2 : i < 2 := by
        have := (List.getElem?_eq_some_iff.mp hi).1
        simpa [vn] using this
      obtain ⟨x, hx, rfl⟩ : ∃ x, [j, 2 * n - 2 - j][i]? = some x ∧ V.int (x : Nat) = v := by
        have h01 : i = 0 ∨ i = 1 := by omega
        rcases h01 with rfl | rfl
        · exact ⟨_, rfl, Option.some.inj hi⟩
        · exact ⟨_, rfl, Option.some.inj hi⟩
      have hxl : x + 1 < 2 * n := by
        have h01 : i = 0 ∨ i = 1 := by omega
        rcases h01 with rfl | rfl
        · have := Option.some.inj hx; omega
        · have := Option.some.inj hx; omega
      have hl := hkS_len n j i (by omega)
      refine ⟨.int x, rfl, _, _, rfl, rfl, .ref p, rfl, .int x, rfl, p, _, _, x, rfl, rfl, hp, ixN_nat (by rw [vn_len, hl]; omega), ?_⟩
      rw [show (fun i j => V.int (i + j)) (x : Int) 1 = V.int ((x + 1 : Nat) : Int) from rfl, vn_set]
      have hp2 : (upd H' p (.lst (vn ((hkS n j i).set x (x + 1))))) p = _ := upd_same
      have ht2 : (upd H' p (.lst (vn ((hkS n j i).set x (x + 1))))) t = _ := (upd_ne htp).trans ht
      have sm2 := same_upd (o := .lst (vn ((hkS n j i).set x (x + 1)))) sm np
      generalize upd H' p (.lst (vn ((hkS n j i).set x (x + 1)))) = H3 at hp2 ht2 sm2
      refine ⟨.int x, rfl, .ref p, rfl, .int x, rfl, _, _, rfl, rfl, p, _, _, x + 1, rfl, rfl, hp2, ?_, ?_⟩
      · show ixN _ ((x : Int) + 1) = some (x + 1)
        rw [show (x : Int) + 1 = ((x + 1 : Nat) : Int) by omega]
        exact ixN_nat (by rw [vn_len, List.length_set, hl]; omega)
      · rw [vn_set]
        refine ⟨_, rfl, same_upd sm2 np, (upd_ne htp).trans ht2, ?_⟩
        rw [upd_same, hkS_succ hx]
        rfl
    · obtain ⟨y3, rfl, sm, ht, hp⟩ := h
      refine ⟨.ref p, rfl, q H' p sm np ?_⟩
      rw [← hkS_end hj]
      exact hp
end

end Rv

namespace Rv
open PySem PySem.Spec PyProof.Rows L2
open Rm (zs at')
/-! ### the law -/
abbrev s_law : Stmt := topS 25
theorem sc_law : FnScope ["script", "size", "j", "i", "one", "other", "both", "k"] ["script"] (defScope s_law) := ⟨rfl, rfl, rfl, by decide +kernel, rfl, by decide +kernel, by decide +kernel⟩
section
variable {P : Program} {w : World} {K : PySem.W.Frag} {mg : Str → Option Value} {base : Heap}
theorem ok_law {f : Addr} {fd : FuncData} (F : Fun K "law" "law" s_law f fd) (B : Blt mg) (c_law_cell_at : Cal P w K mg base 1 "_law_cell_at" (spCell K)) (c_hook : Cal P w K mg base 3 "hook" spHook) (c_law_hook : Cal P w K mg base 1 "_law_hook" spHook)
    (c_laid : Cal P w K mg base 4 "laid" (spLaid K)) (c_straight : Cal P w K mg base 2 "straight" spStraight) (c_closed : Cal P w K mg base 3 "closed" (spClosed K))
    (c_law_numbers : Cal P w K mg base 2 "_law_numbers" (spNumbers K)) :
    FnOk P w K mg base CX0 6 f fd ["script"] (spLaw K) := by
  refine F.ok sc_law (fun vs H Q E h => ?_) (fun cdv A outer s0 H vs Q E hr h => ?_)
  · obtain ⟨a, ns, rfl, _⟩ := h
    rfl
  · obtain ⟨a, ns, rfl, hS, h63, q⟩ := h
    refine ⟨_, (C8.pss_cut (ps_set (i := 1) sc_law.nd rfl (.inr rfl) (pe_op op_add pe_int (pe_op op_modN (pe_c c_law_cell_at hr (by omega) (by rfl) (pa_cons (pv 0) (pa_cons pe_int pa_nil))) pe_int)))
      (C8.pss_cut (ps_set (i := 2) sc_law.nd rfl (.inl rfl) (pe_op op_modN (pe_c c_law_cell_at hr (by omega) (by rfl) (pa_cons (pv 0) (pa_cons pe_int pa_nil))) (pe_op op_sub (pv 1) pe_int)))
      (C8.pss_cut (ps_set (i := 3) sc_law.nd rfl (.inl rfl) (pe_op op_modN (pe_c c_law_cell_at hr (by omega) (by rfl) (pa_cons (pv 0) (pa_cons pe_int pa_nil))) (pe_op op_sub (pv 1) pe_int)))
      (pss_cons (ps_if (pt_not (pt_val (pe_c c_law_numbers hr (by omega) (by rfl) (pa_cons (pe_c c_straight hr (by omega) (by rfl) (pa_cons (pv 1) pa_nil)) (pa_cons (pe_lc (own := [("k", 7)]) (g := gName 7) (tt := tYes) rfl sc_law.nd (pi_range1 (by rfl) B.range_ (pa_cons (pe_op op_mul pe_int (pv 1)) pa_nil)) (blkOk_by (N := ["script", "size", "j", "i", "one", "other", "both", "k"]) (sc := defScope s_law) (by decide +kernel)) (fun _ _ _ _ _ => pg_name (i := 7) sc_law.nd rfl (Or.inl rfl)) (fun _ _ _ _ _ => pts_nil) (fun _ _ _ _ _ => (pe_op op_sub (pe_op op_sub (pe_op op_mul pe_int (pv 1)) pe_int) (pv 7)))) pa_nil)))))
        (pss_one (ps_ret pe_bl))
        pss_nil)
      (pss_cons (ps_set (i := 4) sc_law.nd rfl (.inl rfl) (pe_c c_hook hr (by omega) (by rfl) (pa_cons (pv 1) (pa_cons (pv 2) pa_nil))))
      (pss_cons (ps_set (i := 5) sc_law.nd rfl (.inl rfl) (pe_c c_hook hr (by omega) (by rfl) (pa_cons (pv 1) (pa_cons (pv 3) pa_nil))))
      (pss_cons (ps_if (PW.pt (pw_or (pt_not (pt_val (pe_c c_law_numbers hr (by omega) (by rfl) (pa_cons (pv 4) (pa_cons (pe_c c_law_hook hr (by omega) (by rfl) (pa_cons (pv 1) (pa_cons (pv 2) pa_nil))) pa_nil))))) (pw_or1 (pt_not (pt_val (pe_c c_law_numbers hr (by omega) (by rfl) (pa_cons (pv 5) (pa_cons (pe_c c_law_hook hr (by omega) (by rfl) (pa_cons (pv 1) (pa_cons (pv 3) pa_nil))) pa_nil))))))))
        (pss_one (ps_ret pe_bl))
        pss_nil)
      (pss_cons (ps_if (pt_cmpR (op_neD (hu64 hr)) (pe_c c_laid hr (by omega) (by rfl) (pa_cons (pv 4) (pa_cons (pv 4) pa_nil))) (pe_tup (pa_cons (pv 4) (pa_cons pe_int pa_nil))) (nomark _))
        (pss_one (ps_ret pe_bl))
        pss_nil)
      (pss_cons (ps_set (i := 6) sc_law.nd rfl (.inl rfl) (pe_c c_laid hr (by omega) (by rfl) (pa_cons (pv 4) (pa_cons (pv 5) pa_nil))))
      (C8.pss_cut (ps_if (PW.pt (pw_and (pt_cmpR op_eq (pe_callB call_abs (by rfl) B.abs_ (by decide +kernel) (pa_cons (pe_op op_sub (pv 3) (pv 2)) pa_nil)) pe_int (nomark _)) (pw_and1 (PW.pt (pw_or (pt_cmpR op_ne (pe_ix ix_tup (pv 6) pe_int (fun _ _ => rfl)) pe_int (nomark _)) (pw_or1 (pt_cmpR (op_neD (hu64 hr)) (pe_c c_laid hr (by omega) (by rfl) (pa_cons (pe_ix ix_tup (pv 6) pe_int (fun _ _ => rfl)) (pa_cons (pv 4) pa_nil))) (pe_tup (pa_cons (pv 4) (pa_cons pe_int pa_nil))) (nomark _))))))))
        (pss_one (ps_ret pe_bl))
        pss_nil)
      (C8.pss_cut (ps_if (PW.pt (pw_and (pt_cmpR op_gt (pe_callB call_abs (by rfl) B.abs_ (by decide +kernel) (pa_cons (pe_op op_sub (pv 3) (pv 2)) pa_nil)) pe_int (nomark _)) (pw_and1 (PW.pt (pw_or (pt_cmpR op_ne (pe_ix ix_tup (pv 6) pe_int (fun _ _ => rfl)) pe_int (nomark _)) (pw_or1 (pt_cmpR (op_neD (hu64 hr)) (pv 6) (pe_c c_laid hr (by omega) (by rfl) (pa_cons (pv 5) (pa_cons (pv 4) pa_nil))) (nomark _))))))))
        (pss_one (ps_ret pe_bl))
        pss_nil)
      (pss_one (ps_ret (pe_and (pe_cmpR op_eq (pe_c c_closed hr (by omega) (by rfl) (pa_cons (pe_c c_straight hr (by omega) (by rfl) (pa_cons (pv 1) pa_nil)) pa_nil)) (pv 1) (nomark _)) (pe_one (pe_cmpR op_eq (pe_c c_closed hr (by omega) (by rfl) (pa_cons (pv 4) pa_nil)) (pe_op op_sub (pv 1) pe_int) (nomark _))))))))))))))))), ?_⟩
    -- size
    refine ⟨fun σ H' => ∃ n : Nat, σ = [some (.ref a), some (.int (n : Int)), none, none, none, none, none, none] ∧ H = H' ∧ 2 ≤ n ∧ n ≤ 20, ?_, ?_⟩
    · refine ⟨.ref a, rfl, a, ns, 0, rfl, hS, by decide, fun c => ⟨_, _, rfl, rfl, (show (19 : Int) ≠ 0 by decide), _, _, rfl, rfl, ?_⟩⟩
      have h0 := Int.fmod_nonneg_of_pos c (show (0 : Int) < 19 by decide)
      have h1 := Int.fmod_lt_of_pos c (show (0 : Int) < 19 by decide)
      have e : (2 : Int) + c.fmod 19 = (((2 : Int) + c.fmod 19).toNat : Int) := by omega
      exact ⟨((2 : Int) + c.fmod 19).toNat, by rw [← e]; rfl, rfl, by omega, by omega⟩
    rintro σ1 H0 ⟨n, rfl, rfl, h2, h20⟩
    -- j, i
    refine ⟨fun σ H' => ∃ j : Nat, σ = [some (.ref a), some (.int (n : Int)), some (.int (j : Int)), none, none, none, none, none] ∧ H = H' ∧ j + 1 < n, ?_, ?_⟩
    · refine ⟨.ref a, rfl, a, ns, 1, rfl, hS, by decide, fun c => ⟨.int n, rfl, _, _, rfl, rfl, _, _, rfl, rfl, (show (n : Int) - 1 ≠ 0 by omega), ?_⟩⟩
      have h0 := Int.fmod_nonneg_of_pos c (show (0 : Int) < n - 1 by omega)
      have h1 := Int.fmod_lt_of_pos c (show (0 : Int) < n - 1 by omega)
      have e : c.fmod ((n : Int) - 1) = ((c.fmod ((n : Int) - 1)).toNat : Int) := by omega
      exact ⟨(c.fmod ((n : Int) - 1)).toNat, by rw [← e]; rfl, rfl, by omega⟩
    rintro σ1 H0 ⟨j, rfl, rfl, hj⟩
    refine ⟨fun σ H' => ∃ i : Nat, σ = [some (.ref a), some (.int (n : Int)), some (.int (j : Int)), some (.int (i : Int)), none, none, none, none] ∧ H = H' ∧ i + 1 < n, ?_, ?_⟩
    · refine ⟨.ref a, rfl, a, ns, 2, rfl, hS, by decide, fun c => ⟨.int n, rfl, _, _, rfl, rfl, _, _, rfl, rfl, (show (n : Int) - 1 ≠ 0 by omega), ?_⟩⟩
      have h0 := Int.fmod_nonneg_of_pos c (show (0 : Int) < n - 1 by omega)
      have h1 := Int.fmod_lt_of_pos c (show (0 : Int) < n - 1 by omega)
      have e : c.fmod ((n : Int) - 1) = ((c.fmod ((n : Int) - 1)).toNat : Int) := by omega
      exact ⟨(c.fmod ((n : Int) - 1)).toNat, by rw [← e]; rfl, rfl, by omega⟩
    rintro σ1 H0 ⟨i, rfl, rfl, hi⟩
    have eP : ∀ k, k < 2 * n → at' (strL n) k = Rm.strF (2 * n) k := fun k hk => Rm.mkL_at hk
    have eH : ∀ j k, k < 2 * n → at' (hkL n j) k = Rm.hkF n j k := fun j k hk => Rm.mkL_at hk
    have hJ := hkL_arcs hj
    have hI := hkL_arcs hi
    -- straight(size)
    refine ⟨.int n, rfl, n, rfl, by omega, h20, fun H1 p0 s1 np0 hp0 => ?_⟩
    refine ⟨.int n, rfl, _, _, rfl, rfl, .inl ⟨by decide, by decide⟩, _, rfl, by omega, by omega, fun p np => ?_⟩
    rw [show (2 * (n : Int)).toNat = 2 * n by omega]
    refine lc_range (lo := 0) (n := 2 * n) (fun i H' => Same H1 H' ∧ H' p = some (.lst (vn ((strL n).take i)))) ⟨same_new np, upd_same⟩ (fun i H' hi hP => ?_) (fun H2 hP => ?_)
    · obtain ⟨sm, hp⟩ := hP
      rw [Int.zero_add]
      refine ⟨rfl, ?_⟩
      unfold tYes
      refine iteT ⟨.int n, rfl, 2, n, rfl, rfl, .inl ⟨by decide, by decide⟩, _, _, rfl, rfl, .int i, rfl, _, _, rfl, rfl, _, hp, ?_, same_upd sm np, ?_⟩
      · rw [vn_len, List.length_take]
        exact small63 (by omega)
      · rw [upd_same]
        dsimp only
        rw [show (2 * (n : Int) - 1 - (i : Int)) = ((Rm.strF (2 * n) i : Nat) : Int) by unfold Rm.strF; omega]
        exact congrArg (fun l => some (HO.lst l)) (vn_take (strL n) i _ (Rm.mkL_get hi))
    obtain ⟨s2, hp⟩ := hP
    rw [vn_full (l := strL n) (Rm.mkL_len _ _)] at hp
    refine ⟨p0, p, zs (strL n), zs (strL n), rfl, s2 _ _ hp0, sqL hp, fun _ => ?_, fun ne => absurd rfl ne⟩
    refine ⟨true, rfl, iteF ?_⟩
    -- one, other
    refine ⟨.int n, rfl, .int j, rfl, n, j, rfl, hj, h20, fun H3 p1 s3 np1 hp1 => ?_⟩
    refine ⟨.int n, rfl, .int i, rfl, n, i, rfl, hi, h20, fun H4 p2 s4 np2 hp2 => ?_⟩
    have hp1 := s4 _ _ hp1
    refine ⟨.ref p1, rfl, .int n, rfl, .int j, rfl, n, j, rfl, hj, h20, fun H5 x5 s5 nx5 hx5 => ?_⟩
    refine ⟨p1, x5, zs (hkL n j), zs (hkL n j), rfl, s5 _ _ hp1, sqL hx5, fun _ => ?_, fun ne => absurd rfl ne⟩
    refine ⟨true, rfl, iteF ⟨.ref p2, rfl, .int n, rfl, .int i, rfl, n, i, rfl, hi, h20, fun H6 x6 s6 nx6 hx6 => ?_⟩⟩
    refine ⟨p2, x6, zs (hkL n i), zs (hkL n i), rfl, s6 _ _ (s5 _ _ hp2), sqL hx6, fun _ => ?_, fun ne => absurd rfl ne⟩
    refine ⟨true, rfl, iteF ?_⟩
    have hp1 := s6 _ _ (s5 _ _ hp1)
    have hp2 := s6 _ _ (s5 _ _ hp2)
    -- laid(one, one)
    refine ⟨.ref p1, rfl, .ref p1, rfl, p1, p1, n, hkL n j, hkL n j, rfl, sqL hp1, sqL hp1, hJ, hJ, by omega, h20, fun H7 t7 q7 f7 r7 s7 nt7 nq7 ht7 hq7 hf7 L7 hr7 => ?_⟩
    have AJ := Rm.hk_arcs hj
    have AI := Rm.hk_arcs hi
    have extL : ∀ {f g : List Nat}, Rm.ArcsL n f → Rm.ArcsL n g → (∀ x, x < 2 * n → at' f x = at' g x) → f = g := fun hf hg h => Rm.ext_at (by rw [hf.len, hg.len]) fun x hx => h x (by rw [hg.len] at hx; exact hx)
    obtain ⟨e7, rfl⟩ := Rm.hk_self hj ((L7.lyr hJ.arcs hJ.arcs).congr (eH j) (eH j))
    obtain rfl : f7 = hkL n j := extL hf7 hJ fun x hx => by rw [e7 x hx, eH j x hx]
    refine ⟨.ref p1, rfl, by show 2 ≤ sizeLine; decide, fun z nz => ?_⟩
    have sz := same_new (o := .tup [.ref p1, .int 1]) nz
    refine rNe_pr (sqT (sz _ _ ht7)) (sqL (sz _ _ hq7)) (sqT upd_same) (sqL (sz _ _ (s7 _ _ hp1))) (j := 1) ⟨_, rfl, ?_⟩
    rw [decide_eq_true (by rfl)]
    have s7' := s7.trans sz
    have hp1 := s7' _ _ hp1
    have hp2 := s7' _ _ hp2
    generalize upd H7 z (.tup [.ref p1, .int 1]) = H8 at s7' hp1 hp2
    -- both
    refine iteF ⟨.ref p1, rfl, .ref p2, rfl, p1, p2, n, hkL n j, hkL n i, rfl, sqL hp1, sqL hp2, hJ, hI, by omega, h20, fun H9 t q9 f9 r9 s9 nt nq9 ht hq9 hf9 L9 hr9 => ?_⟩
    have hp1 := s9 _ _ hp1
    have hp2 := s9 _ _ hp2
    have Y9 := (L9.lyr hJ.arcs hI.arcs).congr (eH j) (eH i)
    -- neighbours
    refine ⟨fun σ H' => σ = [some (.ref a), some (.int (n : Int)), some (.int (j : Int)), some (.int (i : Int)), some (.ref p1), some (.ref p2), some (.ref t), none] ∧ Same H9 H', ?_, ?_⟩
    · refine ⟨.int i, rfl, .int j, rfl, _, _, rfl, rfl, _, rfl, rfl, _, rfl, ?_⟩
      by_cases c : i = j + 1 ∨ j = i + 1
      · obtain ⟨t', m, s, N⟩ : ∃ t' m s, Rm.Nb n j i t' m s := by
          rcases c with c | c
          · exact ⟨j, j + 1, i + 1, hj, hi, .inl ⟨rfl, rfl⟩, .inr ⟨rfl, c.symm⟩, by omega⟩
          · exact ⟨j + 1, j, i, hj, hi, .inr ⟨rfl, rfl⟩, .inl ⟨rfl, c⟩, by omega⟩
        rw [decide_eq_true (by exact congrArg V.int (by split <;> omega))]
        obtain ⟨e9, rfl⟩ := Rm.nb_first N Y9
        refine iteT ⟨.ref t, rfl, t, _, 1, _, rfl, rfl, sqT ht, rfl, rfl, _, rfl, ?_⟩
        rw [decide_eq_true (by rfl)]
        refine iteF ⟨.ref t, rfl, t, _, 0, .ref q9, rfl, rfl, sqT ht, rfl, .ref p1, rfl, q9, p1, n, f9, hkL n j, rfl, sqL hq9, sqL hp1, hf9, hJ, by omega, h20, fun H10 t10 q10 f10 r10 s10 nt10 nq10 ht10 hq10 hf10 L10 hr10 => ?_⟩
        obtain ⟨e10, rfl⟩ := Rm.nb_again N e9 ((L10.lyr hf9.arcs hJ.arcs).congr (fun _ _ => rfl) (eH j))
        obtain rfl : f10 = hkL n j := extL hf10 hJ fun x hx => by rw [e10 x hx, eH j x hx]
        refine ⟨.ref p1, rfl, by show 2 ≤ sizeLine; decide, fun z nz => ?_⟩
        have sz := same_new (o := .tup [.ref p1, .int 0]) nz
        refine rNe_pr (sqT (sz _ _ ht10)) (sqL (sz _ _ hq10)) (sqT upd_same) (sqL (sz _ _ (s10 _ _ hp1))) (j := 0) ⟨_, rfl, ?_⟩
        rw [decide_eq_true (by rfl)]
        exact iteF ⟨rfl, s10.trans sz⟩
      · rw [decide_eq_false (fun z => c (by have := V.int.inj z; split at this <;> omega))]
        exact iteF ⟨rfl, Same.refl _⟩
    rintro σ9 H10 ⟨rfl, s10⟩
    have hp1 := s10 _ _ hp1
    have hp2 := s10 _ _ hp2
    have ht := s10 _ _ ht
    have hq9 := s10 _ _ hq9
    -- apart
    refine ⟨fun σ H' => σ = [some (.ref a), some (.int (n : Int)), some (.int (j : Int)), some (.int (i : Int)), some (.ref p1), some (.ref p2), some (.ref t), none] ∧ Same H10 H', ?_, ?_⟩
    · refine ⟨.int i, rfl, .int j, rfl, _, _, rfl, rfl, _, rfl, _, _, rfl, rfl, _, rfl, ?_⟩
      by_cases c : i = j ∨ i = j + 1 ∨ j = i + 1
      · rw [decide_eq_false (by split <;> omega)]
        exact iteF ⟨rfl, Same.refl _⟩
      · rw [decide_eq_true (by split <;> omega)]
        obtain ⟨e9, rfl⟩ := Rm.tw_all hj hi (by omega) (by omega) (by omega) Y9
        refine iteT ⟨.ref t, rfl, t, _, 1, _, rfl, rfl, sqT ht, rfl, rfl, _, rfl, ?_⟩
        rw [decide_eq_true (by rfl)]
        refine iteF ⟨.ref t, rfl, .ref p2, rfl, .ref p1, rfl, p2, p1, n, hkL n i, hkL n j, rfl, sqL hp2, sqL hp1, hI, hJ, by omega, h20, fun H11 t11 q11 f11 r11 s11 nt11 nq11 ht11 hq11 hf11 L11 hr11 => ?_⟩
        obtain ⟨e11, rfl⟩ := Rm.tw_all hi hj (by omega) (by omega) (by omega) ((L11.lyr hI.arcs hJ.arcs).congr (eH i) (eH j))
        obtain rfl : f11 = f9 := extL hf11 hf9 fun x hx => by rw [e11 x hx, e9 x hx, Rm.tw_swap hj hi (by omega) (by omega) (by omega) x hx]
        refine rNe_pr (sqT (s11 _ _ ht)) (sqL (s11 _ _ hq9)) (sqT ht11) (sqL hq11) ⟨_, rfl, ?_⟩
        rw [decide_eq_true (by rfl)]
        exact iteF ⟨rfl, s11⟩
    rintro σ11 H11 ⟨rfl, s11⟩
    have hp1 := s11 _ _ hp1
    -- closed round
    refine ⟨.int n, rfl, n, rfl, by omega, h20, fun H12 p12 s12 np12 hp12 => ?_⟩
    refine ⟨p12, n, strL n, rfl, sqL hp12, strL_arcs n, by omega, h20, fun H13 s13 => ?_⟩
    rw [Rm.cl_straight eP eP]
    refine ⟨.int n, rfl, rfl, _, rfl, ?_⟩
    rw [decide_eq_true rfl]
    refine iteT ⟨.ref p1, rfl, p1, n, hkL n j, rfl, sqL (s13 _ _ (s12 _ _ hp1)), hJ, by omega, h20, fun H14 s14 => ?_⟩
    rw [Rm.cl_hook hj (eH j) eP]
    refine ⟨.int n, rfl, _, _, rfl, rfl, rfl, ?_⟩
    rw [decide_eq_true (by exact congrArg V.int (by omega))]
    exact q _
end

end Rv

namespace Rv
open PySem PySem.Spec PyProof.Rows L2
theorem all_mk {l : PySem.W.OpenLaw} {w : World} {K : PySem.W.Frag} {h : Heap} {mg : Str → Option Value} {fa : Addr} (X : K.In h) (G : h.Ns mainGlobals mg) (hfa : mg "law" = some (.ref fa))
    {f_is_arcs : Addr} {od_is_arcs an_is_arcs : Option Addr} {sl_is_arcs : Array (Option Value)} {oc_is_arcs kV_is_arcs dc_is_arcs pm_is_arcs cd_is_arcs ct_is_arcs : Value}
    {f_ask : Addr} {od_ask an_ask : Option Addr} {sl_ask : Array (Option Value)} {oc_ask kV_ask dc_ask pm_ask cd_ask ct_ask : Value}
    {f_ask_size : Addr} {od_ask_size an_ask_size : Option Addr} {sl_ask_size : Array (Option Value)} {oc_ask_size kV_ask_size dc_ask_size pm_ask_size cd_ask_size ct_ask_size : Value}
    {f_ask_both : Addr} {od_ask_both an_ask_both : Option Addr} {sl_ask_both : Array (Option Value)} {oc_ask_both kV_ask_both dc_ask_both pm_ask_both cd_ask_both ct_ask_both : Value}
    {f_roads_by : Addr} {od_roads_by an_roads_by : Option Addr} {sl_roads_by : Array (Option Value)} {oc_roads_by kV_roads_by dc_roads_by pm_roads_by cd_roads_by ct_roads_by : Value}
    {f_straight : Addr} {od_straight an_straight : Option Addr} {sl_straight : Array (Option Value)} {oc_straight kV_straight dc_straight pm_straight cd_straight ct_straight : Value}
    {f_hook : Addr} {od_hook an_hook : Option Addr} {sl_hook : Array (Option Value)} {oc_hook kV_hook dc_hook pm_hook cd_hook ct_hook : Value}
    {f_led_out : Addr} {od_led_out an_led_out : Option Addr} {sl_led_out : Array (Option Value)} {oc_led_out kV_led_out dc_led_out pm_led_out cd_led_out ct_led_out : Value}
    {f_laid : Addr} {od_laid an_laid : Option Addr} {sl_laid : Array (Option Value)} {oc_laid kV_laid dc_laid pm_laid cd_laid ct_laid : Value}
    {f_closed : Addr} {od_closed an_closed : Option Addr} {sl_closed : Array (Option Value)} {oc_closed kV_closed dc_closed pm_closed cd_closed ct_closed : Value}
    {f_law_cell_at : Addr} {od_law_cell_at an_law_cell_at : Option Addr} {sl_law_cell_at : Array (Option Value)} {oc_law_cell_at kV_law_cell_at dc_law_cell_at pm_law_cell_at cd_law_cell_at ct_law_cell_at : Value}
    {f_law_whole : Addr} {od_law_whole an_law_whole : Option Addr} {sl_law_whole : Array (Option Value)} {oc_law_whole kV_law_whole dc_law_whole pm_law_whole cd_law_whole ct_law_whole : Value}
    {f_law_numbers : Addr} {od_law_numbers an_law_numbers : Option Addr} {sl_law_numbers : Array (Option Value)} {oc_law_numbers kV_law_numbers dc_law_numbers pm_law_numbers cd_law_numbers ct_law_numbers : Value}
    {f_law_hook : Addr} {od_law_hook an_law_hook : Option Addr} {sl_law_hook : Array (Option Value)} {oc_law_hook kV_law_hook dc_law_hook pm_law_hook cd_law_hook ct_law_hook : Value}
    {f_law : Addr} {od_law an_law : Option Addr} {sl_law : Array (Option Value)} {oc_law kV_law dc_law pm_law cd_law ct_law : Value}
    (a_is_arcs : PySem.W.nsIn K mainGlobals "is_arcs" = some (some (.ref f_is_arcs))) (l_is_arcs : K.lookup f_is_arcs = some ⟨oc_is_arcs, od_is_arcs, .func (PySem.W.fnOf "is_arcs" "is_arcs" (defArgs s_is_arcs) (defBody s_is_arcs) (defScope s_is_arcs) .none kV_is_arcs dc_is_arcs pm_is_arcs an_is_arcs cd_is_arcs ct_is_arcs), sl_is_arcs⟩) (x_is_arcs : PySem.W.codeIn K cd_is_arcs "is_arcs" = true) (k_is_arcs : PySem.W.keepIn K (.ref f_is_arcs) = true)
    (a_ask : PySem.W.nsIn K mainGlobals "ask" = some (some (.ref f_ask))) (l_ask : K.lookup f_ask = some ⟨oc_ask, od_ask, .func (PySem.W.fnOf "ask" "ask" (defArgs s_ask) (defBody s_ask) (defScope s_ask) .none kV_ask dc_ask pm_ask an_ask cd_ask ct_ask), sl_ask⟩) (x_ask : PySem.W.codeIn K cd_ask "ask" = true) (k_ask : PySem.W.keepIn K (.ref f_ask) = true)
    (a_ask_size : PySem.W.nsIn K mainGlobals "ask_size" = some (some (.ref f_ask_size))) (l_ask_size : K.lookup f_ask_size = some ⟨oc_ask_size, od_ask_size, .func (PySem.W.fnOf "ask_size" "ask_size" (defArgs s_ask_size) (defBody s_ask_size) (defScope s_ask_size) .none kV_ask_size dc_ask_size pm_ask_size an_ask_size cd_ask_size ct_ask_size), sl_ask_size⟩) (x_ask_size : PySem.W.codeIn K cd_ask_size "ask_size" = true) (k_ask_size : PySem.W.keepIn K (.ref f_ask_size) = true)
    (a_ask_both : PySem.W.nsIn K mainGlobals "ask_both" = some (some (.ref f_ask_both))) (l_ask_both : K.lookup f_ask_both = some ⟨oc_ask_both, od_ask_both, .func (PySem.W.fnOf "ask_both" "ask_both" (defArgs s_ask_both) (defBody s_ask_both) (defScope s_ask_both) .none kV_ask_both dc_ask_both pm_ask_both an_ask_both cd_ask_both ct_ask_both), sl_ask_both⟩) (x_ask_both : PySem.W.codeIn K cd_ask_both "ask_both" = true) (k_ask_both : PySem.W.keepIn K (.ref f_ask_both) = true)
    (a_roads_by : PySem.W.nsIn K mainGlobals "roads_by" = some (some (.ref f_roads_by))) (l_roads_by : K.lookup f_roads_by = some ⟨oc_roads_by, od_roads_by, .func (PySem.W.fnOf "roads_by" "roads_by" (defArgs s_roads_by) (defBody s_roads_by) (defScope s_roads_by) .none kV_roads_by dc_roads_by pm_roads_by an_roads_by cd_roads_by ct_roads_by), sl_roads_by⟩) (x_roads_by : PySem.W.codeIn K cd_roads_by "roads_by" = true) (k_roads_by : PySem.W.keepIn K (.ref f_roads_by) = true)
    (a_straight : PySem.W.nsIn K mainGlobals "straight" = some (some (.ref f_straight))) (l_straight : K.lookup f_straight = some ⟨oc_straight, od_straight, .func (PySem.W.fnOf "straight" "straight" (defArgs s_straight) (defBody s_straight) (defScope s_straight) .none kV_straight dc_straight pm_straight an_straight cd_straight ct_straight), sl_straight⟩) (x_straight : PySem.W.codeIn K cd_straight "straight" = true) (k_straight : PySem.W.keepIn K (.ref f_straight) = true)
    (a_hook : PySem.W.nsIn K mainGlobals "hook" = some (some (.ref f_hook))) (l_hook : K.lookup f_hook = some ⟨oc_hook, od_hook, .func (PySem.W.fnOf "hook" "hook" (defArgs s_hook) (defBody s_hook) (defScope s_hook) .none kV_hook dc_hook pm_hook an_hook cd_hook ct_hook), sl_hook⟩) (x_hook : PySem.W.codeIn K cd_hook "hook" = true) (k_hook : PySem.W.keepIn K (.ref f_hook) = true)
    (a_led_out : PySem.W.nsIn K mainGlobals "led_out" = some (some (.ref f_led_out))) (l_led_out : K.lookup f_led_out = some ⟨oc_led_out, od_led_out, .func (PySem.W.fnOf "led_out" "led_out" (defArgs s_led_out) (defBody s_led_out) (defScope s_led_out) .none kV_led_out dc_led_out pm_led_out an_led_out cd_led_out ct_led_out), sl_led_out⟩) (x_led_out : PySem.W.codeIn K cd_led_out "led_out" = true) (k_led_out : PySem.W.keepIn K (.ref f_led_out) = true)
    (a_laid : PySem.W.nsIn K mainGlobals "laid" = some (some (.ref f_laid))) (l_laid : K.lookup f_laid = some ⟨oc_laid, od_laid, .func (PySem.W.fnOf "laid" "laid" (defArgs s_laid) (defBody s_laid) (defScope s_laid) .none kV_laid dc_laid pm_laid an_laid cd_laid ct_laid), sl_laid⟩) (x_laid : PySem.W.codeIn K cd_laid "laid" = true) (k_laid : PySem.W.keepIn K (.ref f_laid) = true)
    (a_closed : PySem.W.nsIn K mainGlobals "closed" = some (some (.ref f_closed))) (l_closed : K.lookup f_closed = some ⟨oc_closed, od_closed, .func (PySem.W.fnOf "closed" "closed" (defArgs s_closed) (defBody s_closed) (defScope s_closed) .none kV_closed dc_closed pm_closed an_closed cd_closed ct_closed), sl_closed⟩) (x_closed : PySem.W.codeIn K cd_closed "closed" = true) (k_closed : PySem.W.keepIn K (.ref f_closed) = true)
    (a_law_cell_at : PySem.W.nsIn K mainGlobals "_law_cell_at" = some (some (.ref f_law_cell_at))) (l_law_cell_at : K.lookup f_law_cell_at = some ⟨oc_law_cell_at, od_law_cell_at, .func (PySem.W.fnOf "_law_cell_at" "_law_cell_at" (defArgs s_law_cell_at) (defBody s_law_cell_at) (defScope s_law_cell_at) .none kV_law_cell_at dc_law_cell_at pm_law_cell_at an_law_cell_at cd_law_cell_at ct_law_cell_at), sl_law_cell_at⟩) (x_law_cell_at : PySem.W.codeIn K cd_law_cell_at "_law_cell_at" = true) (k_law_cell_at : PySem.W.keepIn K (.ref f_law_cell_at) = true)
    (a_law_whole : PySem.W.nsIn K mainGlobals "_law_whole" = some (some (.ref f_law_whole))) (l_law_whole : K.lookup f_law_whole = some ⟨oc_law_whole, od_law_whole, .func (PySem.W.fnOf "_law_whole" "_law_whole" (defArgs s_law_whole) (defBody s_law_whole) (defScope s_law_whole) .none kV_law_whole dc_law_whole pm_law_whole an_law_whole cd_law_whole ct_law_whole), sl_law_whole⟩) (x_law_whole : PySem.W.codeIn K cd_law_whole "_law_whole" = true) (k_law_whole : PySem.W.keepIn K (.ref f_law_whole) = true)
    (a_law_numbers : PySem.W.nsIn K mainGlobals "_law_numbers" = some (some (.ref f_law_numbers))) (l_law_numbers : K.lookup f_law_numbers = some ⟨oc_law_numbers, od_law_numbers, .func (PySem.W.fnOf "_law_numbers" "_law_numbers" (defArgs s_law_numbers) (defBody s_law_numbers) (defScope s_law_numbers) .none kV_law_numbers dc_law_numbers pm_law_numbers an_law_numbers cd_law_numbers ct_law_numbers), sl_law_numbers⟩) (x_law_numbers : PySem.W.codeIn K cd_law_numbers "_law_numbers" = true) (k_law_numbers : PySem.W.keepIn K (.ref f_law_numbers) = true)
    (a_law_hook : PySem.W.nsIn K mainGlobals "_law_hook" = some (some (.ref f_law_hook))) (l_law_hook : K.lookup f_law_hook = some ⟨oc_law_hook, od_law_hook, .func (PySem.W.fnOf "_law_hook" "_law_hook" (defArgs s_law_hook) (defBody s_law_hook) (defScope s_law_hook) .none kV_law_hook dc_law_hook pm_law_hook an_law_hook cd_law_hook ct_law_hook), sl_law_hook⟩) (x_law_hook : PySem.W.codeIn K cd_law_hook "_law_hook" = true) (k_law_hook : PySem.W.keepIn K (.ref f_law_hook) = true)
    (a_law : PySem.W.nsIn K mainGlobals "law" = some (some (.ref f_law))) (l_law : K.lookup f_law = some ⟨oc_law, od_law, .func (PySem.W.fnOf "law" "law" (defArgs s_law) (defBody s_law) (defScope s_law) .none kV_law dc_law pm_law an_law cd_law ct_law), sl_law⟩) (x_law : PySem.W.codeIn K cd_law "law" = true) (k_law : PySem.W.keepIn K (.ref f_law) = true)
    {t_MOST : Tok} (m_MOST : PySem.W.nsIn K mainGlobals "MOST" = some (some (.int 20 t_MOST)))
    (z_len : PySem.W.nsIn K mainGlobals "len" = some none) (z_range : PySem.W.nsIn K mainGlobals "range" = some none) (z_isinstance : PySem.W.nsIn K mainGlobals "isinstance" = some none) (z_int : PySem.W.nsIn K mainGlobals "int" = some none) (z_bool : PySem.W.nsIn K mainGlobals "bool" = some none) (z_list : PySem.W.nsIn K mainGlobals "list" = some none) (z_str : PySem.W.nsIn K mainGlobals "str" = some none) (z_reversed : PySem.W.nsIn K mainGlobals "reversed" = some none) (z_min : PySem.W.nsIn K mainGlobals "min" = some none) (z_max : PySem.W.nsIn K mainGlobals "max" = some none) (z_abs : PySem.W.nsIn K mainGlobals "abs" = some none) (z_sum : PySem.W.nsIn K mainGlobals "sum" = some none) (z_set : PySem.W.nsIn K mainGlobals "set" = some none) (z_tuple : PySem.W.nsIn K mainGlobals "tuple" = some none)
    : ∃ fd : FuncData, (∀ (s : Shared) (v : Value), BindsTo s fd ⟨[v], []⟩ [("script", v)]) ∧ ∀ base : Heap, K.In base → base.Ns mainGlobals mg → FnOk l.prog w K mg base CX0 6 fa fd ["script"] (spLaw K) := by
  have e := hfa.symm.trans (PySem.W.mg_of X G a_law)
  cases e
  have B : Blt mg := ⟨PySem.W.mg_none_of X G z_len, PySem.W.mg_none_of X G z_range, PySem.W.mg_none_of X G z_isinstance, PySem.W.mg_none_of X G z_int, PySem.W.mg_none_of X G z_bool, PySem.W.mg_none_of X G z_list, PySem.W.mg_none_of X G z_str, PySem.W.mg_none_of X G z_reversed, PySem.W.mg_none_of X G z_min, PySem.W.mg_none_of X G z_max, PySem.W.mg_none_of X G z_abs, PySem.W.mg_none_of X G z_sum, PySem.W.mg_none_of X G z_set, PySem.W.mg_none_of X G z_tuple⟩
  have g_MOST := PySem.W.mg_of X G m_MOST
  have D_is_arcs : Dfn K mg "is_arcs" s_is_arcs ["some"] := ⟨f_is_arcs, _, fun_mk (st := s_is_arcs) l_is_arcs x_is_arcs k_is_arcs, PySem.W.mg_of X G a_is_arcs, (fun_mk (st := s_is_arcs) l_is_arcs x_is_arcs k_is_arcs).binds (ps := ["some"]) fun _ _ _ _ _ _ us hl => match us, hl with | [_], _ => rfl⟩
  have D_ask : Dfn K mg "ask" s_ask ["arcs"] := ⟨f_ask, _, fun_mk (st := s_ask) l_ask x_ask k_ask, PySem.W.mg_of X G a_ask, (fun_mk (st := s_ask) l_ask x_ask k_ask).binds (ps := ["arcs"]) fun _ _ _ _ _ _ us hl => match us, hl with | [_], _ => rfl⟩
  have D_ask_size : Dfn K mg "ask_size" s_ask_size ["size"] := ⟨f_ask_size, _, fun_mk (st := s_ask_size) l_ask_size x_ask_size k_ask_size, PySem.W.mg_of X G a_ask_size, (fun_mk (st := s_ask_size) l_ask_size x_ask_size k_ask_size).binds (ps := ["size"]) fun _ _ _ _ _ _ us hl => match us, hl with | [_], _ => rfl⟩
  have D_ask_both : Dfn K mg "ask_both" s_ask_both ["one", "other"] := ⟨f_ask_both, _, fun_mk (st := s_ask_both) l_ask_both x_ask_both k_ask_both, PySem.W.mg_of X G a_ask_both, (fun_mk (st := s_ask_both) l_ask_both x_ask_both k_ask_both).binds (ps := ["one", "other"]) fun _ _ _ _ _ _ us hl => match us, hl with | [_, _], _ => rfl⟩
  have D_roads_by : Dfn K mg "roads_by" s_roads_by ["above", "below"] := ⟨f_roads_by, _, fun_mk (st := s_roads_by) l_roads_by x_roads_by k_roads_by, PySem.W.mg_of X G a_roads_by, (fun_mk (st := s_roads_by) l_roads_by x_roads_by k_roads_by).binds (ps := ["above", "below"]) fun _ _ _ _ _ _ us hl => match us, hl with | [_, _], _ => rfl⟩
  have D_straight : Dfn K mg "straight" s_straight ["size"] := ⟨f_straight, _, fun_mk (st := s_straight) l_straight x_straight k_straight, PySem.W.mg_of X G a_straight, (fun_mk (st := s_straight) l_straight x_straight k_straight).binds (ps := ["size"]) fun _ _ _ _ _ _ us hl => match us, hl with | [_], _ => rfl⟩
  have D_hook : Dfn K mg "hook" s_hook ["size", "j"] := ⟨f_hook, _, fun_mk (st := s_hook) l_hook x_hook k_hook, PySem.W.mg_of X G a_hook, (fun_mk (st := s_hook) l_hook x_hook k_hook).binds (ps := ["size", "j"]) fun _ _ _ _ _ _ us hl => match us, hl with | [_, _], _ => rfl⟩
  have D_led_out : Dfn K mg "led_out" s_led_out ["one", "other", "end", "low"] := ⟨f_led_out, _, fun_mk (st := s_led_out) l_led_out x_led_out k_led_out, PySem.W.mg_of X G a_led_out, (fun_mk (st := s_led_out) l_led_out x_led_out k_led_out).binds (ps := ["one", "other", "end", "low"]) fun _ _ _ _ _ _ us hl => match us, hl with | [_, _, _, _], _ => rfl⟩
  have D_laid : Dfn K mg "laid" s_laid ["one", "other"] := ⟨f_laid, _, fun_mk (st := s_laid) l_laid x_laid k_laid, PySem.W.mg_of X G a_laid, (fun_mk (st := s_laid) l_laid x_laid k_laid).binds (ps := ["one", "other"]) fun _ _ _ _ _ _ us hl => match us, hl with | [_, _], _ => rfl⟩
  have D_closed : Dfn K mg "closed" s_closed ["arcs"] := ⟨f_closed, _, fun_mk (st := s_closed) l_closed x_closed k_closed, PySem.W.mg_of X G a_closed, (fun_mk (st := s_closed) l_closed x_closed k_closed).binds (ps := ["arcs"]) fun _ _ _ _ _ _ us hl => match us, hl with | [_], _ => rfl⟩
  have D_law_cell_at : Dfn K mg "_law_cell_at" s_law_cell_at ["script", "k"] := ⟨f_law_cell_at, _, fun_mk (st := s_law_cell_at) l_law_cell_at x_law_cell_at k_law_cell_at, PySem.W.mg_of X G a_law_cell_at, (fun_mk (st := s_law_cell_at) l_law_cell_at x_law_cell_at k_law_cell_at).binds (ps := ["script", "k"]) fun _ _ _ _ _ _ us hl => match us, hl with | [_, _], _ => rfl⟩
  have D_law_whole : Dfn K mg "_law_whole" s_law_whole ["found"] := ⟨f_law_whole, _, fun_mk (st := s_law_whole) l_law_whole x_law_whole k_law_whole, PySem.W.mg_of X G a_law_whole, (fun_mk (st := s_law_whole) l_law_whole x_law_whole k_law_whole).binds (ps := ["found"]) fun _ _ _ _ _ _ us hl => match us, hl with | [_], _ => rfl⟩
  have D_law_numbers : Dfn K mg "_law_numbers" s_law_numbers ["found", "due"] := ⟨f_law_numbers, _, fun_mk (st := s_law_numbers) l_law_numbers x_law_numbers k_law_numbers, PySem.W.mg_of X G a_law_numbers, (fun_mk (st := s_law_numbers) l_law_numbers x_law_numbers k_law_numbers).binds (ps := ["found", "due"]) fun _ _ _ _ _ _ us hl => match us, hl with | [_, _], _ => rfl⟩
  have D_law_hook : Dfn K mg "_law_hook" s_law_hook ["size", "j"] := ⟨f_law_hook, _, fun_mk (st := s_law_hook) l_law_hook x_law_hook k_law_hook, PySem.W.mg_of X G a_law_hook, (fun_mk (st := s_law_hook) l_law_hook x_law_hook k_law_hook).binds (ps := ["size", "j"]) fun _ _ _ _ _ _ us hl => match us, hl with | [_, _], _ => rfl⟩
  refine ⟨PySem.W.fnOf "law" "law" (defArgs s_law) (defBody s_law) (defScope s_law) .none kV_law dc_law pm_law an_law cd_law ct_law, fun s v => .of_eq rfl, fun base _ _ => ?_⟩
  have c_is_arcs := ok_is_arcs (P := l.prog) (w := w) (K := K) (mg := mg) (base := base) D_is_arcs B g_MOST
  have c_ask := ok_ask (P := l.prog) (w := w) (K := K) (mg := mg) (base := base) D_ask c_is_arcs
  have c_ask_both := ok_ask_both (P := l.prog) (w := w) (K := K) (mg := mg) (base := base) D_ask_both B c_ask
  have c_roads_by := ok_roads_by (P := l.prog) (w := w) (K := K) (mg := mg) (base := base) D_roads_by B
  have c_led_out := ok_led_out (P := l.prog) (w := w) (K := K) (mg := mg) (base := base) D_led_out B
  have c_laid := ok_laid (P := l.prog) (w := w) (K := K) (mg := mg) (base := base) D_laid B c_ask_both c_led_out
  have c_ask_size := ok_ask_size (P := l.prog) (w := w) (K := K) (mg := mg) (base := base) D_ask_size g_MOST
  have c_straight := ok_straight (P := l.prog) (w := w) (K := K) (mg := mg) (base := base) D_straight B c_ask_size
  have c_closed := ok_closed (P := l.prog) (w := w) (K := K) (mg := mg) (base := base) D_closed B c_ask c_roads_by c_straight
  have c_hook := ok_hook (P := l.prog) (w := w) (K := K) (mg := mg) (base := base) D_hook B c_ask_size c_straight
  have c_law_cell_at := ok_law_cell_at (P := l.prog) (w := w) (K := K) (mg := mg) (base := base) D_law_cell_at B
  have c_law_whole := ok_law_whole (P := l.prog) (w := w) (K := K) (mg := mg) (base := base) D_law_whole B
  have c_law_numbers := ok_law_numbers (P := l.prog) (w := w) (K := K) (mg := mg) (base := base) D_law_numbers B c_law_whole
  have c_law_hook := ok_law_hook (P := l.prog) (w := w) (K := K) (mg := mg) (base := base) D_law_hook B
  exact ok_law (fun_mk (st := s_law) l_law x_law k_law) B c_law_cell_at c_hook c_law_hook c_laid c_straight c_closed c_law_numbers
end Rv
open PySem PySem.W PyProof.Rows
set_option maxHeartbeats 0 in
theorem PySem.Challenge.cw_riverloops_k12_whole_hooks_holds : PySem.Challenge.rw_riverloops_k12_whole_hooks.Holds := by
  w_on; o_law; k_head; (case hw => w_witness2)
  k_fill
  refine L2.walk_of (l := PySem.Challenge.rw_riverloops_k12_whole_hooks) (n := 63) (k := 6) (x := "script") (CX := fun _ => L2.CX0) (sp := fun w => Rv.spLaw _) rfl (by decide) rfl ⟨rfl, by decide, by decide⟩ (fun w h Y => PySem.W.kIn_of Y) ?F (fun _ _ a ns hl _ hS => ⟨a, ns, rfl, hS, hl, fun _ => rfl⟩) (fun _ _ _ _ _ h => h)
  case F =>
    intro w mg fa h KX G hmg
    refine' Rv.all_mk KX G hmg ?a_is_arcs ?l_is_arcs ?x_is_arcs ?k_is_arcs ?a_ask ?l_ask ?x_ask ?k_ask ?a_ask_size ?l_ask_size ?x_ask_size ?k_ask_size ?a_ask_both ?l_ask_both ?x_ask_both ?k_ask_both ?a_roads_by ?l_roads_by ?x_roads_by ?k_roads_by ?a_straight ?l_straight ?x_straight ?k_straight ?a_hook ?l_hook ?x_hook ?k_hook ?a_led_out ?l_led_out ?x_led_out ?k_led_out ?a_laid ?l_laid ?x_laid ?k_laid ?a_closed ?l_closed ?x_closed ?k_closed ?a_law_cell_at ?l_law_cell_at ?x_law_cell_at ?k_law_cell_at ?a_law_whole ?l_law_whole ?x_law_whole ?k_law_whole ?a_law_numbers ?l_law_numbers ?x_law_numbers ?k_law_numbers ?a_law_hook ?l_law_hook ?x_law_hook ?k_law_hook ?a_law ?l_law ?x_law ?k_law ?m_MOST ?z_len ?z_range ?z_isinstance ?z_int ?z_bool ?z_list ?z_str ?z_reversed ?z_min ?z_max ?z_abs ?z_sum ?z_set ?z_tuple
    (case a_is_arcs => k_is); (case l_is_arcs => k_is); (case x_is_arcs => k_is); (case k_is_arcs => k_is); (case a_ask => k_is); (case l_ask => k_is); (case x_ask => k_is); (case k_ask => k_is); (case a_ask_size => k_is); (case l_ask_size => k_is); (case x_ask_size => k_is); (case k_ask_size => k_is); (case a_ask_both => k_is); (case l_ask_both => k_is); (case x_ask_both => k_is); (case k_ask_both => k_is); (case a_roads_by => k_is); (case l_roads_by => k_is); (case x_roads_by => k_is); (case k_roads_by => k_is); (case a_straight => k_is); (case l_straight => k_is); (case x_straight => k_is); (case k_straight => k_is); (case a_hook => k_is); (case l_hook => k_is); (case x_hook => k_is); (case k_hook => k_is); (case a_led_out => k_is); (case l_led_out => k_is); (case x_led_out => k_is); (case k_led_out => k_is); (case a_laid => k_is); (case l_laid => k_is); (case x_laid => k_is); (case k_laid => k_is); (case a_closed => k_is); (case l_closed => k_is); (case x_closed => k_is); (case k_closed => k_is); (case a_law_cell_at => k_is); (case l_law_cell_at => k_is); (case x_law_cell_at => k_is); (case k_law_cell_at => k_is); (case a_law_whole => k_is); (case l_law_whole => k_is); (case x_law_whole => k_is); (case k_law_whole => k_is); (case a_law_numbers => k_is); (case l_law_numbers => k_is); (case x_law_numbers => k_is); (case k_law_numbers => k_is); (case a_law_hook => k_is); (case l_law_hook => k_is); (case x_law_hook => k_is); (case k_law_hook => k_is); (case a_law => k_is); (case l_law => k_is); (case x_law => k_is); (case k_law => k_is); (case m_MOST => k_is); (case z_len => k_is); (case z_range => k_is); (case z_isinstance => k_is); (case z_int => k_is); (case z_bool => k_is); (case z_list => k_is); (case z_str => k_is); (case z_reversed => k_is); (case z_min => k_is); (case z_max => k_is); (case z_abs => k_is); (case z_sum => k_is); (case z_set => k_is); (case z_tuple => k_is)
