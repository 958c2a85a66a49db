import PyProof.Rows.All
import Wide.All
import OpenK.AllK
import Wide.FinOn
import PySem.Challenge.RW_riverloops_k03_turned_mirrored_beside_an
import HandS.ForMost
import HandS.IsInst
import HandS.RevRange
import HandS.Style
import HandS.Conv
import HandS.SetFor
import HandS.More
import HandS.Walk
import KE.Datum
import HandS.Codes
set_option Elab.async false
set_option linter.all false
set_option maxRecDepth 100000
set_option maxHeartbeats 4000000

set_option linter.all false
namespace Rm

/-! ## lists of whole numbers that tell arcs -/
def g (s : List Int) (k : Nat) : Int := s.getD k 0
def OkAt (s : List Int) (k : Nat) : Prop := 0 ≤ g s k ∧ g s k < (s.length : Int) ∧ g s k ≠ (k : Int) ∧ g s (g s k).toNat = (k : Int)
def NcI (s : List Int) : Prop := ∀ j k : Nat, j < k → k < s.length → (k : Int) < g s j → g s j < g s k → False
def Good (s : List Int) : Prop := (2 ≤ s.length ∧ s.length ≤ 40) ∧ (∀ k : Nat, k < s.length → OkAt s k) ∧ NcI s
def opens (s : List Int) (k : Nat) : List Nat := (List.range k).filter (fun j => decide ((k : Int) ≤ g s j))
structure Stage (s : List Int) (k : Nat) : Prop where
  ok : ∀ j : Nat, j < k → OkAt s j
  top : ∀ j : Nat, j < k → g s j < (j : Int) → (opens s j).getLast? = some (g s j).toNat

theorem mem_opens {s : List Int} {k j : Nat} : j ∈ opens s k ↔ j < k ∧ (k : Int) ≤ g s j := by
  simp [opens, List.mem_filter, List.mem_range]
theorem opens_sorted (s : List Int) (k : Nat) : (opens s k).Pairwise (· < ·) := List.Pairwise.filter _ List.pairwise_lt_range
theorem opens_len (s : List Int) (k : Nat) : (opens s k).length ≤ k := by
  have h := List.length_filter_le (fun j : Nat => decide ((k : Int) ≤ g s j)) (List.range k)
  rw [List.length_range] at h
  exact h
theorem stage0 (s : List Int) : Stage s 0 := ⟨fun j h => absurd h (Nat.not_lt_zero j), fun j h => absurd h (Nat.not_lt_zero j)⟩
theorem opens0 (s : List Int) : opens s 0 = [] := rfl
/-- within the checked places, partners are one to one -/
theorem okAt_inj {s : List Int} {i j : Nat} (hi : OkAt s i) (e : g s i = (j : Int)) : g s j = (i : Int) := by
  have h := hi.2.2.2
  rw [e] at h
  simpa using h
theorem opens_succ (s : List Int) (k : Nat) : opens s (k + 1) = (List.range k).filter (fun j => decide (((k + 1 : Nat) : Int) ≤ g s j)) ++ (if ((k + 1 : Nat) : Int) ≤ g s k then [k] else []) := by
  unfold opens
  rw [List.range_succ, List.filter_append]
  congr 1
  by_cases h : ((k + 1 : Nat) : Int) ≤ g s k
  · rw [if_pos h]
    exact List.filter_cons_of_pos (p := fun j => decide (((k + 1 : Nat) : Int) ≤ g s j)) (decide_eq_true h)
  · rw [if_neg h]
    exact List.filter_cons_of_neg (p := fun j => decide (((k + 1 : Nat) : Int) ≤ g s j)) (fun z => h (of_decide_eq_true z))
theorem opens_push {s : List Int} {k : Nat} (st : Stage s k) (hk : (k : Int) < g s k) : opens s (k + 1) = opens s k ++ [k] := by
  rw [opens_succ, if_pos (by omega)]
  congr 1
  unfold opens
  apply List.filter_congr
  intro j hj
  rw [List.mem_range] at hj
  have hne : g s j ≠ (k : Int) := fun e => by
    have := okAt_inj (st.ok j hj) e
    omega
  exact decide_eq_decide.mpr (by omega)
theorem filter_ne_last : ∀ (l : List Nat) (t : Nat), (l ++ [t]).Nodup → (l ++ [t]).filter (fun j => decide (j ≠ t)) = l := by
  intro l t h
  rw [List.filter_append]
  have h1 : l.filter (fun j => decide (j ≠ t)) = l := by
    apply List.filter_eq_self.mpr
    intro a ha
    rw [List.nodup_append] at h
    exact decide_eq_true (h.2.2 a ha t (List.mem_singleton.mpr rfl))
  rw [h1]
  simp
theorem nodup_of_sorted {l : List Nat} (h : l.Pairwise (· < ·)) : l.Nodup := h.imp fun h => Nat.ne_of_lt h
theorem opens_pop {s : List Int} {k : Nat} {l : List Nat} {t : Nat} (st : Stage s k) (ok : OkAt s k) (hk : g s k < (k : Int)) (e : opens s k = l ++ [t]) (ht : (t : Int) = g s k) : opens s (k + 1) = l := by
  rw [opens_succ, if_neg (by omega), List.append_nil]
  have h1 : (List.range k).filter (fun j => decide (((k + 1 : Nat) : Int) ≤ g s j)) = (opens s k).filter (fun j => decide (j ≠ t)) := by
    unfold opens
    rw [List.filter_filter]
    apply List.filter_congr
    intro j hj
    rw [List.mem_range] at hj
    have hje : g s j = (k : Int) ↔ j = t := by
      constructor
      · intro q
        have := okAt_inj (st.ok j hj) q
        omega
      · intro q
        subst q
        have := okAt_inj (j := j) ok ht.symm
        exact this
    by_cases q : j = t
    · have := hje.mpr q
      simp [q]
      subst q
      omega
    · have : g s j ≠ (k : Int) := fun z => q (hje.mp z)
      simp [q]
      omega
  rw [h1, e]
  exact filter_ne_last l t (e ▸ nodup_of_sorted (opens_sorted s k))
/-- at a place that leads back something is open -/
theorem opens_ne {s : List Int} {k : Nat} (ok : OkAt s k) (hk : g s k < (k : Int)) : ∃ l t, opens s k = l ++ [t] := by
  have hm : (g s k).toNat ∈ opens s k := by
    rw [mem_opens]
    have h := ok.2.2.2
    have h0 := ok.1
    constructor
    · omega
    · omega
  rcases List.eq_nil_or_concat (opens s k) with e | ⟨l, t, e⟩
  · rw [e] at hm; cases hm
  · exact ⟨l, t, by rw [e]; exact List.concat_eq_append⟩
theorem stage_push {s : List Int} {k : Nat} (st : Stage s k) (ok : OkAt s k) (hk : (k : Int) < g s k) : Stage s (k + 1) := by
  refine ⟨fun j hj => ?_, fun j hj h => ?_⟩
  · by_cases e : j = k
    · subst e; exact ok
    · exact st.ok j (by omega)
  · by_cases e : j = k
    · subst e; omega
    · exact st.top j (by omega) h
theorem stage_pop {s : List Int} {k : Nat} {l : List Nat} {t : Nat} (st : Stage s k) (ok : OkAt s k) (e : opens s k = l ++ [t]) (ht : (t : Int) = g s k) : Stage s (k + 1) := by
  refine ⟨fun j hj => ?_, fun j hj h => ?_⟩
  · by_cases e : j = k
    · subst e; exact ok
    · exact st.ok j (by omega)
  · by_cases q : j = k
    · subst q
      rw [e, List.getLast?_append, ← ht]
      simp
    · exact st.top j (by omega) h
/-- the top is not the partner: two arcs cross -/
theorem stage_cross {s : List Int} {k : Nat} {l : List Nat} {t : Nat} (st : Stage s k) (ok : OkAt s k) (hk : g s k < (k : Int)) (hl : k < s.length) (e : opens s k = l ++ [t]) (ht : (t : Int) ≠ g s k) : ¬ NcI s := by
  intro nc
  have hm : (g s k).toNat ∈ opens s k := by
    rw [mem_opens]
    have h := ok.2.2.2
    have h0 := ok.1
    constructor
    · omega
    · omega
  have htm : t ∈ opens s k := by rw [e]; simp
  rw [mem_opens] at htm
  have hsrt := opens_sorted s k
  rw [e, List.pairwise_append] at hsrt
  rw [e, List.mem_append] at hm
  have h0 := ok.1
  have hlt : (g s k).toNat < t := by
    rcases hm with hm | hm
    · exact hsrt.2.2 _ hm t (by simp)
    · rw [List.mem_singleton] at hm
      omega
  have hne : g s t ≠ (k : Int) := fun q => by
    have := okAt_inj (st.ok t htm.1) q
    omega
  have hp := ok.2.2.2
  exact nc (g s k).toNat t hlt (by omega) (by omega) (by omega)
theorem stage_good {s : List Int} (h : 2 ≤ s.length ∧ s.length ≤ 40) (st : Stage s s.length) : Good s := by
  refine ⟨h, st.ok, fun j k hjk hk h1 h2 => ?_⟩
  have okj := st.ok j (by omega)
  have okk := st.ok k hk
  -- at the place where j's arc ends
  obtain ⟨e0, e1, e2, e3⟩ := okj
  have hm : g s (g s j).toNat < ((g s j).toNat : Int) := by omega
  have ht := st.top (g s j).toNat (by omega) hm
  rw [e3] at ht
  have hkm : k ∈ opens s (g s j).toNat := by
    rw [mem_opens]
    constructor <;> omega
  rcases List.eq_nil_or_concat (opens s (g s j).toNat) with q | ⟨l, t, q⟩
  · rw [q] at hkm; cases hkm
  · rw [List.concat_eq_append] at q
    rw [q, List.getLast?_append] at ht
    simp at ht
    have hsrt := opens_sorted s (g s j).toNat
    rw [q, List.pairwise_append] at hsrt
    rw [q, List.mem_append] at hkm
    rcases hkm with hkm | hkm
    · have := hsrt.2.2 _ hkm t (by simp)
      omega
    · rw [List.mem_singleton] at hkm
      omega
/-- of a good list the top at a place that leads back is its partner -/
theorem good_top {s : List Int} (G : Good s) {k : Nat} (hk : k < s.length) (hb : g s k < (k : Int)) : ∃ (l : List Nat) (t : Nat), opens s k = l ++ [t] ∧ (t : Int) = g s k := by
  obtain ⟨l, t, e⟩ := opens_ne (G.2.1 k hk) hb
  refine ⟨l, t, e, ?_⟩
  have okk := G.2.1 k hk
  have hm : (g s k).toNat ∈ opens s k := by
    rw [mem_opens]
    have h := okk.2.2.2
    have h0 := okk.1
    constructor <;> omega
  have htm : t ∈ opens s k := by rw [e]; simp
  rw [mem_opens] at htm
  have hsrt := opens_sorted s k
  rw [e, List.pairwise_append] at hsrt
  rw [e, List.mem_append] at hm
  have h0 := okk.1
  rcases hm with hm | hm
  · have hlt := hsrt.2.2 _ hm t (by simp)
    have hne : g s t ≠ (k : Int) := fun q => by
      have := okAt_inj (G.2.1 t (by omega)) q
      omega
    have hp := okk.2.2.2
    exact (G.2.2 (g s k).toNat t hlt (by omega) (by omega) (by omega)).elim
  · rw [List.mem_singleton] at hm
    omega
theorem good_stage {s : List Int} (G : Good s) : ∀ k : Nat, k ≤ s.length → Stage s k := fun k hk =>
  ⟨fun j hj => G.2.1 j (by omega), fun j hj h => by
    obtain ⟨l, t, e, ht⟩ := good_top G (show j < s.length by omega) h
    rw [e, List.getLast?_append, ← ht]
    simp⟩
end Rm

set_option linter.all false
namespace Rm
/-! ## arcs by lists of naturals -/
def at' (a : List Nat) (k : Nat) : Nat := a.getD k 0
structure Arcs (m : Nat) (f : Nat → Nat) : Prop where
  lt : ∀ k, k < m → f k < m
  ne : ∀ k, k < m → f k ≠ k
  inv : ∀ k, k < m → f (f k) = k
  nc : ∀ j k, j < k → k < m → k < f j → f j < f k → False
/-- a list of 2 n places that tells n arcs -/
structure ArcsL (n : Nat) (a : List Nat) : Prop where
  len : a.length = 2 * n
  arcs : Arcs (2 * n) (at' a)
abbrev zs (a : List Nat) : List Int := a.map (fun n : Nat => (n : Int))
theorem g_zs (a : List Nat) (k : Nat) : g (zs a) k = ((at' a k : Nat) : Int) := by
  simp only [g, at', zs, List.getD_eq_getElem?_getD, List.getElem?_map]
  cases a[k]? <;> simp
theorem len_zs (a : List Nat) : (zs a).length = a.length := by simp [zs]
theorem arcs_good {n : Nat} {a : List Nat} (h : ArcsL n a) (h1 : 1 ≤ n) (h2 : n ≤ 20) : Good (zs a) := by
  have hl := h.len
  refine ⟨by rw [len_zs]; omega, fun k hk => ?_, fun j k hjk hk h1 h2 => ?_⟩
  · rw [len_zs] at hk
    have a1 := h.arcs.lt k (by omega)
    have a2 := h.arcs.ne k (by omega)
    have a3 := h.arcs.inv k (by omega)
    refine ⟨?_, ?_, ?_, ?_⟩
    · rw [g_zs]; omega
    · rw [g_zs, len_zs]; omega
    · rw [g_zs]; omega
    · rw [g_zs, g_zs, Int.toNat_natCast, a3]
  · rw [len_zs] at hk
    rw [g_zs] at h1
    rw [g_zs, g_zs] at h2
    exact h.arcs.nc j k hjk (by omega) (by omega) (by omega)
/-! ## arcs built with a pile -/
structure Bld (m k : Nat) (fd st : List Nat) : Prop where
  len : fd.length = m
  km : k ≤ m
  srt : st.Pairwise (· < ·)
  slt : ∀ j, j ∈ st → j < k
  cl : ∀ j, j < k → j ∉ st → at' fd j < k ∧ at' fd j ∉ st ∧ at' fd j ≠ j ∧ at' fd (at' fd j) = j
  nc : ∀ i j, i < j → j < k → i ∉ st → j ∉ st → j < at' fd i → at' fd i < at' fd j → False
  cov : ∀ i j, i < k → i ∉ st → j ∈ st → i < j → j < at' fd i → False
theorem bld0 (m : Nat) (fd : List Nat) (h : fd.length = m) : Bld m 0 fd [] :=
  ⟨h, Nat.zero_le _, .nil, fun _ h => (nomatch h), fun _ h => absurd h (Nat.not_lt_zero _), fun _ _ _ h => absurd h (Nat.not_lt_zero _), fun _ _ h => absurd h (Nat.not_lt_zero _)⟩
theorem bld_push {m k : Nat} {fd st : List Nat} (B : Bld m k fd st) (hk : k < m) : Bld m (k + 1) fd (st ++ [k]) := by
  have hm : ∀ j, j ∈ st ++ [k] ↔ j ∈ st ∨ j = k := fun j => by simp
  refine ⟨B.len, hk, ?_, fun j h => ?_, fun j hj hn => ?_, fun i j hij hj hi hjn h1 h2 => ?_, fun i j hi hin hj h1 h2 => ?_⟩
  · rw [List.pairwise_append]
    exact ⟨B.srt, List.pairwise_singleton _ _, fun a ha b hb => by rw [List.mem_singleton] at hb; rw [hb]; exact B.slt a ha⟩
  · rcases (hm j).mp h with h | h
    · have := B.slt j h; omega
    · omega
  · rw [hm] at hn
    obtain ⟨c1, c2, c3, c4⟩ := B.cl j (by omega) (fun z => hn (.inl z))
    refine ⟨by omega, fun z => ?_, c3, c4⟩
    rcases (hm _).mp z with z | z
    · exact c2 z
    · omega
  · rw [hm] at hi hjn
    exact B.nc i j hij (by omega) (fun z => hi (.inl z)) (fun z => hjn (.inl z)) h1 h2
  · rw [hm] at hin
    rcases (hm j).mp hj with hj | hj
    · exact B.cov i j (by omega) (fun z => hin (.inl z)) hj h1 h2
    · have := (B.cl i (by omega) (fun z => hin (.inl z))).1
      omega
theorem at_set {a : List Nat} {k t j : Nat} (h : k < a.length) : at' (a.set k t) j = if j = k then t else at' a j := by
  unfold at'
  rw [List.getD_eq_getElem?_getD, List.getD_eq_getElem?_getD, List.getElem?_set]
  by_cases e : k = j
  · subst e
    simp [h]
  · rw [if_neg e, if_neg (fun z => e z.symm)]
theorem bld_pop {m k t : Nat} {fd l : List Nat} (B : Bld m k fd (l ++ [t])) (hk : k < m) : Bld m (k + 1) ((fd.set k t).set t k) l := by
  have hm : ∀ j, j ∈ l ++ [t] ↔ j ∈ l ∨ j = t := fun j => by simp
  have ht : t < k := B.slt t (by simp)
  have hsr := List.pairwise_append.mp B.srt
  have hlt : ∀ j, j ∈ l → j < t := fun j hj => hsr.2.2 j hj t (by simp)
  have hl := B.len
  have ha : ∀ j, at' ((fd.set k t).set t k) j = if j = t then k else if j = k then t else at' fd j := fun j => by
    rw [at_set (by rw [List.length_set]; omega), at_set (by omega)]
  have old : ∀ j, j < k + 1 → j ∉ l → j = t ∨ j = k ∨ (j < k ∧ j ∉ l ++ [t]) := fun j h1 h2 => by
    by_cases e : j = t
    · exact .inl e
    · by_cases e2 : j = k
      · exact .inr (.inl e2)
      · refine .inr (.inr ⟨by omega, fun z => ?_⟩)
        rcases (hm j).mp z with z | z
        · exact h2 z
        · exact e z
  have hao : ∀ j, j < k → j ∉ l ++ [t] → at' ((fd.set k t).set t k) j = at' fd j := fun j h1 h2 => by
    rw [ha, if_neg (fun z => h2 ((hm j).mpr (.inr z))), if_neg (by omega)]
  have hat : at' ((fd.set k t).set t k) t = k := by rw [ha, if_pos rfl]
  have hak : at' ((fd.set k t).set t k) k = t := by rw [ha, if_neg (by omega), if_pos rfl]
  refine ⟨by rw [List.length_set, List.length_set]; exact hl, hk, hsr.1, fun j h => ?_, fun j hj hn => ?_, fun i j hij hj hi hjn h1 h2 => ?_, fun i j hi hin hj h1 h2 => ?_⟩
  · have := hlt j h; omega
  · rcases old j hj hn with e | e | ⟨e1, e2⟩
    · subst e
      rw [hat]
      refine ⟨by omega, fun z => ?_, by omega, hak⟩
      have := hlt _ z; omega
    · subst e
      rw [hak]
      refine ⟨by omega, fun z => ?_, by omega, hat⟩
      have := hlt _ z; omega
    · obtain ⟨c1, c2, c3, c4⟩ := B.cl j e1 e2
      rw [hao j e1 e2, hao _ c1 c2]
      exact ⟨by omega, fun z => c2 ((hm _).mpr (.inl z)), c3, c4⟩
  · rcases old i (by omega) hi with e | e | ⟨e1, e2⟩
    · subst e
      rw [hat] at h1 h2
      rcases old j hj hjn with f | f | ⟨f1, f2⟩
      · omega
      · omega
      · rw [hao j f1 f2] at h2
        have := (B.cl j f1 f2).1
        omega
    · omega
    · rw [hao i e1 e2] at h1 h2
      have c1 := (B.cl i e1 e2).1
      rcases old j hj hjn with f | f | ⟨f1, f2⟩
      · subst f
        exact B.cov i j e1 e2 (by simp) hij h1
      · omega
      · rw [hao j f1 f2] at h2
        exact B.nc i j hij f1 e2 f2 h1 h2
  · have hjt := hlt j hj
    rcases old i hi hin with e | e | ⟨e1, e2⟩
    · omega
    · omega
    · rw [hao i e1 e2] at h2
      exact B.cov i j e1 e2 (by simp [hj]) h1 h2
theorem bld_arcs {n : Nat} {fd : List Nat} (B : Bld (2 * n) (2 * n) fd []) : ArcsL n fd :=
  ⟨B.len, fun k h => (B.cl k h (fun z => nomatch z)).1, fun k h => (B.cl k h (fun z => nomatch z)).2.2.1, fun k h => (B.cl k h (fun z => nomatch z)).2.2.2,
   fun j k a b c d => B.nc j k a b (fun z => nomatch z) (fun z => nomatch z) c d⟩
end Rm

set_option linter.all false
namespace Rm
/-! ## the word of arcs, by code points -/
def wcs (s : List Int) : List Nat := (List.range s.length).map fun k : Nat => if (k : Int) < g s k then 40 else 41
theorem wcs_len (s : List Int) : (wcs s).length = s.length := by simp [wcs]
theorem wcs_get {s : List Int} {k : Nat} (h : k < s.length) : (wcs s)[k]? = some (if (k : Int) < g s k then 40 else 41) := by
  unfold wcs
  rw [List.getElem?_map, List.getElem?_range h]
  rfl
theorem opens_end {s : List Int} (G : Good s) : opens s s.length = [] := by
  rw [List.eq_nil_iff_forall_not_mem]
  intro j hj
  rw [mem_opens] at hj
  have := (G.2.1 j hj.1).2.1
  omega
theorem g_set {s : List Int} {k j : Nat} {t : Int} (h : k < s.length) : g (s.set k t) j = if j = k then t else g s j := by
  unfold g
  rw [List.getD_eq_getElem?_getD, List.getD_eq_getElem?_getD, List.getElem?_set]
  by_cases e : k = j
  · subst e
    simp [h]
  · rw [if_neg e, if_neg (fun z => e z.symm)]
theorem ext_g {s t : List Int} (hl : s.length = t.length) (h : ∀ k : Nat, k < t.length → g s k = g t k) : s = t := by
  apply List.ext_getElem hl
  intro k h1 h2
  have := h k h2
  simpa [g, List.getD_eq_getElem?_getD, h1, h2] using this
/-- what has been read so far -/
def Rd (s : List Int) (i : Nat) (fd : List Int) : Prop := fd.length = s.length ∧ ∀ j : Nat, j < i → g s j < (i : Int) → g fd j = g s j
theorem rd0 (s : List Int) (fd : List Int) (h : fd.length = s.length) : Rd s 0 fd := ⟨h, fun j hj => absurd hj (Nat.not_lt_zero _)⟩
theorem rd_push {s : List Int} {i : Nat} {fd : List Int} (G : Good s) (hi : i < s.length) (h : (i : Int) < g s i) (R : Rd s i fd) : Rd s (i + 1) fd := by
  refine ⟨R.1, fun j hj hg => ?_⟩
  by_cases e : j = i
  · subst e; omega
  · refine R.2 j (by omega) ?_
    have hne : g s j ≠ (i : Int) := fun z => by
      have := okAt_inj (G.2.1 j (by omega)) z
      omega
    omega
theorem rd_pop {s : List Int} {i t : Nat} {fd : List Int} (G : Good s) (hi : i < s.length) (ht : (t : Int) = g s i) (hlt : g s i < (i : Int)) (R : Rd s i fd) : Rd s (i + 1) ((fd.set i (t : Int)).set t (i : Int)) := by
  have hl := R.1
  have hti : t < i := by omega
  refine ⟨by rw [List.length_set, List.length_set]; exact hl, fun j hj hg => ?_⟩
  rw [g_set (by rw [List.length_set]; omega), g_set (by omega)]
  by_cases e : j = t
  · subst e
    rw [if_pos rfl]
    exact (okAt_inj (G.2.1 i hi) ht.symm).symm
  · rw [if_neg e]
    by_cases e2 : j = i
    · subst e2
      rw [if_pos rfl, ht]
    · rw [if_neg e2]
      refine R.2 j (by omega) ?_
      have hne : g s j ≠ (i : Int) := fun z => by
        have := okAt_inj (G.2.1 j (by omega)) z
        omega
      omega
theorem rd_end {s fd : List Int} (G : Good s) (R : Rd s s.length fd) : fd = s := ext_g R.1 fun k hk => R.2 k hk (G.2.1 k hk).2.1
/-- a good list has an even number of places -/
theorem opens_par {s : List Int} (G : Good s) : ∀ k : Nat, k ≤ s.length → (opens s k).length % 2 = k % 2
  | 0, _ => rfl
  | k + 1, h => by
    have ih := opens_par G k (by omega)
    have st := good_stage G k (by omega)
    have ok := G.2.1 k (by omega)
    by_cases e : (k : Int) < g s k
    · rw [opens_push st e, List.length_append, List.length_singleton]
      omega
    · have e5 : g s k < (k : Int) := by have := ok.2.2.1; omega
      obtain ⟨l, t, eo, ht⟩ := good_top G (show k < s.length by omega) e5
      rw [opens_pop st ok e5 eo ht]
      rw [eo, List.length_append, List.length_singleton] at ih
      omega
theorem good_even {s : List Int} (G : Good s) : s.length % 2 = 0 := by
  have h := opens_par G s.length (Nat.le_refl _)
  rw [opens_end G] at h
  simp at h
  omega
end Rm

set_option linter.all false
namespace Rm
/-! ## lists by functions -/
def mkL (m : Nat) (f : Nat → Nat) : List Nat := (List.range m).map f
theorem mkL_len (m : Nat) (f : Nat → Nat) : (mkL m f).length = m := by simp [mkL]
theorem mkL_at {m : Nat} {f : Nat → Nat} {k : Nat} (h : k < m) : at' (mkL m f) k = f k := by
  simp [at', mkL, List.getD_eq_getElem?_getD, h]
theorem mkL_get {m : Nat} {f : Nat → Nat} {k : Nat} (h : k < m) : (mkL m f)[k]? = some (f k) := by simp [mkL, h]
theorem ext_at {a b : List Nat} (hl : a.length = b.length) (h : ∀ k, k < b.length → at' a k = at' b k) : a = b := by
  apply List.ext_getElem hl
  intro k h1 h2
  have := h k h2
  simpa [at', List.getD_eq_getElem?_getD, h1, h2] using this
theorem Arcs.congr {m : Nat} {f f' : Nat → Nat} (A : Arcs m f) (h : ∀ k, k < m → f' k = f k) : Arcs m f' where
  lt := fun k hk => by rw [h k hk]; exact A.lt k hk
  ne := fun k hk => by rw [h k hk]; exact A.ne k hk
  inv := fun k hk => by rw [h k hk, h _ (A.lt k hk)]; exact A.inv k hk
  nc := fun j k h1 h2 h3 h4 => by
    rw [h j (by omega)] at h3 h4
    rw [h k h2] at h4
    exact A.nc j k h1 h2 h3 h4
theorem mkL_arcs {n : Nat} {f : Nat → Nat} (A : Arcs (2 * n) f) : ArcsL n (mkL (2 * n) f) :=
  ⟨mkL_len _ _, A.congr fun k hk => mkL_at hk⟩
/-! ## turned -/
def phi (m b x : Nat) : Nat := if x < b then x + m - b else x - b
def psi (m b y : Nat) : Nat := if y + b < m then y + b else y + b - m
def rotF (m b : Nat) (f : Nat → Nat) (k : Nat) : Nat := psi m b (f (phi m b k))
theorem phi_lt {m b x : Nat} (hb : b < m) (h : x < m) : phi m b x < m := by unfold phi; split <;> omega
theorem psi_lt {m b x : Nat} (hb : b < m) (h : x < m) : psi m b x < m := by unfold psi; split <;> omega
theorem phi_psi {m b x : Nat} (hb : b < m) (h : x < m) : phi m b (psi m b x) = x := by unfold psi phi; split <;> split <;> omega
theorem psi_phi {m b x : Nat} (hb : b < m) (h : x < m) : psi m b (phi m b x) = x := by unfold phi psi; split <;> split <;> omega
theorem rot_arcs {m b : Nat} {f : Nat → Nat} (A : Arcs m f) (hb : b < m) : Arcs m (rotF m b f) := by
  have hp : ∀ k, k < m → phi m b (rotF m b f k) = f (phi m b k) := fun k hk => phi_psi hb (A.lt _ (phi_lt hb hk))
  refine ⟨fun k hk => psi_lt hb (A.lt _ (phi_lt hb hk)), fun k hk e => ?_, fun k hk => ?_, fun j k hjk hk h1 h2 => ?_⟩
  · have := hp k hk
    rw [e] at this
    exact A.ne _ (phi_lt hb hk) this.symm
  · show psi m b (f (phi m b (rotF m b f k))) = k
    rw [hp k hk, A.inv _ (phi_lt hb hk), psi_phi hb hk]
  · have hj : j < m := by omega
    have pj := hp j hj
    have pk := hp k hk
    have lj := phi_lt hb hj
    have lk := phi_lt hb hk
    have fj := A.lt _ lj
    have fk := A.lt _ lk
    have ij := A.inv _ lj
    have ik := A.inv _ lk
    have lfj : rotF m b f j < m := psi_lt hb (A.lt _ lj)
    have lfk : rotF m b f k < m := psi_lt hb (A.lt _ lk)
    have n1 := A.nc (phi m b j) (phi m b k)
    have n2 := A.nc (phi m b k) (f (phi m b j))
    have n3 := A.nc (f (phi m b j)) (f (phi m b k))
    have n4 := A.nc (f (phi m b k)) (phi m b j)
    rw [ij] at n2 n3
    rw [ik] at n3 n4
    rw [← pj, ← pk] at n1 n2 n3 n4
    rw [← pj] at fj
    rw [← pk] at fk
    generalize rotF m b f j = x at *
    generalize rotF m b f k = y at *
    unfold phi at *
    have : (x < b ∨ b ≤ x) ∧ (y < b ∨ b ≤ y) ∧ (j < b ∨ b ≤ j) ∧ (k < b ∨ b ≤ k) := by omega
    obtain ⟨c1, c2, c3, c4⟩ := this
    rcases c1 with c1 | c1 <;> rcases c2 with c2 | c2 <;> rcases c3 with c3 | c3 <;> rcases c4 with c4 | c4 <;>
      first
        | omega
        | (simp only [c1, c2, c3, c4, if_true, if_false, Nat.not_lt.mpr c1, Nat.not_lt.mpr c2, Nat.not_lt.mpr c3, Nat.not_lt.mpr c4] at n1 n2 n3 n4; first | exact n1 (by omega) (by omega) (by omega) (by omega) | exact n2 (by omega) (by omega) (by omega) (by omega) | exact n3 (by omega) (by omega) (by omega) (by omega) | exact n4 (by omega) (by omega) (by omega) (by omega))
/-! ## mirrored -/
def mirF (m : Nat) (f : Nat → Nat) (k : Nat) : Nat := m - 1 - f (m - 1 - k)
theorem mir_arcs {m : Nat} {f : Nat → Nat} (A : Arcs m f) : Arcs m (mirF m f) := by
  refine ⟨fun k hk => by unfold mirF; omega, fun k hk e => ?_, fun k hk => ?_, fun j k hjk hk h1 h2 => ?_⟩
  · have h1 := A.lt (m - 1 - k) (by omega)
    have h2 := A.ne (m - 1 - k) (by omega)
    unfold mirF at e
    omega
  · have h1 := A.lt (m - 1 - k) (by omega)
    have h3 := A.inv (m - 1 - k) (by omega)
    unfold mirF
    rw [show m - 1 - (m - 1 - f (m - 1 - k)) = f (m - 1 - k) by omega, h3]
    omega
  · have a1 := A.lt (m - 1 - j) (by omega)
    have a2 := A.lt (m - 1 - k) (by omega)
    have a3 := A.inv (m - 1 - j) (by omega)
    have a4 := A.inv (m - 1 - k) (by omega)
    unfold mirF at h1 h2
    refine A.nc (f (m - 1 - k)) (f (m - 1 - j)) (by omega) (by omega) (by omega) (by omega)
/-! ## side by side, covered -/
def sideF (m : Nat) (f f2 : Nat → Nat) (k : Nat) : Nat := if k < m then f k else m + f2 (k - m)
theorem side_arcs {m m2 : Nat} {f f2 : Nat → Nat} (A : Arcs m f) (B : Arcs m2 f2) : Arcs (m + m2) (sideF m f f2) := by
  refine ⟨fun k hk => ?_, fun k hk => ?_, fun k hk => ?_, fun j k hjk hk h1 h2 => ?_⟩
  · unfold sideF
    split
    · have := A.lt k (by omega); omega
    · have := B.lt (k - m) (by omega); omega
  · unfold sideF
    split
    · exact A.ne k (by omega)
    · have := B.ne (k - m) (by omega); omega
  · unfold sideF
    by_cases h : k < m
    · rw [if_pos h, if_pos (A.lt k h), A.inv k h]
    · rw [if_neg h, if_neg (by omega), show m + f2 (k - m) - m = f2 (k - m) by omega, B.inv (k - m) (by omega)]
      omega
  · unfold sideF at h1 h2
    by_cases hj : j < m
    · have a := A.lt j hj
      rw [if_pos hj] at h1 h2
      by_cases hk2 : k < m
      · rw [if_pos hk2] at h2
        exact A.nc j k hjk hk2 h1 h2
      · omega
    · rw [if_neg hj] at h1 h2
      rw [if_neg (by omega)] at h2
      exact B.nc (j - m) (k - m) (by omega) (by omega) (by omega) (by omega)
def overF (m : Nat) (f : Nat → Nat) (k : Nat) : Nat := if k = 0 then m + 1 else if k = m + 1 then 0 else f (k - 1) + 1
theorem over_arcs {m : Nat} {f : Nat → Nat} (A : Arcs m f) : Arcs (m + 2) (overF m f) := by
  have mid : ∀ k, k ≠ 0 → k < m + 1 → overF m f k = f (k - 1) + 1 := fun k h1 h2 => by
    unfold overF
    rw [if_neg h1, if_neg (by omega)]
  have z0 : overF m f 0 = m + 1 := rfl
  have z1 : overF m f (m + 1) = 0 := by unfold overF; rw [if_neg (by omega), if_pos rfl]
  have cs : ∀ k, k < m + 2 → k = 0 ∨ k = m + 1 ∨ (k ≠ 0 ∧ k < m + 1) := fun k h => by omega
  refine ⟨fun k hk => ?_, fun k hk => ?_, fun k hk => ?_, fun j k hjk hk h1 h2 => ?_⟩
  · rcases cs k hk with e | e | ⟨e1, e2⟩
    · subst e; rw [z0]; omega
    · subst e; rw [z1]; omega
    · rw [mid k e1 e2]; have := A.lt (k - 1) (by omega); omega
  · rcases cs k hk with e | e | ⟨e1, e2⟩
    · subst e; rw [z0]; omega
    · subst e; rw [z1]; omega
    · rw [mid k e1 e2]; have := A.ne (k - 1) (by omega); omega
  · rcases cs k hk with e | e | ⟨e1, e2⟩
    · subst e; rw [z0, z1]
    · subst e; rw [z1, z0]
    · have := A.lt (k - 1) (by omega)
      rw [mid k e1 e2, mid _ (by omega) (by omega), show f (k - 1) + 1 - 1 = f (k - 1) by omega, A.inv (k - 1) (by omega)]
      omega
  · have hk0 : k ≠ 0 := by omega
    by_cases hk1 : k = m + 1
    · subst hk1; rw [z1] at h2; omega
    · rw [mid k hk0 (by omega)] at h2
      by_cases hj : j = 0
      · subst hj; rw [z0] at h2; have := A.lt (k - 1) (by omega); omega
      · rw [mid j hj (by omega)] at h1 h2
        exact A.nc (j - 1) (k - 1) (by omega) (by omega) (by omega) (by omega)
/-! ## sums by the remainder -/
theorem mod_add {m : Nat} {by' : Int} {k : Nat} (hk : k < m) : ((k : Int) + by').fmod (m : Int) = ((psi m (by' % (m : Int)).toNat k : Nat) : Int) := by
  have hm : (0 : Int) < m := by omega
  rw [Int.fmod_eq_emod_of_nonneg _ (by omega)]
  have h0 := Int.emod_nonneg by' (show (m : Int) ≠ 0 by omega)
  have h1 := Int.emod_lt_of_pos by' hm
  have e : ((k : Int) + by') % (m : Int) = ((k : Int) + by' % (m : Int)) % (m : Int) := by rw [Int.add_emod, Int.add_emod (k : Int) (by' % (m : Int)), Int.emod_emod]
  rw [e]
  generalize hr : by' % (m : Int) = r at *
  unfold psi
  by_cases c : (k : Int) + r < m
  · rw [Int.emod_eq_of_lt (by omega) c, if_pos (by omega)]
    omega
  · rw [if_neg (by omega)]
    have : ((k : Int) + r) % (m : Int) = ((k : Int) + r - m) % (m : Int) := by
      rw [Int.sub_emod_right]
    rw [this, Int.emod_eq_of_lt (by omega) (by omega)]
    omega
theorem mod_sub {m : Nat} {by' : Int} {k : Nat} (hk : k < m) : ((k : Int) - by').fmod (m : Int) = ((phi m (by' % (m : Int)).toNat k : Nat) : Int) := by
  have hm : (0 : Int) < m := by omega
  rw [Int.fmod_eq_emod_of_nonneg _ (by omega)]
  have h0 := Int.emod_nonneg by' (show (m : Int) ≠ 0 by omega)
  have h1 := Int.emod_lt_of_pos by' hm
  have e : ((k : Int) - by') % (m : Int) = ((k : Int) - by' % (m : Int)) % (m : Int) := by rw [Int.sub_emod, Int.sub_emod (k : Int) (by' % (m : Int)), Int.emod_emod]
  rw [e]
  generalize hr : by' % (m : Int) = r at *
  unfold phi
  by_cases c : r ≤ (k : Int)
  · rw [Int.emod_eq_of_lt (by omega) (by omega), if_neg (by omega)]
    omega
  · rw [if_pos (by omega)]
    have : ((k : Int) - r) % (m : Int) = ((k : Int) - r + m) % (m : Int) := by
      rw [Int.add_emod_right]
    rw [this, Int.emod_eq_of_lt (by omega) (by omega)]
    omega
def rotB (m : Nat) (by' : Int) : Nat := (by' % (m : Int)).toNat
theorem rotB_lt {m : Nat} (by' : Int) (h : 0 < m) : rotB m by' < m := by
  have h0 := Int.emod_nonneg by' (show (m : Int) ≠ 0 by omega)
  have h1 := Int.emod_lt_of_pos by' (show (0 : Int) < m by omega)
  unfold rotB; omega
end Rm

namespace Rv
open PySem PySem.Spec PyProof.Rows L2
open Rm (zs at')
def topS (i : Nat) : Stmt := PySem.Challenge.pw_riverloops_k03_turned_mirrored_beside_an.main.body.getD i (.Pass ⟨0, 0, 0, 0⟩)
structure Blt (mg : Str → Option Value) : Prop where
  len_ : mg "len" = none
  range_ : mg "range" = none
  isinstance_ : mg "isinstance" = none
  int_ : mg "int" = none
  bool_ : mg "bool" = none
  list_ : mg "list" = none
  str_ : mg "str" = none
  reversed_ : mg "reversed" = none
  min_ : mg "min" = none
  max_ : mg "max" = none
  abs_ : mg "abs" = none
  sum_ : mg "sum" = none
  set_ : mg "set" = none
  tuple_ : mg "tuple" = none
/-! ### common words of the walks -/
theorem hu64 {A : Around} {k : Nat} (hr : Room k A) : A.units + 64 < cLine := hr.units
/-- a def of the text: where it stands, what name it has -/
structure Dfn (K : PySem.W.Frag) (mg : Str → Option Value) (x : Str) (st : Stmt) (ps : List Str) : Prop where
  ex : ∃ (f : Addr) (fd : FuncData), Fun K x x st f fd ∧ mg x = some (.ref f) ∧ Binds K fd ps []
/-- a def that may be called by its name, and what it is worth; nothing leaves it -/
structure Cal (P : Program) (w : World) (K : PySem.W.Frag) (mg : Str → Option Value) (base : Heap) (k : Nat) (x : Str) (sp : Sp) : Prop where
  ex : ∃ (f : Addr) (fd : FuncData) (ps : List Str), FnOk P w K mg base CX0 k f fd ps sp ∧ mg x = some (.ref f) ∧ PySem.W.keepIn K (.ref f) = true ∧ Binds K fd ps []
theorem pe_c {X : Cx} {x : Str} {p pos : Pos} {e : Expr} {es : List Expr} {t : TA} {sp : Sp} {j k : Nat} (c : Cal X.prog X.w X.K X.mg X.base k x sp) (hr : Room j X.A) (hk : k ≤ j) (hg : Gl X x) (ha : PA X (e :: es) t)
    (hdb : (x == ("__debug__" : Str)) = false := by decide) (he : starEach (e :: es) X.env = (false, eval e X.env) :: starEach es X.env := by rfl) (hpl : (backTo pos (starEach es X.env)).any (·.1) = false := by rfl) :
    PE X (.Call (.Name x p) (e :: es) [] pos) (tCall sp [] E0 t) := by
  obtain ⟨f, fd, ps, F, hm, kp, b⟩ := c.ex
  exact pe_call F (hr.mono hk) hg hm kp b .nil pass0 ha hdb he hpl
section
variable {P : Program} {w : World} {K : PySem.W.Frag} {mg : Str → Option Value} {base : Heap}
theorem Dfn.cal {x : Str} {st : Stmt} {N ps : List Str} {k : Nat} {sp : Sp} (D : Dfn K mg x st ps) (S : FnScope N ps (defScope st)) (len : ∀ vs H Q E, sp vs H Q E → vs.length = ps.length)
    (hbody : ∀ (f : Addr) (cdv : Value) (A : Around) (outer : List Env) (s : Shared) (H : Hp) (vs : List V) (Q : VK) (E : XK), Room k (A.deeper (envOfC x (defScope st) s.heap.objs.size f cdv)) → sp vs H Q E →
      ∃ t, PSs (cxOf CX0 P w K mg base N x (defScope st) f cdv A outer s H E).nox (defBody st) t ∧ t { nx := fun _ H' => Q .non H', rt := Q } (start N vs) H) : Cal P w K mg base (k + 1) x sp := by
  obtain ⟨f, fd, F, hm, b⟩ := D.ex
  exact ⟨f, fd, ps, F.ok S len (fun cdv A outer s H vs Q E hr h => hbody f cdv A outer s H vs Q E hr h), hm, F.kp, b⟩
theorem cal_imp {x : Str} {k : Nat} {sp sp' : Sp} (c : Cal P w K mg base k x sp) (h : ∀ vs H Q E, sp' vs H Q E → sp vs H Q E) : Cal P w K mg base k x sp' := by
  obtain ⟨f, fd, ps, F, a, b, d⟩ := c.ex
  exact ⟨f, fd, ps, F.imp h, a, b, d⟩
theorem cal_mono {x : Str} {j k : Nat} {sp : Sp} (c : Cal P w K mg base j x sp) (h : j ≤ k) : Cal P w K mg base k x sp := by
  obtain ⟨f, fd, ps, F, a, b, d⟩ := c.ex
  exact ⟨f, fd, ps, F.mono h, a, b, d⟩
end
/-! heaps -/
theorem same_new {H : Hp} {p : Addr} {o : HO} (h : H p = none) : Same H (upd H p o) := fun b x e => by
  rw [upd_ne (ne_of_none e h)]
  exact e
/-- a store to an object that H did not hold -/
theorem same_upd {H H' : Hp} {p : Addr} {o : HO} (sm : Same H H') (h : H p = none) : Same H (upd H' p o) := fun b x e => by
  rw [upd_ne (ne_of_none e h)]
  exact sm b x e
theorem sqL {K : PySem.W.Frag} {H : Hp} {p : Addr} {xs : List V} (h : H p = some (.lst xs)) : SqL K H p xs := .inl (.inl h)
theorem sqT {K : PySem.W.Frag} {H : Hp} {p : Addr} {xs : List V} (h : H p = some (.tup xs)) : SqT K H p xs := .inl (.inl h)
theorem small63 {n : Nat} (h : n ≤ 100000) : n < sizeLine := Nat.lt_of_le_of_lt h (by decide)
theorem small63' {n : Nat} (h : n ≤ 100000) : n ≤ sizeLine := Nat.le_of_lt (small63 h)
/-! lists -/
abbrev vi (s : List Int) : List V := s.map V.int
abbrev vn (a : List Nat) : List V := vi (zs a)
theorem vi_get {s : List Int} {k : Nat} (h : k < s.length) : (vi s)[k]? = some (.int (Rm.g s k)) := by
  rw [List.getElem?_map, List.getElem?_eq_getElem h]
  simp [Rm.g, List.getD_eq_getElem?_getD, h]
theorem vi_at {s : List Int} {k : Nat} {z : Int} (h : k < s.length) (e : z = (k : Int)) : atI (vi s) z = some (.int (Rm.g s k)) := at_of e (vi_get h)
theorem vi_append (s t : List Int) : vi s ++ vi t = vi (s ++ t) := (List.map_append).symm
theorem zs_append (s t : List Nat) : zs s ++ zs t = zs (s ++ t) := (List.map_append).symm
theorem vn_push (s : List Nat) (k : Nat) : vn s ++ [V.int (k : Int)] = vn (s ++ [k]) := by simp [vn, vi, zs]
theorem vn_last (s : List Nat) (k : Nat) : (vn (s ++ [k]))[(vn (s ++ [k])).length - 1]? = some (.int (k : Int)) := by simp [vn, vi, zs]
theorem vn_drop (s : List Nat) (k : Nat) : (vn (s ++ [k])).dropLast = vn s := by simp [vn, vi, zs]
theorem vn_len (s : List Nat) : (vn s).length = s.length := by simp [vn, vi, zs]
/-! tests that are decided -/
theorem dn {p : Prop} [Decidable p] (h : ¬ decide p = true) : ¬ p := fun z => h (decide_eq_true z)
theorem nd {p : Prop} [Decidable p] (h : ¬ (!decide p) = true) : p := by
  by_cases q : p
  · exact q
  · rw [decide_eq_false q] at h; exact absurd rfl h
theorem nt {p : Prop} [Decidable p] (h : (!decide p) = true) : ¬ p := fun z => by
  rw [decide_eq_true z] at h; exact nomatch h
theorem ixN_nat {n k : Nat} (h : k < n) : ixN n (k : Int) = some k := by
  unfold ixN
  rw [if_pos (by omega), if_pos (by omega), Int.toNat_natCast]
theorem ixN_of {n k : Nat} {z : Int} (e : z = (k : Int)) (h : k < n) : ixN n z = some k := by rw [e]; exact ixN_nat h
theorem vn_set (s : List Nat) (k t : Nat) : (vn s).set k (V.int (t : Int)) = vn (s.set k t) := by simp [vn, vi, zs, List.map_set]
theorem vi_set (s : List Int) (k : Nat) (t : Int) : (vi s).set k (V.int t) = vi (s.set k t) := by simp [vi, List.map_set]
theorem rep1 {α : Type} (x : α) : ∀ n : Nat, (List.replicate n [x]).flatten = List.replicate n x
  | 0 => rfl
  | n + 1 => by rw [List.replicate_succ, List.flatten_cons, rep1 x n, List.replicate_succ]; rfl
theorem vn_rep (n : Nat) : List.replicate n (V.int 0) = vn (List.replicate n 0) := by simp [vn, vi, zs]
theorem zs_g (a : List Nat) (k : Nat) : Rm.g (zs a) k = ((at' a k : Nat) : Int) := by
  simp only [Rm.g, at', zs, List.getD_eq_getElem?_getD, List.getElem?_map]
  cases a[k]? <;> simp
theorem vn_at {a : List Nat} {k : Nat} {z : Int} (h : k < a.length) (e : z = (k : Int)) : atI (vn a) z = some (.int ((at' a k : Nat) : Int)) := by
  have := vi_at (s := zs a) (by simpa using h) e
  rw [zs_g] at this
  exact this
theorem vn_get {a : List Nat} {k : Nat} (h : k < a.length) : (vn a)[k]? = some (.int ((at' a k : Nat) : Int)) := by
  have := vi_get (s := zs a) (k := k) (by simpa using h)
  rw [zs_g] at this
  exact this
/-! texts by their signs -/
def tx (cs : List Nat) : Str := ⟨cs.toArray⟩
theorem tx_len (cs : List Nat) : (tx cs).length = cs.length := by simp [tx, Str.length]
theorem tx_lp : (("(" : String) : Str) = tx [40] := by decide +kernel
theorem tx_rp : ((")" : String) : Str) = tx [41] := by decide +kernel
theorem tx_nil : (("" : String) : Str) = tx [] := by decide +kernel
theorem tx_app (a b : List Nat) : tx a ++ tx b = tx (a ++ b) := by
  show Str.append (tx a) (tx b) = _
  simp [tx, Str.append]
theorem tx_inj {a b : List Nat} (h : tx a = tx b) : a = b := by
  have := congrArg (fun s : Str => s.cps.toList) h
  simpa [tx] using this
theorem tx_join : ∀ l : List Nat, Str.join (tx []) (l.map fun c => tx [c]) = tx l
  | [] => rfl
  | [c] => rfl
  | c :: d :: r => by
    have h := tx_join (d :: r)
    show tx [c] ++ tx [] ++ Str.join (tx []) ((d :: r).map fun c => tx [c]) = _
    rw [h, tx_app, tx_app]
    rfl
theorem tx_get {cs : List Nat} {k c : Nat} (h : cs[k]? = some c) : (tx cs).cps[k]? = some c := by simpa [tx] using h
/-! lists of ints as data -/
theorem dp_vi {K : PySem.W.Frag} {H : Hp} : ∀ s : List Int, DpAll K H (vi s) (s.map PyData.int)
  | [] => .nil
  | x :: r => .cons (.int x) (dp_vi r)
theorem rEq_ints {K : PySem.W.Frag} {H : Hp} {a b : Addr} {s t : List Int} {Q : VK} (ha : SqL K H a (vi s)) (hb : SqL K H b (vi t)) (q : Q (.bl (decide (s = t))) H) : rEqD K (.ref a) (.ref b) H Q := by
  refine ⟨_, _, .lst ha (dp_vi s), .lst hb (dp_vi t), PySem.W.ke_shaped_ints s, PySem.W.ke_shaped_ints t, ?_⟩
  rw [PyData.eqv, PySem.W.ked_eqvAll]
  exact q
theorem rNe_ints {K : PySem.W.Frag} {H : Hp} {a b : Addr} {s t : List Int} {Q : VK} (ha : SqL K H a (vi s)) (hb : SqL K H b (vi t)) (q : Q (.bl (!decide (s = t))) H) : rNeD K (.ref a) (.ref b) H Q := by
  refine ⟨_, _, .lst ha (dp_vi s), .lst hb (dp_vi t), PySem.W.ke_shaped_ints s, PySem.W.ke_shaped_ints t, ?_⟩
  rw [PyData.eqv, PySem.W.ked_eqvAll]
  exact q
/-! ways that meet: G is found at the first use -/
theorem joinC {α : Type} {C G : α → Prop} {goal : Prop} (h : (∀ x, C x → G x) → goal) (hG : ∀ x, C x → G x) : goal := h hG
def rLenK (K : PySem.W.Frag) : List V → Hp → VK → Prop := fun xs H Q => ∃ p ys, xs = [.ref p] ∧ (SqL K H p ys ∨ SqT K H p ys) ∧ Q (.int ((ys.length : Nat) : Int)) H
/-! a chain of three comparisons as a test -/
def tChain3 (r r' r'' : R2) (ta tb tc td : TE) : TE := fun σ H Q => ta σ H fun x H1 => tb σ H1 fun y H2 => r x y H2 fun z H3 => ∃ k, z = .bl k ∧ (if k = true then tc σ H3 fun u H4 => r' y u H4 fun z' H5 => ∃ k', z' = .bl k' ∧ (if k' = true then td σ H5 fun v H6 => r'' u v H6 Q else Q (.bl false) H5) else Q (.bl false) H3)
theorem pt_chain3 {X : Cx} {a b c d : Expr} {pos : Pos} {ta tb tc td : TE} {op op' op'' : CmpOp} {r r' r'' : R2} (ho : OpR X (compareOp op) r) (ho' : OpR X (compareOp op') r') (ho'' : OpR X (compareOp op'') r'') (ha : PE X a ta) (hb : PE X b tb) (hc : PE X c tc) (hd : PE X d td)
    (hm : lastMarks [op, op', op''] [b, c, d] = false := by with_unfolding_all rfl) : PT X (.Compare a [op, op', op''] [b, c, d] pos) (tTest (tChain3 r r' r'' ta tb tc td)) := by
  refine ⟨fun pins s σ H Q I h => ?_⟩
  refine isTrue_chain (thn (ha.run pins s σ H _ I h) fun v s1 ⟨x, H1, I1, r1, q1⟩ => test_link (thn (hb.run pins s1 σ H1 _ I1 q1) fun u s2 ⟨y, H2, I2, r2, q2⟩ =>
    thn (ho pins s2 σ H2 x y v u _ I2 r1 r2 q2) fun d1 s3 ⟨z, H3, I3, r3, k, e, q3⟩ => ?_)) hm
  subst e
  cases r3
  refine wpAny_truthy_bool ?_
  cases k with
  | false =>
    obtain ⟨k', e', q'⟩ := q3
    cases e'
    exact ite_ff ⟨H3, I3, q'⟩
  | true =>
    refine ite_tt (test_link (thn (hc.run pins s3 σ H3 _ I3 q3) fun w' s4 ⟨z', H4, I4, r4, q4⟩ =>
      thn (ho' pins s4 σ H4 y z' u w' _ I4 r2 r4 q4) fun d2 s5 ⟨z5, H5, I5, r5, k5, e5, q5⟩ => ?_))
    subst e5
    cases r5
    refine wpAny_truthy_bool ?_
    cases k5 with
    | false =>
      obtain ⟨k', e', q'⟩ := q5
      cases e'
      exact ite_ff ⟨H5, I5, q'⟩
    | true =>
      refine ite_tt (test_last (thn (hd.run pins s5 σ H5 _ I5 q5) fun w6 s6 ⟨z6, H6, I6, r6, q6⟩ => thn (ho'' pins s6 σ H6 z' z6 w' w6 _ I6 r4 r6 q6) fun d3 s7 ⟨z7, H7, I7, r7, k7, e7, q7⟩ => ?_))
      subst e7
      cases r7
      exact wpAny_truthy_bool ⟨H7, I7, q7⟩
/-! a new list is handed back, all else stays -/
def NewL (H : Hp) (Q : VK) (l : List Nat) : Prop := ∀ H' p, Same H H' → H p = none → H' p = some (.lst (vn l)) → Q (.ref p) H'
theorem vn_take (l : List Nat) (i : Nat) (c : Nat) (h : l[i]? = some c) : vn (l.take i) ++ [V.int (c : Int)] = vn (l.take (i + 1)) := by
  rw [vn_push, List.take_add_one, h]
  rfl
theorem vn_full {l : List Nat} {m : Nat} (h : l.length = m) : l.take m = l := List.take_of_length_le (by omega)
theorem size_of {z : Int} (m : Int) (h : 0 < m) (h20 : m ≤ 20) : ∃ n : Nat, 1 + z.fmod m = (n : Int) ∧ 1 ≤ n ∧ (n : Int) ≤ m := by
  have h0 := Int.fmod_nonneg_of_pos z h
  have h1 := Int.fmod_lt_of_pos z h
  exact ⟨(1 + z.fmod m).toNat, by omega, by omega, by omega⟩
/-! nested data -/
theorem dEq {K : PySem.W.Frag} {H : Hp} {α : Type} [DecidableEq α] [PySem.W.Datum α] {x y : V} {c d : α} {Q : VK} (hx : Dp K H x (PySem.W.Datum.toD c)) (hy : Dp K H y (PySem.W.Datum.toD d))
    (sx : SeqAt.shaped (PySem.W.Datum.toD c) = true) (sy : SeqAt.shaped (PySem.W.Datum.toD d) = true) (q : Q (.bl (decide (c = d))) H) : rEqD K x y H Q := ⟨_, _, hx, hy, sx, sy, by rw [PySem.W.Datum.eqv]; exact q⟩
theorem dNe {K : PySem.W.Frag} {H : Hp} {α : Type} [DecidableEq α] [PySem.W.Datum α] {x y : V} {c d : α} {Q : VK} (hx : Dp K H x (PySem.W.Datum.toD c)) (hy : Dp K H y (PySem.W.Datum.toD d))
    (sx : SeqAt.shaped (PySem.W.Datum.toD c) = true) (sy : SeqAt.shaped (PySem.W.Datum.toD d) = true) (q : Q (.bl (!decide (c = d))) H) : rNeD K x y H Q := ⟨_, _, hx, hy, sx, sy, by rw [PySem.W.Datum.eqv]; exact q⟩
/-- a list of lists of ints: the addresses and what they hold -/
def AllL (K : PySem.W.Frag) (H : Hp) : List V → List (List Int) → Prop
  | [], [] => True
  | .ref p :: r, s :: t => SqL K H p (vi s) ∧ AllL K H r t
  | _, _ => False
theorem AllL.dp {K : PySem.W.Frag} {H : Hp} : ∀ {xs : List V} {ss : List (List Int)}, AllL K H xs ss → DpAll K H xs (ss.map PySem.W.Datum.toD)
  | [], [], _ => .nil
  | [], _ :: _, h => h.elim
  | .ref p :: r, s :: t, h => .cons (.lst h.1 (dp_vi s)) (AllL.dp h.2)
  | .ref _ :: _, [], h => by cases h
  | .non :: _, _, h => by cases h
  | .bl _ :: _, _, h => by cases h
  | .int _ :: _, _, h => by cases h
  | .str _ :: _, _, h => by cases h
  | .byt _ :: _, _, h => by cases h
  | .flt _ :: _, _, h => by cases h
  | .ty _ :: _, _, h => by cases h
theorem AllL.same {K : PySem.W.Frag} {H H' : Hp} (sm : Same H H') : ∀ {xs : List V} {ss : List (List Int)}, AllL K H xs ss → AllL K H' xs ss
  | [], [], _ => True.intro
  | [], _ :: _, h => h.elim
  | .ref p :: r, s :: t, h => ⟨sm.seq h.1, AllL.same sm h.2⟩
  | .ref _ :: _, [], h => by cases h
  | .non :: _, _, h => by cases h
  | .bl _ :: _, _, h => by cases h
  | .int _ :: _, _, h => by cases h
  | .str _ :: _, _, h => by cases h
  | .byt _ :: _, _, h => by cases h
  | .flt _ :: _, _, h => by cases h
  | .ty _ :: _, _, h => by cases h
theorem canLayAll_ll : ∀ ss : List (List Int), PyData.canLayAll0 (ss.map PySem.W.Datum.toD) = true
  | [] => rfl
  | s :: r => by
    rw [List.map_cons, PyData.canLayAll0, canLayAll_ll r, Bool.and_true]
    show PyData.canLay0 (.list (s.map PyData.int)) = true
    rw [PyData.canLay0]
    exact PySem.W.ke_canLayAll0 s
theorem depthAll_ll : ∀ ss : List (List Int), PyData.depthAll (ss.map PySem.W.Datum.toD) ≤ 1
  | [] => Nat.zero_le _
  | s :: r => by
    rw [List.map_cons, PyData.depthAll]
    refine Nat.max_le.mpr ⟨?_, depthAll_ll r⟩
    show PyData.depth (.list (s.map PyData.int)) ≤ 1
    rw [PyData.depth, PySem.W.ke_depthAll]
    exact Nat.le_refl _
theorem shaped_ll (ss : List (List Int)) : SeqAt.shaped (PySem.W.Datum.toD ss) = true := by
  show (PyData.canLay0 (.list (ss.map PySem.W.Datum.toD)) && decide (PyData.depth (.list (ss.map PySem.W.Datum.toD)) ≤ 64)) = true
  rw [PyData.canLay0, canLayAll_ll, Bool.true_and, decide_eq_true_eq, PyData.depth]
  have := depthAll_ll ss
  omega
theorem rEq_ll {K : PySem.W.Frag} {H : Hp} {a b : Addr} {xs ys : List V} {s t : List (List Int)} {Q : VK} (ha : SqL K H a xs) (hb : SqL K H b ys) (hs : AllL K H xs s) (ht : AllL K H ys t) (q : Q (.bl (decide (s = t))) H) : rEqD K (.ref a) (.ref b) H Q :=
  dEq (.lst ha hs.dp) (.lst hb ht.dp) (shaped_ll s) (shaped_ll t) q
theorem rNe_ll {K : PySem.W.Frag} {H : Hp} {a b : Addr} {xs ys : List V} {s t : List (List Int)} {Q : VK} (ha : SqL K H a xs) (hb : SqL K H b ys) (hs : AllL K H xs s) (ht : AllL K H ys t) (q : Q (.bl (!decide (s = t))) H) : rNeD K (.ref a) (.ref b) H Q :=
  dNe (.lst ha hs.dp) (.lst hb ht.dp) (shaped_ll s) (shaped_ll t) q
def spLaw (K : PySem.W.Frag) : Sp := fun vs H Q _ => ∃ (a : Addr) (ns : List Int), vs = [.ref a] ∧ SqL K H a (vi ns) ∧ ns.length ≤ 63 ∧ ∀ H', Q (.bl true) H'

end Rv

namespace Rv
open PySem PySem.Spec PyProof.Rows L2
open Rm (zs at')
/-! ### is_arcs -/
abbrev s_is_arcs : Stmt := topS 6
theorem sc_is_arcs : FnScope ["some", "open_ones", "k"] ["some"] (defScope s_is_arcs) := ⟨rfl, rfl, rfl, by decide +kernel, rfl, by decide +kernel, by decide +kernel⟩
def spIsArcs (K : PySem.W.Frag) : Sp := fun vs H Q _ => ∃ (a : Addr) (s : List Int), vs = [.ref a] ∧ SqL K H a (vi s) ∧ s.length ≤ 1000 ∧ ∀ b H', Same H H' → (b = true ↔ Rm.Good s) → Q (.bl b) H'
section
variable {P : Program} {w : World} {K : PySem.W.Frag} {mg : Str → Option Value} {base : Heap}
theorem ok_is_arcs {tM : Tok} (D : Dfn K mg "is_arcs" s_is_arcs ["some"]) (B : Blt mg) (g_MOST : mg "MOST" = some (.int 20 tM)) : Cal P w K mg base 1 "is_arcs" (spIsArcs K) := by
  refine D.cal sc_is_arcs (fun vs H Q E h => ?_) (fun f cdv A outer s0 H vs Q E hr h => ?_)
  · obtain ⟨a, s, rfl, _⟩ := h
    rfl
  · obtain ⟨a, s, rfl, hS, hlen, q⟩ := h
    refine ⟨_, (pss_cons (ps_if (PW.pt (pw_or (pt_cmpR op_lt (pe_callB call_len_seq (by rfl) B.len_ PySem.boot_len (pa_cons (pv 0) pa_nil)) pe_int (nomark _)) (pw_or1 (pt_cmpR op_gt (pe_callB call_len_seq (by rfl) B.len_ PySem.boot_len (pa_cons (pv 0) pa_nil)) (pe_op op_mul pe_int (pe_glob (v := .int 20) (by rfl) g_MOST ⟨_, rfl⟩)) (nomark _)))))
        (pss_one (ps_ret pe_bl))
        pss_nil)
      (pss_cons (ps_set (i := 1) sc_is_arcs.nd rfl (.inl rfl) (pe_lst pa_nil))
      (pss_cons (ps_for PassesOwn.never rfl (pi_range1 (by rfl) B.range_ (pa_cons (pe_callB call_len_seq (by rfl) B.len_ PySem.boot_len (pa_cons (pv 0) pa_nil)) pa_nil)) (pg_name (i := 2) sc_is_arcs.nd rfl (.inl rfl))
        (pss_cons (ps_if (PW.pt (pw_or (pt_not (pt_chain op_le op_lt pe_int (pe_ix ix_list (pv 0) (pv 2) (fun _ _ => rfl)) (pe_callB call_len_seq (by rfl) B.len_ PySem.boot_len (pa_cons (pv 0) pa_nil)))) (pw_or (pt_cmpR op_eq (pe_ix ix_list (pv 0) (pv 2) (fun _ _ => rfl)) (pv 2) (nomark _)) (pw_or1 (pt_cmpR op_ne (pe_ix ix_list (pv 0) (pe_ix ix_list (pv 0) (pv 2) (fun _ _ => rfl)) (fun _ _ => rfl)) (pv 2) (nomark _))))))
          (pss_one (ps_ret pe_bl))
          pss_nil)
        (pss_one (ps_if (pt_cmpR op_gt (pe_ix ix_list (pv 0) (pv 2) (fun _ _ => rfl)) (pv 2) (nomark _))
          (pss_one (ps_expr (pe_bm PySem.F.plainAttrs_list PySem.F.slot_list_append PySem.F.type_list_append mt_append (pv 1) (pa_cons (pv 2) pa_nil))))
          (pss_one (ps_if (pt_cmpR op_ne (pe_bm0 PySem.F.plainAttrs_list PySem.F.slot_list_pop PySem.F.type_list_pop mt_pop (pv 1)) (pe_ix ix_list (pv 0) (pv 2) (fun _ _ => rfl)) (nomark _))
            (pss_one (ps_ret pe_bl))
            pss_nil))))))
      (pss_one (ps_ret pe_bl))))), ?_⟩
    refine ⟨.ref a, rfl, a, _, rfl, .inl hS, _, _, rfl, rfl, _, rfl, ite2 (fun e => ?_) (fun e => ?_)⟩
    · have e := of_decide_eq_true e
      rw [List.length_map] at e
      refine iteT (q false H (Same.refl H) ⟨fun z => (nomatch z), fun G => ?_⟩)
      have := G.1.1
      omega
    have e1 := of_decide_eq_false (Bool.eq_false_iff.mpr e)
    rw [List.length_map] at e1
    refine ⟨.ref a, rfl, a, _, rfl, .inl hS, _, _, rfl, rfl, .inl ⟨by decide, by decide⟩, _, _, rfl, rfl, _, rfl, ite2 (fun e => ?_) (fun e => ?_)⟩
    · have e := of_decide_eq_true e
      rw [List.length_map] at e
      refine q false H (Same.refl H) ⟨fun z => (nomatch z), fun G => ?_⟩
      have := G.1.2
      omega
    have e2 := of_decide_eq_false (Bool.eq_false_iff.mpr e)
    rw [List.length_map] at e2
    have hL : 2 ≤ s.length ∧ s.length ≤ 40 := by omega
    refine ⟨Nat.zero_le _, fun p np => ?_⟩
    refine ⟨.ref a, rfl, a, _, rfl, .inl ((same_new np).seq hS), _, rfl, by rw [List.length_map]; omega, by rw [List.length_map]; omega, ?_⟩
    rw [show ((vi s).length : Int).toNat = s.length by rw [List.length_map]; omega]
    refine for_range (lo := 0) (n := s.length) (fun i σ H' => ∃ y2, σ = [some (.ref a), some (.ref p), y2] ∧ Same H H' ∧ H' p = some (.lst (vn (Rm.opens s i))) ∧ Rm.Stage s i) ⟨none, rfl, same_new np, upd_same, Rm.stage0 s⟩ (fun i σ H' hi hP => ?_) (fun σ H' hP => ?_)
    · obtain ⟨y2, rfl, sm, hp, st⟩ := hP
      have hS' := sm.seq hS
      rw [Int.zero_add]
      have iv : atI (vi s) (i : Int) = some (.int (Rm.g s i)) := vi_at hi rfl
      have bad : ¬ Rm.OkAt s i → Q (.bl false) H' := fun h => q false H' sm ⟨fun z => (nomatch z), fun G => absurd (G.2.1 i hi) h⟩
      -- 0 <= some[k] < len(some)
      refine ⟨.ref a, rfl, .int i, rfl, a, _, _, _, rfl, rfl, hS', iv, _, _, rfl, rfl, _, rfl, ite2 (fun e1 => ?_) (fun e1 => ?_)⟩
      case refine_2 =>
        exact ⟨_, rfl, iteT (bad fun ok => e1 (decide_eq_true ok.1))⟩
      have e1 := of_decide_eq_true e1
      refine ⟨.ref a, rfl, a, _, rfl, .inl hS', _, _, rfl, rfl, _, rfl, ?_⟩
      show if (!decide (Rm.g s i < ((vi s).length : Int))) = true then _ else _
      rw [List.length_map]
      refine ite2 (fun e2 => ?_) (fun e2 => ?_)
      · refine iteT (bad fun ok => ?_)
        have := ok.2.1
        rw [decide_eq_true this] at e2
        exact nomatch e2
      have e2 : Rm.g s i < (s.length : Int) := by
        rcases Bool.eq_false_or_eq_true (decide (Rm.g s i < (s.length : Int))) with z | z
        · exact of_decide_eq_true z
        · rw [z] at e2; exact absurd rfl e2
      -- some[k] == k
      refine ⟨.ref a, rfl, .int i, rfl, a, _, _, _, rfl, rfl, hS', iv, .int i, rfl, rfl, _, rfl, ite2 (fun e3 => ?_) (fun e3 => ?_)⟩
      · exact iteT (bad fun ok => ok.2.2.1 (V.int.inj (of_decide_eq_true e3)))
      have e3 : Rm.g s i ≠ (i : Int) := fun z => e3 (decide_eq_true (congrArg V.int z))
      -- some[some[k]] != k
      have iv2 : atI (vi s) (Rm.g s i) = some (.int (Rm.g s (Rm.g s i).toNat)) := vi_at (by omega) (by omega)
      refine ⟨.ref a, rfl, .ref a, rfl, .int i, rfl, a, _, _, _, rfl, rfl, hS', iv, a, _, _, _, rfl, rfl, hS', iv2, .int i, rfl, rfl, _, rfl, ite2 (fun e4 => ?_) (fun e4 => ?_)⟩
      · refine bad fun ok => ?_
        rw [ok.2.2.2, decide_eq_true rfl] at e4
        exact nomatch e4
      have e4 : Rm.g s (Rm.g s i).toNat = (i : Int) := by
        rcases Bool.eq_false_or_eq_true (decide (V.int (Rm.g s (Rm.g s i).toNat) = V.int (i : Int))) with z | z
        · exact V.int.inj (of_decide_eq_true z)
        · rw [z] at e4; exact absurd rfl e4
      have ok : Rm.OkAt s i := ⟨e1, e2, e3, e4⟩
      -- some[k] > k
      refine ⟨.ref a, rfl, .int i, rfl, a, _, _, _, rfl, rfl, hS', iv, .int i, rfl, _, _, rfl, rfl, _, rfl, ite2 (fun e5 => ?_) (fun e5 => ?_)⟩
      · have e5 := of_decide_eq_true e5
        refine ⟨.ref p, rfl, .inl ⟨rfl, _, sqL hp⟩, .int i, rfl, p, _, _, rfl, rfl, hp, ?_, ?_⟩
        · rw [vn_len]
          exact small63 (by have := Rm.opens_len s i; omega)
        · refine ⟨_, rfl, same_upd sm np, ?_, Rm.stage_push st ok e5⟩
          rw [upd_same, vn_push, Rm.opens_push st e5]
      · have e5 : Rm.g s i < (i : Int) := by
          have : ¬ (i : Int) < Rm.g s i := fun z => e5 (decide_eq_true z)
          omega
        obtain ⟨l, t, eo⟩ := Rm.opens_ne ok e5
        rw [eo] at hp
        refine ⟨.ref p, rfl, .inl ⟨rfl, _, sqL hp⟩, p, _, _, rfl, rfl, hp, vn_last l t, ?_⟩
        have sm2 := same_upd (o := .lst (vn l)) sm np
        rw [vn_drop]
        refine ⟨.ref a, rfl, .int i, rfl, a, _, _, _, rfl, rfl, sm2.seq hS, iv, rfl, _, rfl, ite2 (fun e6 => ?_) (fun e6 => ?_)⟩
        · have e6 : (t : Int) ≠ Rm.g s i := fun z => by
            rw [z, decide_eq_true rfl] at e6
            exact nomatch e6
          exact q false _ sm2 ⟨fun z => (nomatch z), fun G => absurd G.2.2 (Rm.stage_cross st ok e5 hi eo e6)⟩
        · have e6 : (t : Int) = Rm.g s i := by
            rcases Bool.eq_false_or_eq_true (decide (V.int (t : Int) = V.int (Rm.g s i))) with z | z
            · exact V.int.inj (of_decide_eq_true z)
            · rw [z] at e6; exact absurd rfl e6
          refine ⟨_, rfl, sm2, ?_, Rm.stage_pop st ok eo e6⟩
          rw [upd_same, Rm.opens_pop st ok e5 eo e6]
    · obtain ⟨y2, rfl, sm, hp, st⟩ := hP
      exact q true H' sm ⟨fun _ => Rm.stage_good hL st, fun _ => rfl⟩
end

end Rv

namespace Rv
open PySem PySem.Spec PyProof.Rows L2
open Rm (zs at')
/-! ### ask, of arcs -/
abbrev s_ask : Stmt := topS 7
theorem sc_ask : FnScope ["arcs"] ["arcs"] (defScope s_ask) := ⟨rfl, rfl, rfl, by decide +kernel, rfl, by decide +kernel, by decide +kernel⟩
def spAsk (K : PySem.W.Frag) : Sp := fun vs H Q _ => ∃ (a : Addr) (s : List Int), vs = [.ref a] ∧ SqL K H a (vi s) ∧ Rm.Good s ∧ ∀ H', Same H H' → Q .non H'
section
variable {P : Program} {w : World} {K : PySem.W.Frag} {mg : Str → Option Value} {base : Heap}
theorem ok_ask (D : Dfn K mg "ask" s_ask ["arcs"]) (c_is_arcs : Cal P w K mg base 1 "is_arcs" (spIsArcs K)) : Cal P w K mg base 2 "ask" (spAsk K) := by
  refine D.cal sc_ask (fun vs H Q E h => ?_) (fun f cdv A outer s0 H vs Q E hr h => ?_)
  · obtain ⟨a, s, rfl, _⟩ := h
    rfl
  · obtain ⟨a, s, rfl, hS, G, q⟩ := h
    refine ⟨_, (pss_one (ps_if (pt_not (pt_val (pe_c c_is_arcs hr (by omega) (by rfl) (pa_cons (pv 0) pa_nil))))
        (pss_one (ps_never))
        pss_nil)), ?_⟩
    refine ⟨.ref a, rfl, a, s, rfl, hS, by have := G.1; omega, fun b H' sm hb => ⟨b, rfl, ?_⟩⟩
    rw [hb.mpr G]
    exact iteF (q H' sm)
end

end Rv

namespace Rv
open PySem PySem.Spec PyProof.Rows L2
open Rm (zs at')
/-! ### _law_cell_at -/
abbrev s_law_cell_at : Stmt := topS 13
theorem sc_law_cell_at : FnScope ["script", "k"] ["script", "k"] (defScope s_law_cell_at) := ⟨rfl, rfl, rfl, by decide +kernel, rfl, by decide +kernel, by decide +kernel⟩
def spCell (K : PySem.W.Frag) : Sp := fun vs H Q _ => ∃ (a : Addr) (ns : List Int) (k : Int), vs = [.ref a, .int k] ∧ SqL K H a (vi ns) ∧ 0 ≤ k ∧ ∀ c : Int, Q (.int c) H
section
variable {P : Program} {w : World} {K : PySem.W.Frag} {mg : Str → Option Value} {base : Heap}
theorem ok_law_cell_at (D : Dfn K mg "_law_cell_at" s_law_cell_at ["script", "k"]) (B : Blt mg) : Cal P w K mg base 1 "_law_cell_at" (spCell K) := by
  refine D.cal sc_law_cell_at (fun vs H Q E h => ?_) (fun f cdv A outer s0 H vs Q E hr h => ?_)
  · obtain ⟨a, ns, k, rfl, _⟩ := h
    rfl
  · obtain ⟨a, ns, k, rfl, hS, h0, q⟩ := h
    refine ⟨_, (pss_cons (ps_if (pt_cmpR op_lt (pv 1) (pe_callB call_len_seq (by rfl) B.len_ PySem.boot_len (pa_cons (pv 0) pa_nil)) (nomark _))
        (pss_one (ps_ret (pe_ix ix_list (pv 0) (pv 1) (fun _ _ => rfl))))
        pss_nil)
      (pss_one (ps_ret pe_int))), ?_⟩
    refine ⟨.int k, rfl, .ref a, rfl, a, _, rfl, .inl hS, _, _, rfl, rfl, _, rfl, ite2 (fun e => ?_) (fun e => ?_)⟩
    · have e := of_decide_eq_true e
      rw [List.length_map] at e
      exact ⟨.ref a, rfl, .int k, rfl, a, _, _, _, rfl, rfl, hS, vi_at (k := k.toNat) (by omega) (by omega), q _⟩
    · exact q 0
end

end Rv

namespace Rv
open PySem PySem.Spec PyProof.Rows L2
open Rm (zs at')
/-! ### _law_whole -/
abbrev s_law_whole : Stmt := topS 14
theorem sc_law_whole : FnScope ["found"] ["found"] (defScope s_law_whole) := ⟨rfl, rfl, rfl, by decide +kernel, rfl, by decide +kernel, by decide +kernel⟩
theorem tyInt {K : PySem.W.Frag} {H : Hp} (i : Int) : TyX K H (.int i) (.type "int") := .base (.int i)
def spWhole : Sp := fun vs H Q _ => ∃ i : Int, vs = [.int i] ∧ Q (.bl true) H
section
variable {P : Program} {w : World} {K : PySem.W.Frag} {mg : Str → Option Value} {base : Heap}
theorem ok_law_whole (D : Dfn K mg "_law_whole" s_law_whole ["found"]) (B : Blt mg) : Cal P w K mg base 1 "_law_whole" spWhole := by
  refine D.cal sc_law_whole (fun vs H Q E h => ?_) (fun f cdv A outer s0 H vs Q E hr h => ?_)
  · obtain ⟨i, rfl, _⟩ := h
    rfl
  · obtain ⟨i, rfl, q⟩ := h
    refine ⟨_, (pss_one (ps_ret (pe_and (pe_callB call_isi (by rfl) B.isinstance_ (by decide +kernel) (pa_cons (pv 0) (pa_cons (pe_bltn (v := .ty "int") (by rfl) B.int_ (by decide +kernel) rfl) pa_nil))) (pe_one (pe_not (pe_callB call_isi (by rfl) B.isinstance_ (by decide +kernel) (pa_cons (pv 0) (pa_cons (pe_bltn (v := .ty "bool") (by rfl) B.bool_ (by decide +kernel) rfl) pa_nil)))))))), ?_⟩
    refine ⟨.int i, rfl, _, _, _, _, true, rfl, .ty "int", tyInt i, kit_ty (by decide +kernel), true, rfl, iteT ?_⟩
    exact ⟨.int i, rfl, _, _, _, _, false, rfl, .ty "bool", tyInt i, kit_ty (by decide +kernel), false, rfl, q⟩
end

end Rv

namespace Rv
open PySem PySem.Spec PyProof.Rows L2
open Rm (zs at')
/-! ### _law_numbers -/
abbrev s_law_numbers : Stmt := topS 15
theorem sc_law_numbers : FnScope ["found", "due", "x"] ["found", "due"] (defScope s_law_numbers) := ⟨rfl, rfl, rfl, by decide +kernel, rfl, by decide +kernel, by decide +kernel⟩
theorem tyLst {K : PySem.W.Frag} {H : Hp} {p : Addr} {xs : List V} (h : H p = some (.lst xs)) : TyX K H (.ref p) (.type "list") := .base (.lst h)
def spNumbers (K : PySem.W.Frag) : Sp := fun vs H Q _ => ∃ (p b : Addr) (s t : List Int), vs = [.ref p, .ref b] ∧ H p = some (.lst (vi s)) ∧ SqL K H b (vi t) ∧ (s = t → Q (.bl true) H) ∧ (s ≠ t → Q (.bl false) H)
section
variable {P : Program} {w : World} {K : PySem.W.Frag} {mg : Str → Option Value} {base : Heap}
theorem ok_law_numbers (D : Dfn K mg "_law_numbers" s_law_numbers ["found", "due"]) (B : Blt mg) (c_law_whole : Cal P w K mg base 1 "_law_whole" spWhole) : Cal P w K mg base 2 "_law_numbers" (spNumbers K) := by
  refine D.cal sc_law_numbers (fun vs H Q E h => ?_) (fun f cdv A outer s0 H vs Q E hr h => ?_)
  · obtain ⟨p, b, s, t, rfl, _⟩ := h
    rfl
  · obtain ⟨p, b, s, t, rfl, hP, hT, q1, q2⟩ := h
    refine ⟨_, (pss_cons (ps_if (PW.pt (pw_or (pt_not (pt_val (pe_callB call_isi (by rfl) B.isinstance_ (by decide +kernel) (pa_cons (pv 0) (pa_cons (pe_bltn (v := .ty "list") (by rfl) B.list_ (by decide +kernel) rfl) pa_nil))))) (pw_or1 (pt_cmpR op_ne (pe_callB call_len_seq (by rfl) B.len_ PySem.boot_len (pa_cons (pv 0) pa_nil)) (pe_callB call_len_seq (by rfl) B.len_ PySem.boot_len (pa_cons (pv 1) pa_nil)) (nomark _)))))
        (pss_one (ps_ret pe_bl))
        pss_nil)
      (pss_cons (ps_for PassesOwn.never rfl (pi_list (pv 0)) (pg_name (i := 2) sc_law_numbers.nd rfl (.inl rfl))
        (pss_one (ps_if (pt_not (pt_val (pe_c c_law_whole hr (by omega) (by rfl) (pa_cons (pv 2) pa_nil))))
          (pss_one (ps_ret pe_bl))
          pss_nil)))
      (pss_one (ps_ret (pe_cmpR (op_eqD (hu64 hr)) (pv 0) (pv 1) (nomark _)))))), ?_⟩
    refine ⟨.ref p, rfl, _, _, _, _, true, rfl, .ty "list", tyLst hP, kit_ty (by decide +kernel), true, rfl, iteF ?_⟩
    refine ⟨.ref p, rfl, p, _, rfl, .inl (sqL hP), .ref b, rfl, b, _, rfl, .inl hT, rfl, _, rfl, ite2 (fun e => ?_) (fun e => ?_)⟩
    · refine q2 fun z => ?_
      rw [z, decide_eq_true rfl] at e
      exact nomatch e
    refine ⟨.ref p, rfl, p, rfl, ⟨_, sqL hP⟩, for_list (xs := vi s) (fun i σ H' => H' = H ∧ ∃ y2, σ = [some (.ref p), some (.ref b), y2]) ⟨rfl, none, rfl⟩ (fun i σ H' _ h => ?_) (fun i v σ H' hi h => ?_) (fun σ H' h => ?_)⟩
    · rw [h.1]
      exact sqL hP
    · obtain ⟨rfl, y2, rfl⟩ := h
      have hi' : i < s.length := by
        have := (List.getElem?_eq_some_iff.mp hi).1
        simpa using this
      rw [vi_get hi'] at hi
      cases hi
      exact ⟨_, rfl, _, rfl, true, rfl, iteF ⟨rfl, _, rfl⟩⟩
    · obtain ⟨rfl, y2, rfl⟩ := h
      refine ⟨.ref p, rfl, .ref b, rfl, rEq_ints (sqL hP) hT ?_⟩
      by_cases z : s = t
      · rw [decide_eq_true z]; exact q1 z
      · rw [decide_eq_false z]; exact q2 z
end

end Rv

namespace Rv
open PySem PySem.Spec PyProof.Rows L2
open Rm (zs at')
/-! ### _law_arcs -/
abbrev s_law_arcs : Stmt := topS 16
theorem sc_law_arcs : FnScope ["script", "at", "size", "found", "ahead", "k", "cell", "other"] ["script", "at", "size"] (defScope s_law_arcs) := ⟨rfl, rfl, rfl, by decide +kernel, rfl, by decide +kernel, by decide +kernel⟩
def spLawArcs (K : PySem.W.Frag) : Sp := fun vs H Q _ => ∃ (a : Addr) (ns : List Int) (at0 : Int) (n : Nat), vs = [.ref a, .int at0, .int (n : Int)] ∧ SqL K H a (vi ns) ∧ 0 ≤ at0 ∧ 1 ≤ n ∧ n ≤ 20 ∧
  ∀ H' p fd, Rm.ArcsL n fd → Same H H' → H p = none → H' p = some (.lst (vn fd)) → Q (.ref p) H'
theorem pick4 (c : Int) (x y : Int) : ∃ z : Int, atI [V.int x, V.int y, V.int 0, V.int 1] ((c.fdiv 4).fmod 4) = some (.int z) := by
  have h0 := Int.fmod_nonneg_of_pos (c.fdiv 4) (show (0 : Int) < 4 by decide)
  have h1 := Int.fmod_lt_of_pos (c.fdiv 4) (show (0 : Int) < 4 by decide)
  generalize (c.fdiv 4).fmod 4 = r at h0 h1
  have : r = 0 ∨ r = 1 ∨ r = 2 ∨ r = 3 := by omega
  rcases this with rfl | rfl | rfl | rfl
  · exact ⟨x, rfl⟩
  · exact ⟨y, rfl⟩
  · exact ⟨0, rfl⟩
  · exact ⟨1, rfl⟩
section
variable {P : Program} {w : World} {K : PySem.W.Frag} {mg : Str → Option Value} {base : Heap}
theorem ok_law_arcs (D : Dfn K mg "_law_arcs" s_law_arcs ["script", "at", "size"]) (B : Blt mg) (c_law_cell_at : Cal P w K mg base 1 "_law_cell_at" (spCell K)) : Cal P w K mg base 2 "_law_arcs" (spLawArcs K) := by
  refine D.cal sc_law_arcs (fun vs H Q E h => ?_) (fun f cdv A outer s0 H vs Q E hr h => ?_)
  · obtain ⟨a, ns, at0, n, rfl, _⟩ := h
    rfl
  · obtain ⟨a, ns, at0, n, rfl, hS, h0, h1, h20, q⟩ := h
    refine ⟨_, (pss_cons (ps_set (i := 3) sc_law_arcs.nd rfl (.inl rfl) (pe_op op_rep (pe_lst (pa_cons pe_int pa_nil)) (pe_op op_mul pe_int (pv 2))))
      (pss_cons (ps_set (i := 4) sc_law_arcs.nd rfl (.inl rfl) (pe_lst pa_nil))
      (pss_cons (ps_for PassesOwn.never rfl (pi_range1 (by rfl) B.range_ (pa_cons (pe_op op_mul pe_int (pv 2)) pa_nil)) (pg_name (i := 5) sc_law_arcs.nd rfl (.inl rfl))
        (pss_cons (ps_set (i := 6) sc_law_arcs.nd rfl (.inl rfl) (pe_c c_law_cell_at hr (by omega) (by rfl) (pa_cons (pv 0) (pa_cons (pe_op op_add (pv 1) (pv 5)) pa_nil))))
        (C8.pss_cut (ps_if (pt_cmpR op_gt (pe_op op_add (pv 1) (pv 5)) pe_int (nomark _))
          (pss_one (ps_set (i := 6) sc_law_arcs.nd rfl (.inl rfl) (pe_op op_fdivN (pe_c c_law_cell_at hr (by omega) (by rfl) (pa_cons (pv 0) (pa_cons (pe_op op_sub (pe_op op_add (pv 1) (pv 5)) pe_int) pa_nil))) pe_int)))
          pss_nil)
        (pss_one (ps_if (PW.pt (pw_and (pt_cmpR op_lt (pe_callB call_len_seq (by rfl) B.len_ PySem.boot_len (pa_cons (pv 4) pa_nil)) (pe_op op_sub (pe_op op_mul pe_int (pv 2)) (pv 5)) (nomark _)) (pw_and1 (PW.pt (pw_or (pt_cmpR op_eq (pe_callB call_len_seq (by rfl) B.len_ PySem.boot_len (pa_cons (pv 4) pa_nil)) pe_int (nomark _)) (pw_or1 (pt_cmpR op_eq (pe_op op_modN (pe_ix ix_list (pe_lst (pa_cons (pv 6) (pa_cons (pe_op op_fdivN (pv 6) pe_int) (pa_cons pe_int (pa_cons pe_int pa_nil))))) (pe_op op_modN (pe_op op_fdivN (pv 6) pe_int) pe_int) (fun _ _ => rfl)) pe_int) pe_int (nomark _))))))))
          (pss_one (ps_expr (pe_bm PySem.F.plainAttrs_list PySem.F.slot_list_append PySem.F.type_list_append mt_append (pv 4) (pa_cons (pv 5) pa_nil))))
          (pss_cons (ps_set (i := 7) sc_law_arcs.nd rfl (.inl rfl) (pe_bm0 PySem.F.plainAttrs_list PySem.F.slot_list_pop PySem.F.type_list_pop mt_pop (pv 4)))
          (pss_cons (ps_asg (pv 7) (pg_sub (pv 3) (pv 5) set_list))
          (pss_one (ps_asg (pv 5) (pg_sub (pv 3) (pv 7) set_list))))))))))
      (pss_one (ps_ret (pv 3)))))), ?_⟩
    refine ⟨by show 1 ≤ sizeLine; decide, fun x nx => ?_⟩
    have m2 : (2 * (n : Int)).toNat = 2 * n := by omega
    refine ⟨.int n, rfl, 2, n, rfl, rfl, .inl ⟨by decide, by decide⟩, x, _, _, rfl, rfl, upd_same, by omega, by omega, ?_, fun p np => ?_⟩
    · rw [m2]
      exact small63' (by show 1 * (2 * n) ≤ _; omega)
    rw [m2, rep1, vn_rep]
    have sx : Same H (upd H x (.lst [V.int 0])) := same_new nx
    have np0 : H p = none := sx.free np
    refine ⟨Nat.zero_le _, fun o no => ?_⟩
    have sp' := same_new (o := .lst (vn (List.replicate (2 * n) 0))) np
    have no1 := sp'.free no
    have no0 : H o = none := sx.free no1
    have hpo : p ≠ o := ne_of_none upd_same no
    refine ⟨.int n, rfl, 2, n, rfl, rfl, .inl ⟨by decide, by decide⟩, _, rfl, by omega, by omega, ?_⟩
    rw [m2]
    refine for_range (lo := 0) (n := 2 * n) (fun i σ H' => ∃ y5 y6 y7 fd st, σ = [some (.ref a), some (.int at0), some (.int n), some (.ref p), some (.ref o), y5, y6, y7] ∧ Same H H' ∧ H' p = some (.lst (vn fd)) ∧ H' o = some (.lst (vn st)) ∧ Rm.Bld (2 * n) i fd st ∧ st.length ≤ 2 * n - i ∧ (st.length + i) % 2 = 0)
      ⟨none, none, none, List.replicate (2 * n) 0, [], rfl, (sx.trans sp').trans (same_new no), by rw [upd_ne hpo, upd_same], upd_same, Rm.bld0 _ _ (List.length_replicate), Nat.zero_le _, rfl⟩ (fun i σ H' hi hP => ?_) (fun σ H' hP => ?_)
    · obtain ⟨y5, y6, y7, fd, st, rfl, sm, hp, ho, bl, hsl, hpar⟩ := hP
      rw [Int.zero_add]
      have hS' := sm.seq hS
      -- cell = _law_cell_at(script, at + k)
      refine ⟨.ref a, rfl, .int at0, rfl, .int i, rfl, _, _, rfl, rfl, a, ns, _, rfl, hS', by omega, ?_⟩
      intro c0
      -- what stands in the cell's slot is a number
      refine ⟨fun σ2 H2 => ∃ c : Int, σ2 = [some (.ref a), some (.int at0), some (.int n), some (.ref p), some (.ref o), some (.int i), some (.int c), y7] ∧ H' = H2, ?_, ?_⟩
      · refine ⟨.int at0, rfl, .int i, rfl, _, _, rfl, rfl, _, _, rfl, rfl, _, rfl, ite2 (fun e => ?_) (fun e => ⟨c0, rfl, rfl⟩)⟩
        have e := of_decide_eq_true e
        refine ⟨.ref a, rfl, .int at0, rfl, .int i, rfl, _, _, rfl, rfl, _, _, rfl, rfl, a, ns, _, rfl, hS', by omega, fun c2 => ?_⟩
        exact ⟨_, _, rfl, rfl, ⟨by decide, by decide⟩, _, rfl, rfl⟩
      rintro σ2 H2 ⟨c, rfl, rfl⟩
      refine ⟨.ref o, rfl, o, _, rfl, .inl (sqL ho), .int n, rfl, 2, n, rfl, rfl, .inl ⟨by decide, by decide⟩, .int i, rfl, _, _, rfl, rfl, _, _, rfl, rfl, _, rfl, ?_⟩
      rw [vn_len]
      apply joinC (α := Hp) (C := fun H2 => Same H' H2 ∧ st.length < 2 * n - i)
      · intro hpush
        apply joinC (α := Hp) (C := fun H2 => Same H' H2 ∧ st ≠ [])
        · intro hpop
          refine ite2 (fun e1 => ?_) (fun e1 => ?_)
          · have e1 := of_decide_eq_true e1
            refine ⟨.ref o, rfl, o, _, rfl, .inl (sqL ho), rfl, _, rfl, ?_⟩
            rw [vn_len]
            refine ite2 (fun e2 => ?_) (fun e2 => ?_)
            · exact iteT (hpush H' ⟨Same.refl _, by omega⟩)
            · refine ⟨.int c, rfl, .int c, rfl, c, 2, rfl, rfl, ⟨by decide, by decide⟩, by show 4 ≤ sizeLine; decide, fun x2 nx2 => ?_⟩
              obtain ⟨z, hz⟩ := pick4 c c (c.fdiv 2)
              refine ⟨.int c, rfl, _, _, rfl, rfl, ⟨by decide, by decide⟩, _, _, rfl, rfl, (show (4 : Int) ≠ 0 by decide), x2, _, _, _, rfl, rfl, sqL upd_same, hz, _, _, rfl, rfl, (show (2 : Int) ≠ 0 by decide), rfl, _, rfl, ite2 (fun e3 => ?_) (fun e3 => ?_)⟩
              · exact hpush _ ⟨same_new nx2, by omega⟩
              · refine hpop _ ⟨same_new nx2, fun z => e2 ?_⟩
                rw [z]
                rfl
          · exact iteF (hpop H' ⟨Same.refl _, fun z => by
              subst z
              exact dn e1 (by simp; omega)⟩)
        · intro H2 hC
          obtain ⟨s2, hne⟩ := hC
          obtain ⟨l, t, rfl⟩ : ∃ l t, st = l ++ [t] := by
            rcases List.eq_nil_or_concat st with e | ⟨l, t, e⟩
            · exact absurd e hne
            · exact ⟨l, t, by rw [e, List.concat_eq_append]⟩
          have htk : t < i := bl.slt t (by simp)
          refine ⟨.ref o, rfl, .inl ⟨rfl, _, sqL (s2 _ _ ho)⟩, o, _, _, rfl, rfl, s2 _ _ ho, vn_last l t, ?_⟩
          rw [vn_drop]
          have hl2 := bl.len
          refine ⟨.int t, rfl, .ref p, rfl, .int i, rfl, p, _, _, i, rfl, rfl, by rw [upd_ne hpo]; exact s2 _ _ hp, ixN_nat (by rw [vn_len]; omega), ?_⟩
          rw [vn_set]
          refine ⟨.int i, rfl, .ref p, rfl, .int t, rfl, p, _, _, t, rfl, rfl, upd_same, ixN_nat (by rw [vn_len, List.length_set]; omega), ?_⟩
          rw [vn_set]
          have hlen : (l ++ [t]).length = l.length + 1 := by simp
          refine ⟨_, _, _, _, l, rfl, same_upd (same_upd (same_upd (sm.trans s2) no0) np0) np0, upd_same, ?_, Rm.bld_pop bl hi, by omega, by omega⟩
          rw [upd_ne (Ne.symm hpo), upd_ne (Ne.symm hpo), upd_same]
      · intro H2 hC
        obtain ⟨s2, hlt⟩ := hC
        refine ⟨.ref o, rfl, .inl ⟨rfl, _, sqL (s2 _ _ ho)⟩, .int i, rfl, o, _, _, rfl, rfl, s2 _ _ ho, ?_, ?_⟩
        · rw [vn_len]
          exact small63 (by omega)
        · refine ⟨_, _, _, fd, st ++ [i], rfl, same_upd (sm.trans s2) no0, ?_, by rw [upd_same, vn_push], Rm.bld_push bl hi, ?_, ?_⟩
          · rw [upd_ne hpo]; exact s2 _ _ hp
          · rw [List.length_append, List.length_singleton]; omega
          · rw [List.length_append, List.length_singleton]; omega
    · obtain ⟨y5, y6, y7, fd, st, rfl, sm, hp, ho, bl, hsl, hpar⟩ := hP
      have e0 : st = [] := List.length_eq_zero_iff.mp (by omega)
      subst e0
      exact ⟨.ref p, rfl, q H' p fd (Rm.bld_arcs bl) sm np0 hp⟩
end

end Rv

namespace Rv
open PySem PySem.Spec PyProof.Rows L2
open Rm (zs at')
/-! ### _law_good -/
abbrev s_law_good : Stmt := topS 17
theorem sc_law_good : FnScope ["some", "k", "j"] ["some"] (defScope s_law_good) := ⟨rfl, rfl, rfl, by decide +kernel, rfl, by decide +kernel, by decide +kernel⟩
def spGood (K : PySem.W.Frag) : Sp := fun vs H Q _ => ∃ (a : Addr) (s : List Int), vs = [.ref a] ∧ SqL K H a (vi s) ∧ s.length ≤ 1000 ∧ ∀ b, (b = true ↔ Rm.Good s) → Q (.bl b) H
section
variable {P : Program} {w : World} {K : PySem.W.Frag} {mg : Str → Option Value} {base : Heap}
theorem ok_law_good (D : Dfn K mg "_law_good" s_law_good ["some"]) (B : Blt mg) : Cal P w K mg base 1 "_law_good" (spGood K) := by
  refine D.cal sc_law_good (fun vs H Q E h => ?_) (fun f cdv A outer s0 H vs Q E hr h => ?_)
  · obtain ⟨a, s, rfl, _⟩ := h
    rfl
  · obtain ⟨a, s, rfl, hS, hlen, q⟩ := h
    refine ⟨_, (pss_cons (ps_if (PW.pt (pw_or (pt_cmpR op_lt (pe_callB call_len_seq (by rfl) B.len_ PySem.boot_len (pa_cons (pv 0) pa_nil)) pe_int (nomark _)) (pw_or (pt_cmpR op_gt (pe_callB call_len_seq (by rfl) B.len_ PySem.boot_len (pa_cons (pv 0) pa_nil)) pe_int (nomark _)) (pw_or1 (pt_cmpR op_eq (pe_op op_modN (pe_callB call_len_seq (by rfl) B.len_ PySem.boot_len (pa_cons (pv 0) pa_nil)) pe_int) pe_int (nomark _))))))
        (pss_one (ps_ret pe_bl))
        pss_nil)
      (pss_cons (ps_for PassesOwn.never rfl (pi_range1 (by rfl) B.range_ (pa_cons (pe_callB call_len_seq (by rfl) B.len_ PySem.boot_len (pa_cons (pv 0) pa_nil)) pa_nil)) (pg_name (i := 1) sc_law_good.nd rfl (.inl rfl))
        (pss_cons (ps_if (PW.pt (pw_or (pt_not (pt_chain op_le op_lt pe_int (pe_ix ix_list (pv 0) (pv 1) (fun _ _ => rfl)) (pe_callB call_len_seq (by rfl) B.len_ PySem.boot_len (pa_cons (pv 0) pa_nil)))) (pw_or (pt_cmpR op_eq (pe_ix ix_list (pv 0) (pv 1) (fun _ _ => rfl)) (pv 1) (nomark _)) (pw_or1 (pt_cmpR op_ne (pe_ix ix_list (pv 0) (pe_ix ix_list (pv 0) (pv 1) (fun _ _ => rfl)) (fun _ _ => rfl)) (pv 1) (nomark _))))))
          (pss_one (ps_ret pe_bl))
          pss_nil)
        (pss_one (ps_for PassesOwn.never rfl (pi_range1 (by rfl) B.range_ (pa_cons (pv 1) pa_nil)) (pg_name (i := 2) sc_law_good.nd rfl (.inl rfl))
          (pss_one (ps_if (PW.pt (pw_and (pt_cmpR op_gt (pe_ix ix_list (pv 0) (pv 1) (fun _ _ => rfl)) (pv 1) (nomark _)) (pw_and1 (pt_chain3 op_lt op_lt op_lt (pv 2) (pv 1) (pe_ix ix_list (pv 0) (pv 2) (fun _ _ => rfl)) (pe_ix ix_list (pv 0) (pv 1) (fun _ _ => rfl))))))
            (pss_one (ps_ret pe_bl))
            pss_nil))))))
      (pss_one (ps_ret pe_bl)))), ?_⟩
    have bad : ¬ Rm.Good s → Q (.bl false) H := fun h => q false ⟨fun z => (nomatch z), fun G => absurd G h⟩
    have vl : (vi s).length = s.length := List.length_map _
    refine ⟨.ref a, rfl, a, _, rfl, .inl hS, _, _, rfl, rfl, _, rfl, ?_⟩
    rw [vl]
    refine ite2 (fun e => iteT (bad fun G => ?_)) (fun e => ?_)
    · have := G.1.1; have := of_decide_eq_true e; omega
    have e1 := dn e
    refine ⟨.ref a, rfl, a, _, rfl, .inl hS, _, _, rfl, rfl, _, rfl, ?_⟩
    rw [vl]
    refine ite2 (fun e => iteT (bad fun G => ?_)) (fun e => ?_)
    · have := G.1.2; have := of_decide_eq_true e; omega
    have e2 := dn e
    refine ⟨.ref a, rfl, a, _, rfl, .inl hS, _, _, rfl, rfl, (show (2 : Int) ≠ 0 by decide), rfl, _, rfl, ?_⟩
    rw [vl]
    refine ite2 (fun e => bad fun G => ?_) (fun e => ?_)
    · have h1 := V.int.inj (of_decide_eq_true e)
      have h2 := Rm.good_even G
      rw [Int.fmod_eq_emod_of_nonneg _ (by decide)] at h1
      omega
    have hL : 2 ≤ s.length ∧ s.length ≤ 40 := by omega
    refine ⟨.ref a, rfl, a, _, rfl, .inl hS, _, rfl, by omega, by omega, ?_⟩
    rw [vl, show ((s.length : Int)).toNat = s.length by omega]
    refine for_range (lo := 0) (n := s.length) (fun i σ H' => ∃ y1 y2, σ = [some (.ref a), y1, y2] ∧ H' = H ∧ (∀ k : Nat, k < i → Rm.OkAt s k) ∧ (∀ j k : Nat, j < k → k < i → (k : Int) < Rm.g s j → Rm.g s j < Rm.g s k → False))
      ⟨none, none, rfl, rfl, fun _ h => absurd h (Nat.not_lt_zero _), fun _ _ _ h => absurd h (Nat.not_lt_zero _)⟩ (fun i σ H' hi hP => ?_) (fun σ H' hP => ?_)
    · obtain ⟨y1, y2, rfl, rfl, hok, hnc⟩ := hP
      rw [Int.zero_add]
      have iv : atI (vi s) (i : Int) = some (.int (Rm.g s i)) := vi_at hi rfl
      have badi : ¬ Rm.OkAt s i → Q (.bl false) H' := fun h => bad fun G => absurd (G.2.1 i hi) h
      refine ⟨.ref a, rfl, .int i, rfl, a, _, _, _, rfl, rfl, hS, iv, _, _, rfl, rfl, _, rfl, ite2 (fun e1 => ?_) (fun e1 => ⟨_, rfl, iteT (badi fun ok => dn e1 ok.1)⟩)⟩
      have e1 := of_decide_eq_true e1
      refine ⟨.ref a, rfl, a, _, rfl, .inl hS, _, _, rfl, rfl, _, rfl, ?_⟩
      rw [vl]
      refine ite2 (fun e2 => iteT (badi fun ok => nt e2 ok.2.1)) (fun e2 => ?_)
      have e2 := nd e2
      refine ⟨.ref a, rfl, .int i, rfl, a, _, _, _, rfl, rfl, hS, iv, .int i, rfl, rfl, _, rfl, ite2 (fun e3 => iteT (badi fun ok => ok.2.2.1 (V.int.inj (of_decide_eq_true e3)))) (fun e3 => ?_)⟩
      have e3 : Rm.g s i ≠ (i : Int) := fun z => dn e3 (congrArg V.int z)
      have iv2 : atI (vi s) (Rm.g s i) = some (.int (Rm.g s (Rm.g s i).toNat)) := vi_at (by omega) (by omega)
      refine ⟨.ref a, rfl, .ref a, rfl, .int i, rfl, a, _, _, _, rfl, rfl, hS, iv, a, _, _, _, rfl, rfl, hS, iv2, .int i, rfl, rfl, _, rfl, ite2 (fun e4 => badi fun ok => nt e4 (congrArg V.int ok.2.2.2)) (fun e4 => ?_)⟩
      have e4 : Rm.g s (Rm.g s i).toNat = (i : Int) := V.int.inj (nd e4)
      have ok : Rm.OkAt s i := ⟨e1, e2, e3, e4⟩
      -- for j in range(k)
      refine ⟨.int i, rfl, _, rfl, by omega, by omega, ?_⟩
      rw [Int.toNat_natCast]
      refine for_range (lo := 0) (n := i) (fun j σ H'' => ∃ y2, σ = [some (.ref a), some (.int i), y2] ∧ H'' = H' ∧ ∀ j' : Nat, j' < j → (i : Int) < Rm.g s j' → Rm.g s j' < Rm.g s i → False)
        ⟨_, rfl, rfl, fun _ h => absurd h (Nat.not_lt_zero _)⟩ (fun j σ H'' hj hP => ?_) (fun σ H'' hP => ?_)
      · obtain ⟨y2, rfl, rfl, hc⟩ := hP
        rw [Int.zero_add]
        have jv : atI (vi s) (j : Int) = some (.int (Rm.g s j)) := vi_at (by omega) rfl
        have keep : ¬ ((i : Int) < Rm.g s j ∧ Rm.g s j < Rm.g s i) → ∃ y2, [some (V.ref a), some (V.int i), some (V.int j)] = [some (V.ref a), some (V.int i), y2] ∧ H'' = H'' ∧ ∀ j' : Nat, j' < j + 1 → (i : Int) < Rm.g s j' → Rm.g s j' < Rm.g s i → False := fun hn => by
          refine ⟨_, rfl, rfl, fun j' h1 h2 h3 => ?_⟩
          by_cases e : j' = j
          · subst e; exact hn ⟨h2, h3⟩
          · exact hc j' (by omega) h2 h3
        refine ⟨.ref a, rfl, .int i, rfl, a, _, _, _, rfl, rfl, hS, iv, .int i, rfl, _, _, rfl, rfl, _, rfl, ite2 (fun e5 => ?_) (fun e5 => iteF (keep fun z => dn e5 (by omega)))⟩
        refine ⟨.int j, rfl, .int i, rfl, _, _, rfl, rfl, _, rfl, ite2 (fun e6 => ?_) (fun e6 => absurd (show (j : Int) < (i : Int) by omega) (dn e6))⟩
        refine ⟨.ref a, rfl, .int j, rfl, a, _, _, _, rfl, rfl, hS, jv, _, _, rfl, rfl, _, rfl, ite2 (fun e7 => ?_) (fun e7 => ⟨_, rfl, iteF (keep fun z => dn e7 z.1)⟩)⟩
        refine ⟨.ref a, rfl, .int i, rfl, a, _, _, _, rfl, rfl, hS, iv, _, _, rfl, rfl, _, rfl, ite2 (fun e8 => ?_) (fun e8 => keep fun z => dn e8 z.2)⟩
        exact bad fun G => G.2.2 j i hj hi (of_decide_eq_true e7) (of_decide_eq_true e8)
      · obtain ⟨y2, rfl, rfl, hc⟩ := hP
        refine ⟨_, _, rfl, rfl, fun k hk => ?_, fun j k h1 h2 h3 h4 => ?_⟩
        · by_cases e : k = i
          · subst e; exact ok
          · exact hok k (by omega)
        · by_cases e : k = i
          · subst e; exact hc j h1 h3 h4
          · exact hnc j k h1 (by omega) h3 h4
    · obtain ⟨y1, y2, rfl, rfl, hok, hnc⟩ := hP
      exact q true ⟨fun _ => ⟨hL, hok, hnc⟩, fun _ => rfl⟩
end

end Rv

namespace Rv
open PySem PySem.Spec PyProof.Rows L2
open Rm (zs at')
/-! ### turned -/
abbrev s_turned : Stmt := topS 8
theorem sc_turned : FnScope ["arcs", "by", "many", "k"] ["arcs", "by"] (defScope s_turned) := ⟨rfl, rfl, rfl, by decide +kernel, rfl, by decide +kernel, by decide +kernel⟩
def rotL (n : Nat) (by' : Int) (fd : List Nat) : List Nat := Rm.mkL (2 * n) (Rm.rotF (2 * n) (Rm.rotB (2 * n) by') (at' fd))
theorem rotL_arcs {n : Nat} {fd : List Nat} (by' : Int) (A : Rm.ArcsL n fd) (h : 1 ≤ n) : Rm.ArcsL n (rotL n by' fd) := Rm.mkL_arcs (Rm.rot_arcs A.arcs (Rm.rotB_lt by' (by omega)))
def spTurned (K : PySem.W.Frag) : Sp := fun vs H Q _ => ∃ (a : Addr) (by' : Int) (n : Nat) (fd : List Nat), vs = [.ref a, .int by'] ∧ SqL K H a (vn fd) ∧ Rm.ArcsL n fd ∧ 1 ≤ n ∧ n ≤ 20 ∧ NewL H Q (rotL n by' fd)
section
variable {P : Program} {w : World} {K : PySem.W.Frag} {mg : Str → Option Value} {base : Heap}
theorem ok_turned (D : Dfn K mg "turned" s_turned ["arcs", "by"]) (B : Blt mg) (c_ask : Cal P w K mg base 2 "ask" (spAsk K)) : Cal P w K mg base 3 "turned" (spTurned K) := by
  refine D.cal sc_turned (fun vs H Q E h => ?_) (fun f cdv A outer s0 H vs Q E hr h => ?_)
  · obtain ⟨a, by', n, fd, rfl, _⟩ := h
    rfl
  · obtain ⟨a, by', n, fd, rfl, hS, hA, h1, h20, q⟩ := h
    refine ⟨_, (pss_cons (ps_expr (pe_c c_ask hr (by omega) (by rfl) (pa_cons (pv 0) pa_nil)))
      (pss_cons (ps_set (i := 2) sc_turned.nd rfl (.inr rfl) (pe_callB call_len_seq (by rfl) B.len_ PySem.boot_len (pa_cons (pv 0) pa_nil)))
      (pss_one (ps_ret (pe_lc (own := [("k", 3)]) (g := gName 3) (tt := tYes) rfl sc_turned.nd (pi_range1 (by rfl) B.range_ (pa_cons (pv 2) pa_nil)) (blkOk_by (N := ["arcs", "by", "many", "k"]) (sc := defScope s_turned) (by decide +kernel)) (fun _ _ _ _ _ => pg_name (i := 3) sc_turned.nd rfl (Or.inl rfl)) (fun _ _ _ _ _ => pts_nil) (fun _ _ _ _ _ => (pe_op op_modN (pe_op op_add (pe_ix (r := rIxL K) ix_list (pv 0) (pe_op op_modN (pe_op op_sub (pv 3) (pv 1)) (pv 2)) (fun _ _ => rfl)) (pv 1)) (pv 2)))))))), ?_⟩
    have hl := hA.len
    have hm0 : ((2 * n : Nat) : Int) ≠ 0 := by omega
    refine ⟨.ref a, rfl, a, zs fd, rfl, hS, Rm.arcs_good hA h1 h20, fun H1 s1 => ?_⟩
    have hS1 := s1.seq hS
    refine ⟨.ref a, rfl, a, _, rfl, .inl hS1, ?_⟩
    rw [vn_len, hl]
    refine ⟨_, rfl, _, rfl, by omega, by omega, fun p np => ?_⟩
    rw [Int.toNat_natCast]
    refine lc_range (lo := 0) (n := 2 * n) (fun i H' => Same H1 H' ∧ H' p = some (.lst (vn ((rotL n by' fd).take i)))) ⟨same_new np, upd_same⟩ (fun i H' hi hP => ?_) (fun H' hP => ?_)
    · obtain ⟨sm, hp⟩ := hP
      rw [Int.zero_add]
      refine ⟨rfl, ?_⟩
      unfold tYes
      refine iteT ?_
      have hb := Rm.rotB_lt by' (show 0 < 2 * n by omega)
      have lphi := Rm.phi_lt hb hi
      refine ⟨.ref a, rfl, .int i, rfl, .int by', rfl, _, _, rfl, rfl, _, rfl, _, _, rfl, rfl, hm0, a, _, _, _, rfl, rfl, sm.seq hS1, vn_at (k := Rm.phi (2 * n) (Rm.rotB (2 * n) by') i) (by omega) (Rm.mod_sub hi), .int by', rfl, _, _, rfl, rfl, _, rfl, _, _, rfl, rfl, hm0, _, hp, ?_, same_upd sm np, ?_⟩
      · rw [vn_len, List.length_take]
        exact small63 (by omega)
      · rw [upd_same]
        show some (HO.lst (_ ++ [V.int ((((at' fd (Rm.phi (2 * n) (Rm.rotB (2 * n) by') i) : Nat) : Int) + by').fmod ((2 * n : Nat) : Int))])) = _
        rw [Rm.mod_add (hA.arcs.lt _ lphi)]
        exact congrArg (fun l => some (HO.lst l)) (vn_take (rotL n by' fd) i _ (Rm.mkL_get hi))
    · obtain ⟨sm, hp⟩ := hP
      rw [vn_full (l := rotL n by' fd) (Rm.mkL_len _ _)] at hp
      exact q H' p (s1.trans sm) (s1.free np) hp
end

end Rv

namespace Rv
open PySem PySem.Spec PyProof.Rows L2
open Rm (zs at')
/-! ### mirrored -/
abbrev s_mirrored : Stmt := topS 9
theorem sc_mirrored : FnScope ["arcs", "other"] ["arcs"] (defScope s_mirrored) := ⟨rfl, rfl, rfl, by decide +kernel, rfl, by decide +kernel, by decide +kernel⟩
def mirL (n : Nat) (fd : List Nat) : List Nat := Rm.mkL (2 * n) (Rm.mirF (2 * n) (at' fd))
theorem mirL_arcs {n : Nat} {fd : List Nat} (A : Rm.ArcsL n fd) : Rm.ArcsL n (mirL n fd) := Rm.mkL_arcs (Rm.mir_arcs A.arcs)
def spMirrored (K : PySem.W.Frag) : Sp := fun vs H Q _ => ∃ (a : Addr) (n : Nat) (fd : List Nat), vs = [.ref a] ∧ SqL K H a (vn fd) ∧ Rm.ArcsL n fd ∧ 1 ≤ n ∧ n ≤ 20 ∧ NewL H Q (mirL n fd)
section
variable {P : Program} {w : World} {K : PySem.W.Frag} {mg : Str → Option Value} {base : Heap}
theorem ok_mirrored (D : Dfn K mg "mirrored" s_mirrored ["arcs"]) (B : Blt mg) (c_ask : Cal P w K mg base 2 "ask" (spAsk K)) : Cal P w K mg base 3 "mirrored" (spMirrored K) := by
  refine D.cal sc_mirrored (fun vs H Q E h => ?_) (fun f cdv A outer s0 H vs Q E hr h => ?_)
  · obtain ⟨a, n, fd, rfl, _⟩ := h
    rfl
  · obtain ⟨a, n, fd, rfl, hS, hA, h1, h20, q⟩ := h
    refine ⟨_, (pss_cons (ps_expr (pe_c c_ask hr (by omega) (by rfl) (pa_cons (pv 0) pa_nil)))
      (pss_one (ps_ret (pe_lc (own := [("other", 1)]) (g := gName 1) (tt := tYes) rfl sc_mirrored.nd (pi_reversed (by rfl) B.reversed_ (pa_cons (pv 0) pa_nil)) (blkOk_by (N := ["arcs", "other"]) (sc := defScope s_mirrored) (by decide +kernel)) (fun _ _ _ _ _ => pg_name (i := 1) sc_mirrored.nd rfl (Or.inl rfl)) (fun _ _ _ _ _ => pts_nil) (fun _ _ _ _ _ => (pe_op op_sub (pe_op op_sub (pe_callB (r := rLenK K) call_len_seq (by rfl) B.len_ PySem.boot_len (pa_cons (pv 0) pa_nil)) pe_int) (pv 1))))))), ?_⟩
    have hl := hA.len
    refine ⟨.ref a, rfl, a, zs fd, rfl, hS, Rm.arcs_good hA h1 h20, fun H1 s1 => ?_⟩
    have hS1 := s1.seq hS
    refine ⟨.ref a, rfl, a, vn fd, rfl, hS1, fun p np => ?_⟩
    have hv : (vn fd).length = 2 * n := by rw [vn_len, hl]
    refine lc_it walk_rev (fun i H' => Same H1 H' ∧ H' p = some (.lst (vn ((mirL n fd).take i)))) ⟨same_new np, upd_same⟩ (fun i H' hi hP => hP.1.seq hS1) (fun i x H' H'' hi hP hY => ?_) (fun H' hP => ?_)
    · obtain ⟨sm, hp⟩ := hP
      obtain ⟨rfl, hx⟩ := hY
      rw [hv] at hi hx
      rw [vn_get (by omega)] at hx
      cases hx
      refine ⟨rfl, ?_⟩
      unfold tYes
      refine iteT ?_
      have hlt := hA.arcs.lt (2 * n - 1 - i) (by omega)
      refine ⟨.ref a, rfl, a, _, rfl, .inl (sm.seq hS1), _, _, rfl, rfl, _, rfl, _, _, rfl, rfl, _, hp, ?_, same_upd sm np, ?_⟩
      · rw [vn_len, List.length_take]
        exact small63 (by omega)
      · rw [upd_same, hv]
        have e : ((2 * n : Nat) : Int) - 1 - ((at' fd (2 * n - 1 - i) : Nat) : Int) = ((Rm.mirF (2 * n) (at' fd) i : Nat) : Int) := by unfold Rm.mirF; omega
        dsimp only
        rw [e]
        exact congrArg (fun l => some (HO.lst l)) (vn_take (mirL n fd) i _ (Rm.mkL_get hi))
    · obtain ⟨sm, hp⟩ := hP
      rw [hv, vn_full (l := mirL n fd) (Rm.mkL_len _ _)] at hp
      exact q H' p (s1.trans sm) (s1.free np) hp
end

end Rv

namespace Rv
open PySem PySem.Spec PyProof.Rows L2
open Rm (zs at')
/-! ### beside, covered -/
abbrev s_beside : Stmt := topS 10
theorem sc_beside : FnScope ["one", "other", "end"] ["one", "other"] (defScope s_beside) := ⟨rfl, rfl, rfl, by decide +kernel, rfl, by decide +kernel, by decide +kernel⟩
abbrev s_covered : Stmt := topS 11
theorem sc_covered : FnScope ["arcs", "end"] ["arcs"] (defScope s_covered) := ⟨rfl, rfl, rfl, by decide +kernel, rfl, by decide +kernel, by decide +kernel⟩
def sideL (n n2 : Nat) (fd fd2 : List Nat) : List Nat := Rm.mkL (2 * n + 2 * n2) (Rm.sideF (2 * n) (at' fd) (at' fd2))
theorem sideL_arcs {n n2 : Nat} {fd fd2 : List Nat} (A : Rm.ArcsL n fd) (B : Rm.ArcsL n2 fd2) : Rm.ArcsL (n + n2) (sideL n n2 fd fd2) := by
  have h := Rm.side_arcs A.arcs B.arcs
  unfold sideL
  rw [show 2 * n + 2 * n2 = 2 * (n + n2) by omega] at h ⊢
  exact Rm.mkL_arcs h
def overL (n : Nat) (fd : List Nat) : List Nat := Rm.mkL (2 * n + 2) (Rm.overF (2 * n) (at' fd))
theorem overL_arcs {n : Nat} {fd : List Nat} (A : Rm.ArcsL n fd) : Rm.ArcsL (n + 1) (overL n fd) := Rm.mkL_arcs (n := n + 1) (Rm.over_arcs A.arcs)
theorem sideL_eq {n n2 : Nat} {fd fd2 : List Nat} (hA : Rm.ArcsL n fd) (hB : Rm.ArcsL n2 fd2) : fd ++ fd2.map (2 * n + ·) = sideL n n2 fd fd2 := by
  have hl := hA.len
  have hl2 := hB.len
  apply Rm.ext_at
  · rw [List.length_append, List.length_map, hl, hl2]
    exact (Rm.mkL_len _ _).symm
  · intro k hk
    rw [show (sideL n n2 fd fd2).length = 2 * n + 2 * n2 from Rm.mkL_len _ _] at hk
    rw [show at' (sideL n n2 fd fd2) k = _ from Rm.mkL_at hk]
    unfold Rm.sideF at'
    rw [List.getD_eq_getElem?_getD, List.getD_eq_getElem?_getD, List.getD_eq_getElem?_getD, List.getElem?_append]
    by_cases c : k < 2 * n
    · rw [if_pos (by omega), if_pos c]
    · rw [if_neg (by omega), if_neg c, List.getElem?_map, hl, List.getElem?_eq_getElem (show k - 2 * n < fd2.length by omega)]
      rfl
theorem overL_eq {n : Nat} {fd : List Nat} (hA : Rm.ArcsL n fd) : [2 * n + 1] ++ fd.map (· + 1) ++ [0] = overL n fd := by
  have hl := hA.len
  apply Rm.ext_at
  · rw [show (overL n fd).length = 2 * n + 2 from Rm.mkL_len _ _]
    simp [hl]
  · intro k hk
    rw [show (overL n fd).length = 2 * n + 2 from Rm.mkL_len _ _] at hk
    rw [show at' (overL n fd) k = _ from Rm.mkL_at hk]
    unfold Rm.overF at'
    rw [List.getD_eq_getElem?_getD, List.getD_eq_getElem?_getD]
    cases k with
    | zero => rfl
    | succ k =>
      rw [if_neg (by omega), List.append_assoc, List.getElem?_append_right (by simp), List.getElem?_append]
      by_cases c : k < 2 * n
      · rw [if_pos (by simp [hl]; exact c), if_neg (by omega)]
        have hk2 : k < fd.length := by omega
        simp [hk2]
      · have : k = 2 * n := by omega
        subst this
        rw [if_neg (by simp [hl]), if_pos rfl]
        simp [hl]
def spBeside (K : PySem.W.Frag) : Sp := fun vs H Q _ => ∃ (a b : Addr) (n n2 : Nat) (fd fd2 : List Nat), vs = [.ref a, .ref b] ∧ H a = some (.lst (vn fd)) ∧ H b = some (.lst (vn fd2)) ∧ Rm.ArcsL n fd ∧ Rm.ArcsL n2 fd2 ∧ 1 ≤ n ∧ 1 ≤ n2 ∧ n + n2 ≤ 20 ∧ NewL H Q (sideL n n2 fd fd2)
def spCovered (K : PySem.W.Frag) : Sp := fun vs H Q _ => ∃ (a : Addr) (n : Nat) (fd : List Nat), vs = [.ref a] ∧ H a = some (.lst (vn fd)) ∧ Rm.ArcsL n fd ∧ 1 ≤ n ∧ n < 20 ∧ NewL H Q (overL n fd)
section
variable {P : Program} {w : World} {K : PySem.W.Frag} {mg : Str → Option Value} {base : Heap}
theorem ok_beside {tM : Tok} (D : Dfn K mg "beside" s_beside ["one", "other"]) (B : Blt mg) (g_MOST : mg "MOST" = some (.int 20 tM)) (c_ask : Cal P w K mg base 2 "ask" (spAsk K)) : Cal P w K mg base 3 "beside" (spBeside K) := by
  refine D.cal sc_beside (fun vs H Q E h => ?_) (fun f cdv A outer s0 H vs Q E hr h => ?_)
  · obtain ⟨a, b, n, n2, fd, fd2, rfl, _⟩ := h
    rfl
  · obtain ⟨a, b, n, n2, fd, fd2, rfl, ha, hb, hA, hB, h1, h2, h20, q⟩ := h
    refine ⟨_, (pss_cons (ps_expr (pe_c c_ask hr (by omega) (by rfl) (pa_cons (pv 0) pa_nil)))
      (pss_cons (ps_expr (pe_c c_ask hr (by omega) (by rfl) (pa_cons (pv 1) pa_nil)))
      (pss_cons (ps_if (pt_cmpR op_gt (pe_op op_add (pe_callB call_len_seq (by rfl) B.len_ PySem.boot_len (pa_cons (pv 0) pa_nil)) (pe_callB call_len_seq (by rfl) B.len_ PySem.boot_len (pa_cons (pv 1) pa_nil))) (pe_op op_mul pe_int (pe_glob (v := .int 20) (by rfl) g_MOST ⟨_, rfl⟩)) (nomark _))
        (pss_one (ps_never))
        pss_nil)
      (pss_one (ps_ret (pe_op op_cat (pv 0) (pe_lc (own := [("end", 2)]) (g := gName 2) (tt := tYes) rfl sc_beside.nd (pi_list (pv 1)) (blkOk_by (N := ["one", "other", "end"]) (sc := defScope s_beside) (by decide +kernel)) (fun _ _ _ _ _ => pg_name (i := 2) sc_beside.nd rfl (Or.inl rfl)) (fun _ _ _ _ _ => pts_nil) (fun _ _ _ _ _ => (pe_op op_add (pe_callB (r := rLenK K) call_len_seq (by rfl) B.len_ PySem.boot_len (pa_cons (pv 0) pa_nil)) (pv 2)))))))))), ?_⟩
    have hl := hA.len
    have hl2 := hB.len
    refine ⟨.ref a, rfl, a, zs fd, rfl, sqL ha, Rm.arcs_good hA h1 (by omega), fun H1 s1 => ?_⟩
    have ha1 := s1 _ _ ha
    have hb1 := s1 _ _ hb
    refine ⟨.ref b, rfl, b, zs fd2, rfl, sqL hb1, Rm.arcs_good hB h2 (by omega), fun H2 s2 => ?_⟩
    have ha2 := s2 _ _ ha1
    have hb2 := s2 _ _ hb1
    refine ⟨.ref a, rfl, a, _, rfl, .inl (sqL ha2), .ref b, rfl, b, _, rfl, .inl (sqL hb2), _, _, rfl, rfl, _, _, rfl, rfl, .inl ⟨by decide, by decide⟩, _, _, rfl, rfl, _, rfl, ?_⟩
    rw [decide_eq_false (by rw [vn_len, vn_len]; omega)]
    refine iteF ⟨.ref a, rfl, .ref b, rfl, b, rfl, ⟨_, sqL hb2⟩, fun p np => ?_⟩
    refine lc_it walk_list (fun i H' => Same H2 H' ∧ H' p = some (.lst (vn ((fd2.map (2 * n + ·)).take i)))) ⟨same_new np, upd_same⟩ (fun i H' hi hP => hP.1.seq (sqL hb2)) (fun i x H' H'' hi hP hY => ?_) (fun H' hP => ?_)
    · obtain ⟨sm, hp⟩ := hP
      obtain ⟨rfl, hx⟩ := hY
      rw [vn_len] at hi
      rw [vn_get hi] at hx
      cases hx
      refine ⟨rfl, ?_⟩
      unfold tYes
      refine iteT ⟨.ref a, rfl, a, _, rfl, .inl (sqL (sm _ _ ha2)), _, rfl, _, _, rfl, rfl, _, hp, ?_, same_upd sm np, ?_⟩
      · rw [vn_len, List.length_take, List.length_map]
        exact small63 (by omega)
      · rw [upd_same, vn_len, hl]
        have e : ((2 * n : Nat) : Int) + ((at' fd2 i : Nat) : Int) = ((2 * n + at' fd2 i : Nat) : Int) := by omega
        dsimp only
        rw [e, vn_take _ _ _ (by rw [List.getElem?_map, List.getElem?_eq_getElem hi]; simp [at', List.getD_eq_getElem?_getD, hi])]
    · obtain ⟨sm, hp⟩ := hP
      rw [vn_len, vn_full (m := fd2.length) (by rw [List.length_map])] at hp
      refine ⟨a, p, _, _, rfl, rfl, sm _ _ ha2, hp, ?_, fun r nr => q _ r (((s1.trans s2).trans sm).trans (same_new nr)) ((s1.trans s2).free (sm.free nr)) ?_⟩
      · rw [vn_len, vn_len, List.length_map]
        exact small63' (by omega)
      · have e := sideL_eq hA hB
        rw [upd_same, vi_append, zs_append, e]
theorem ok_covered {tM : Tok} (D : Dfn K mg "covered" s_covered ["arcs"]) (B : Blt mg) (g_MOST : mg "MOST" = some (.int 20 tM)) (c_ask : Cal P w K mg base 2 "ask" (spAsk K)) : Cal P w K mg base 3 "covered" (spCovered K) := by
  refine D.cal sc_covered (fun vs H Q E h => ?_) (fun f cdv A outer s0 H vs Q E hr h => ?_)
  · obtain ⟨a, n, fd, rfl, _⟩ := h
    rfl
  · obtain ⟨a, n, fd, rfl, ha, hA, h1, h20, q⟩ := h
    refine ⟨_, (pss_cons (ps_expr (pe_c c_ask hr (by omega) (by rfl) (pa_cons (pv 0) pa_nil)))
      (pss_cons (ps_if (pt_cmpR op_eq (pe_callB call_len_seq (by rfl) B.len_ PySem.boot_len (pa_cons (pv 0) pa_nil)) (pe_op op_mul pe_int (pe_glob (v := .int 20) (by rfl) g_MOST ⟨_, rfl⟩)) (nomark _))
        (pss_one (ps_never))
        pss_nil)
      (pss_one (ps_ret (pe_op op_cat (pe_op op_cat (pe_lst (pa_cons (pe_op op_add (pe_callB call_len_seq (by rfl) B.len_ PySem.boot_len (pa_cons (pv 0) pa_nil)) pe_int) pa_nil)) (pe_lc (own := [("end", 1)]) (g := gName 1) (tt := tYes) rfl sc_covered.nd (pi_list (pv 0)) (blkOk_by (N := ["arcs", "end"]) (sc := defScope s_covered) (by decide +kernel)) (fun _ _ _ _ _ => pg_name (i := 1) sc_covered.nd rfl (Or.inl rfl)) (fun _ _ _ _ _ => pts_nil) (fun _ _ _ _ _ => (pe_op op_add (pv 1) pe_int)))) (pe_lst (pa_cons pe_int pa_nil))))))), ?_⟩
    have hl := hA.len
    refine ⟨.ref a, rfl, a, zs fd, rfl, sqL ha, Rm.arcs_good hA h1 (by omega), fun H1 s1 => ?_⟩
    have ha1 := s1 _ _ ha
    refine ⟨.ref a, rfl, a, _, rfl, .inl (sqL ha1), _, _, rfl, rfl, .inl ⟨by decide, by decide⟩, rfl, _, rfl, ?_⟩
    rw [decide_eq_false (fun z => by have := V.int.inj z; rw [vn_len] at this; omega)]
    refine iteF ⟨.ref a, rfl, a, _, rfl, .inl (sqL ha1), _, _, rfl, rfl, by show 1 ≤ sizeLine; decide, fun x nx => ?_⟩
    have ha2 := same_new (o := .lst [V.int (((vn fd).length : Nat) + 1)]) nx _ _ ha1
    have sx := s1.trans (same_new (o := .lst [V.int (((vn fd).length : Nat) + 1)]) nx)
    have hx : (upd H1 x (.lst [V.int (((vn fd).length : Nat) + 1)])) x = some (.lst [V.int (((vn fd).length : Nat) + 1)]) := upd_same
    generalize upd H1 x (.lst [V.int (((vn fd).length : Nat) + 1)]) = H2 at ha2 sx hx
    refine ⟨.ref a, rfl, a, rfl, ⟨_, sqL ha2⟩, fun p np => ?_⟩
    refine lc_it walk_list (fun i H' => Same H2 H' ∧ H' p = some (.lst (vn ((fd.map (· + 1)).take i)))) ⟨same_new np, upd_same⟩ (fun i H' hi hP => hP.1.seq (sqL ha2)) (fun i x H' H'' hi hP hY => ?_) (fun H' hP => ?_)
    · obtain ⟨sm, hp⟩ := hP
      obtain ⟨rfl, hx⟩ := hY
      rw [vn_len] at hi
      rw [vn_get hi] at hx
      cases hx
      refine ⟨rfl, ?_⟩
      unfold tYes
      refine iteT ⟨_, rfl, _, _, rfl, rfl, _, hp, ?_, same_upd sm np, ?_⟩
      · rw [vn_len, List.length_take, List.length_map]
        exact small63 (by omega)
      · rw [upd_same]
        have e : ((at' fd i : Nat) : Int) + 1 = ((at' fd i + 1 : Nat) : Int) := by omega
        dsimp only
        rw [e, vn_take _ _ _ (by rw [List.getElem?_map, List.getElem?_eq_getElem hi]; simp [at', List.getD_eq_getElem?_getD, hi])]
    · obtain ⟨sm, hp⟩ := hP
      rw [vn_len, vn_full (m := fd.length) (by rw [List.length_map])] at hp
      have hx' := sm _ _ hx
      refine ⟨x, p, _, _, rfl, rfl, hx', hp, ?_, fun r nr => ?_⟩
      · simp only [vn_len, List.length_map, List.length_cons, List.length_nil]
        exact small63' (by omega)
      have sr := same_new (o := .lst ([V.int (((vn fd).length : Nat) + 1)] ++ vn (fd.map (· + 1)))) nr
      refine ⟨by show 1 ≤ sizeLine; decide, fun y ny => ?_⟩
      have sy := same_new (o := .lst [V.int 0]) ny
      refine ⟨r, y, _, _, rfl, rfl, sy _ _ upd_same, upd_same, ?_, fun t nt => ?_⟩
      · simp only [vn_len, List.length_map, List.length_cons, List.length_nil, List.length_append]
        exact small63' (by omega)
      · refine q _ t ((((sx.trans sm).trans sr).trans sy).trans (same_new nt)) (sx.free (sm.free (sr.free (sy.free nt)))) ?_
        have e := overL_eq hA
        rw [upd_same, ← e]
        have e2 : (((vn fd).length : Nat) : Int) + 1 = ((2 * n + 1 : Nat) : Int) := by rw [vn_len]; omega
        rw [e2]
        simp [vn, vi, zs]
end

end Rv

namespace Rv
open PySem PySem.Spec PyProof.Rows L2
open Rm (zs at')
/-! ### the law -/
abbrev s_law : Stmt := topS 18
theorem sc_law : FnScope ["script", "one", "other", "by", "size", "round_of", "k", "contrary", "side", "over", "handed", "turn", "found", "dues", "end"] ["script"] (defScope s_law) := ⟨rfl, rfl, rfl, by decide +kernel, rfl, by decide +kernel, by decide +kernel⟩
theorem fdiv2 (n : Nat) : ((2 * n : Nat) : Int).fdiv 2 = (n : Int) := by
  rw [Int.fdiv_eq_ediv_of_nonneg _ (by decide)]
  omega
theorem min_of (n : Nat) (h1 : 1 ≤ n) (h2 : n ≤ 19) : ∃ m : Int, (if (20 - (n : Int)) < 8 then (20 - (n : Int)) else 8) = m ∧ 0 < m ∧ m ≤ 8 ∧ m ≤ 20 - (n : Int) := by
  by_cases c : (20 - (n : Int)) < 8
  · exact ⟨20 - (n : Int), if_pos c, by omega, by omega, by omega⟩
  · exact ⟨8, if_neg c, by omega, by omega, by omega⟩
theorem psi_psi {n : Nat} {by' : Int} (fd : List Nat) (h : 1 ≤ n) (A : Rm.ArcsL n fd) : rotL n (-by') (rotL n by' fd) = fd := by
  have hm : 0 < 2 * n := by omega
  have hb := Rm.rotB_lt by' hm
  have hb2 := Rm.rotB_lt (-by') hm
  have e : Rm.rotB (2 * n) (-by') = if Rm.rotB (2 * n) by' = 0 then 0 else 2 * n - Rm.rotB (2 * n) by' := by
    unfold Rm.rotB at *
    have h0 := Int.emod_nonneg by' (show ((2 * n : Nat) : Int) ≠ 0 by omega)
    have h1 := Int.emod_lt_of_pos by' (show (0 : Int) < ((2 * n : Nat) : Int) by omega)
    have h2 := Int.emod_nonneg (-by') (show ((2 * n : Nat) : Int) ≠ 0 by omega)
    have h3 := Int.emod_lt_of_pos (-by') (show (0 : Int) < ((2 * n : Nat) : Int) by omega)
    have h4 : (by' + -by') % ((2 * n : Nat) : Int) = 0 := by rw [Int.add_right_neg]; rfl
    rw [Int.add_emod] at h4
    generalize by' % ((2 * n : Nat) : Int) = r at *
    generalize -by' % ((2 * n : Nat) : Int) = r' at *
    have h5 : (r + r') = 0 ∨ (r + r') = ((2 * n : Nat) : Int) := by
      by_cases c : r + r' < ((2 * n : Nat) : Int)
      · rw [Int.emod_eq_of_lt (by omega) c] at h4
        exact .inl h4
      · rw [← Int.sub_emod_right, Int.emod_eq_of_lt (by omega) (by omega)] at h4
        omega
    split <;> omega
  apply Rm.ext_at
  · rw [A.len]; exact Rm.mkL_len _ _
  · intro k hk
    rw [A.len] at hk
    rw [show at' (rotL n (-by') (rotL n by' fd)) k = _ from Rm.mkL_at hk]
    unfold Rm.rotF
    have hp := Rm.phi_lt hb2 hk
    rw [show at' (rotL n by' fd) _ = _ from Rm.mkL_at hp]
    unfold Rm.rotF
    have i1 : Rm.phi (2 * n) (Rm.rotB (2 * n) by') (Rm.phi (2 * n) (Rm.rotB (2 * n) (-by')) k) = k := by
      rw [e]; unfold Rm.phi; (repeat' split) <;> omega
    rw [i1]
    have hl := A.arcs.lt k hk
    rw [e]
    generalize at' fd k = x at *
    unfold Rm.psi
    (repeat' split) <;> omega
theorem mir_mir {n : Nat} {fd : List Nat} (A : Rm.ArcsL n fd) : mirL n (mirL n fd) = fd := by
  apply Rm.ext_at
  · rw [A.len]; exact Rm.mkL_len _ _
  · intro k hk
    rw [A.len] at hk
    rw [show at' (mirL n (mirL n fd)) k = _ from Rm.mkL_at hk]
    unfold Rm.mirF
    rw [show at' (mirL n fd) (2 * n - 1 - k) = _ from Rm.mkL_at (show 2 * n - 1 - k < 2 * n by omega)]
    unfold Rm.mirF
    rw [show 2 * n - 1 - (2 * n - 1 - k) = k by omega]
    have hl := A.arcs.lt k hk
    omega
section
variable {P : Program} {w : World} {K : PySem.W.Frag} {mg : Str → Option Value} {base : Heap}
theorem ok_law {f : Addr} {fd : FuncData} (F : Fun K "law" "law" s_law f fd) (B : Blt mg) (c_law_arcs : Cal P w K mg base 2 "_law_arcs" (spLawArcs K)) (c_law_cell_at : Cal P w K mg base 1 "_law_cell_at" (spCell K))
    (c_turned : Cal P w K mg base 3 "turned" (spTurned K)) (c_mirrored : Cal P w K mg base 3 "mirrored" (spMirrored K)) (c_beside : Cal P w K mg base 3 "beside" (spBeside K)) (c_covered : Cal P w K mg base 3 "covered" (spCovered K))
    (c_is_arcs : Cal P w K mg base 1 "is_arcs" (spIsArcs K)) (c_law_good : Cal P w K mg base 1 "_law_good" (spGood K)) (c_law_numbers : Cal P w K mg base 2 "_law_numbers" (spNumbers K)) :
    FnOk P w K mg base CX0 4 f fd ["script"] (spLaw K) := by
  refine F.ok sc_law (fun vs H Q E h => ?_) (fun cdv A outer s0 H vs Q E hr h => ?_)
  · obtain ⟨a, ns, rfl, _⟩ := h
    rfl
  · obtain ⟨a, ns, rfl, hS, h63, q⟩ := h
    refine ⟨_, (pss_cons (ps_set (i := 1) sc_law.nd rfl (.inl rfl) (pe_c c_law_arcs hr (by omega) (by rfl) (pa_cons (pv 0) (pa_cons pe_int (pa_cons (pe_op op_add pe_int (pe_op op_modN (pe_c c_law_cell_at hr (by omega) (by rfl) (pa_cons (pv 0) (pa_cons pe_int pa_nil))) pe_int)) pa_nil)))))
      (pss_cons (ps_set (i := 2) sc_law.nd rfl (.inl rfl) (pe_c c_law_arcs hr (by omega) (by rfl) (pa_cons (pv 0) (pa_cons pe_int (pa_cons (pe_op op_add pe_int (pe_op op_modN (pe_c c_law_cell_at hr (by omega) (by rfl) (pa_cons (pv 0) (pa_cons pe_int pa_nil))) (pe_callB (call_min2 rfl) (by rfl) B.min_ (by decide +kernel) (pa_cons pe_int (pa_cons (pe_op op_sub pe_int (pe_op op_fdivN (pe_callB call_len_seq (by rfl) B.len_ PySem.boot_len (pa_cons (pv 1) pa_nil)) pe_int)) pa_nil))))) pa_nil)))))
      (pss_cons (ps_set (i := 3) sc_law.nd rfl (.inl rfl) (pe_op op_modN (pe_c c_law_cell_at hr (by omega) (by rfl) (pa_cons (pv 0) (pa_cons pe_int pa_nil))) (pe_op op_pow pe_int pe_int)))
      (C8.pss_cut (ps_if (pt_cmpR op_eq (pe_op op_modN (pe_c c_law_cell_at hr (by omega) (by rfl) (pa_cons (pv 0) (pa_cons pe_int pa_nil))) pe_int) pe_int (nomark _))
        (pss_one (ps_set (i := 3) sc_law.nd rfl (.inl rfl) (pe_un un_neg (pe_op op_modN (pe_c c_law_cell_at hr (by omega) (by rfl) (pa_cons (pv 0) (pa_cons pe_int pa_nil))) pe_int))))
        pss_nil)
      (pss_cons (ps_set (i := 4) sc_law.nd rfl (.inr rfl) (pe_callB call_len_seq (by rfl) B.len_ PySem.boot_len (pa_cons (pv 1) pa_nil)))
      (pss_cons (ps_set (i := 5) sc_law.nd rfl (.inl rfl) (pe_op op_rep (pe_lst (pa_cons pe_int pa_nil)) (pv 4)))
      (C8.pss_cut (ps_for PassesOwn.never rfl (pi_range1 (by rfl) B.range_ (pa_cons (pv 4) pa_nil)) (pg_name (i := 6) sc_law.nd rfl (.inl rfl))
        (pss_one (ps_asg (pe_op op_modN (pe_op op_add (pe_ix ix_list (pv 1) (pv 6) (fun _ _ => rfl)) (pv 3)) (pv 4)) (pg_sub (pv 5) (pe_op op_modN (pe_op op_add (pv 6) (pv 3)) (pv 4)) set_list))))
      (pss_cons (ps_set (i := 7) sc_law.nd rfl (.inl rfl) (pe_op op_rep (pe_lst (pa_cons pe_int pa_nil)) (pv 4)))
      (C8.pss_cut (ps_for PassesOwn.never rfl (pi_range1 (by rfl) B.range_ (pa_cons (pv 4) pa_nil)) (pg_name (i := 6) sc_law.nd rfl (.inl rfl))
        (pss_one (ps_asg (pe_op op_sub (pe_op op_sub (pv 4) pe_int) (pe_ix ix_list (pv 1) (pv 6) (fun _ _ => rfl))) (pg_sub (pv 7) (pe_op op_sub (pe_op op_sub (pv 4) pe_int) (pv 6)) set_list))))
      (C8.pss_cut (ps_set (i := 8) sc_law.nd rfl (.inl rfl) (pe_op op_cat (pv 1) (pe_lc (own := [("end", 14)]) (g := gName 14) (tt := tYes) rfl sc_law.nd (pi_list (pv 2)) (blkOk_by (N := ["script", "one", "other", "by", "size", "round_of", "k", "contrary", "side", "over", "handed", "turn", "found", "dues", "end"]) (sc := defScope s_law) (by decide +kernel)) (fun _ _ _ _ _ => pg_name (i := 14) sc_law.nd rfl (Or.inl rfl)) (fun _ _ _ _ _ => pts_nil) (fun _ _ _ _ _ => (pe_op op_add (pv 14) (pv 4))))))
      (C8.pss_cut (ps_set (i := 9) sc_law.nd rfl (.inl rfl) (pe_op op_cat (pe_op op_cat (pe_lst (pa_cons (pe_op op_add (pv 4) pe_int) pa_nil)) (pe_lc (own := [("end", 14)]) (g := gName 14) (tt := tYes) rfl sc_law.nd (pi_list (pv 1)) (blkOk_by (N := ["script", "one", "other", "by", "size", "round_of", "k", "contrary", "side", "over", "handed", "turn", "found", "dues", "end"]) (sc := defScope s_law) (by decide +kernel)) (fun _ _ _ _ _ => pg_name (i := 14) sc_law.nd rfl (Or.inl rfl)) (fun _ _ _ _ _ => pts_nil) (fun _ _ _ _ _ => (pe_op op_add (pv 14) pe_int)))) (pe_lst (pa_cons pe_int pa_nil))))
      (C8.pss_cut (ps_set (i := 10) sc_law.nd rfl (.inl rfl) (pe_lst (pa_cons (pe_callTy call_list_of (by rfl) B.list_ (by decide +kernel) (pa_cons (pv 1) pa_nil)) (pa_cons (pe_callTy call_list_of (by rfl) B.list_ (by decide +kernel) (pa_cons (pv 2) pa_nil)) pa_nil))))
      (pss_cons (ps_for PassesOwn.never rfl (pi_range1 (by rfl) B.range_ (pa_cons pe_int pa_nil)) (pg_name (i := 11) sc_law.nd rfl (.inl rfl))
        (pss_cons (ps_set (i := 12) sc_law.nd rfl (.inl rfl) (pe_lst (pa_cons (pe_c c_turned hr (by omega) (by rfl) (pa_cons (pe_ix ix_list (pv 10) pe_int (fun _ _ => rfl)) (pa_cons (pv 3) pa_nil))) (pa_cons (pe_c c_mirrored hr (by omega) (by rfl) (pa_cons (pe_ix ix_list (pv 10) pe_int (fun _ _ => rfl)) pa_nil)) (pa_cons (pe_c c_beside hr (by omega) (by rfl) (pa_cons (pe_ix ix_list (pv 10) pe_int (fun _ _ => rfl)) (pa_cons (pe_ix ix_list (pv 10) pe_int (fun _ _ => rfl)) pa_nil))) (pa_cons (pe_c c_covered hr (by omega) (by rfl) (pa_cons (pe_ix ix_list (pv 10) pe_int (fun _ _ => rfl)) pa_nil)) pa_nil))))))
        (pss_cons (ps_set (i := 13) sc_law.nd rfl (.inl rfl) (pe_lst (pa_cons (pv 5) (pa_cons (pv 7) (pa_cons (pv 8) (pa_cons (pv 9) pa_nil))))))
        (pss_cons (ps_for PassesOwn.never rfl (pi_range1 (by rfl) B.range_ (pa_cons pe_int pa_nil)) (pg_name (i := 6) sc_law.nd rfl (.inl rfl))
          (pss_cons (ps_if (PW.pt (pw_or (pt_not (pt_val (pe_c c_law_numbers hr (by omega) (by rfl) (pa_cons (pe_ix ix_list (pv 12) (pv 6) (fun _ _ => rfl)) (pa_cons (pe_ix ix_list (pv 13) (pv 6) (fun _ _ => rfl)) pa_nil))))) (pw_or (pt_not (pt_val (pe_c c_law_good hr (by omega) (by rfl) (pa_cons (pe_ix ix_list (pv 12) (pv 6) (fun _ _ => rfl)) pa_nil)))) (pw_or1 (pt_cmpR op_notBl (pe_c c_is_arcs hr (by omega) (by rfl) (pa_cons (pe_ix ix_list (pv 12) (pv 6) (fun _ _ => rfl)) pa_nil)) pe_bl (nomark _))))))
            (pss_one (ps_ret pe_bl))
            pss_nil)
          (pss_one (ps_expr (pe_bm PySem.F.plainAttrs_list PySem.F.slot_list_append PySem.F.type_list_append mt_append (pe_ix ix_list (pv 12) (pv 6) (fun _ _ => rfl)) (pa_cons pe_int pa_nil))))))
        (pss_one (ps_if (pt_cmpR (op_neD (hu64 hr)) (pv 10) (pe_lst (pa_cons (pv 1) (pa_cons (pv 2) pa_nil))) (nomark _))
          (pss_one (ps_ret pe_bl))
          pss_nil))))))
      (pss_one (ps_ret (pe_and (pe_cmpR (op_eqD (hu64 hr)) (pe_c c_turned hr (by omega) (by rfl) (pa_cons (pv 5) (pa_cons (pe_un un_neg (pv 3)) pa_nil))) (pv 1) (nomark _)) (pe_one (pe_cmpR (op_eqD (hu64 hr)) (pe_c c_mirrored hr (by omega) (by rfl) (pa_cons (pv 7) pa_nil)) (pv 1) (nomark _))))))))))))))))))), ?_⟩
    -- one
    refine ⟨.ref a, rfl, .ref a, rfl, a, ns, 0, rfl, hS, by decide, fun c => ⟨_, _, rfl, rfl, (show (19 : Int) ≠ 0 by decide), _, _, rfl, rfl, ?_⟩⟩
    obtain ⟨n, hn, h1, h19⟩ := size_of (z := c) 19 (by decide) (by decide)
    have h19 : n ≤ 19 := by omega
    refine ⟨a, ns, 4, n, by rw [← hn]; rfl, hS, by decide, h1, by omega, fun H1 p1 fd hA s1 np1 hp1 => ?_⟩
    clear c hn
    have hl := hA.len
    -- other
    refine ⟨.ref a, rfl, .ref a, rfl, a, ns, 1, rfl, s1.seq hS, by decide, fun c => ⟨.ref p1, rfl, p1, _, rfl, .inl (sqL hp1), _, _, rfl, rfl, ⟨by decide, by decide⟩, _, _, rfl, rfl, _, _, rfl, ?_⟩⟩
    rw [vn_len, hl, fdiv2]
    obtain ⟨m, hm, hm0, hm8, hmn⟩ := min_of n h1 h19
    refine ⟨c, m, rfl, by rw [← hm], (show m ≠ 0 by omega), _, _, rfl, rfl, ?_⟩
    obtain ⟨n2, hn2, h2, h8⟩ := size_of (z := c) m hm0 (by omega)
    refine ⟨a, ns, 42, n2, by rw [← hn2]; rfl, s1.seq hS, by decide, h2, by omega, fun H2 p2 fd2 hB s2 np2 hp2 => ?_⟩
    have hl2 := hB.len
    have hp1 := s2 _ _ hp1
    have hS2 := s2.seq (s1.seq hS)
    have h20 : n + n2 ≤ 20 := by omega
    clear hm hn2 c
    -- by
    refine ⟨.ref a, rfl, a, ns, 2, rfl, hS2, by decide, fun c => ⟨_, _, rfl, rfl, ⟨by decide, by decide, by decide⟩, c, _, rfl, rfl, (show (10 ^ (40 : Int).toNat : Int) ≠ 0 by decide), ?_⟩⟩
    refine ⟨fun σ3 H3 => ∃ by' : Int, σ3 = [some (.ref a), some (.ref p1), some (.ref p2), some (.int by'), none, none, none, none, none, none, none, none, none, none, none] ∧ H2 = H3, ?_, ?_⟩
    · refine ⟨.ref a, rfl, a, ns, 3, rfl, hS2, by decide, fun c3 => ⟨_, _, rfl, rfl, (show (2 : Int) ≠ 0 by decide), rfl, _, rfl, ite2 (fun e => ?_) (fun e => ⟨_, rfl, rfl⟩)⟩⟩
      exact ⟨.ref a, rfl, a, ns, 2, rfl, hS2, by decide, fun c4 => ⟨_, _, rfl, rfl, (show (100 : Int) ≠ 0 by decide), _, rfl, _, rfl, rfl⟩⟩
    rintro σ3 H3 ⟨by', rfl, rfl⟩
    clear c
    have hm0 : ((2 * n : Nat) : Int) ≠ 0 := by omega
    have hb := Rm.rotB_lt by' (show 0 < 2 * n by omega)
    -- size
    refine ⟨.ref p1, rfl, p1, _, rfl, .inl (sqL hp1), ?_⟩
    rw [vn_len, hl]
    -- round_of
    refine ⟨by show 1 ≤ sizeLine; decide, fun x nx => ⟨_, rfl, x, _, _, rfl, rfl, upd_same, by omega, by omega, ?_, fun r nr => ?_⟩⟩
    · rw [Int.toNat_natCast]
      exact small63' (by show 1 * (2 * n) ≤ _; omega)
    rw [Int.toNat_natCast, rep1, vn_rep]
    have sx := (same_new (o := .lst [V.int 0]) nx).trans (same_new (o := .lst (vn (List.replicate (2 * n) 0))) nr)
    have r2 : H2 r = none := (same_new (o := .lst [V.int 0]) nx).free nr
    have hr3 : (upd (upd H2 x (.lst [V.int 0])) r (.lst (vn (List.replicate (2 * n) 0)))) r = some (.lst (vn (List.replicate (2 * n) 0))) := upd_same
    generalize upd (upd H2 x (.lst [V.int 0])) r (.lst (vn (List.replicate (2 * n) 0))) = H3 at sx hr3
    refine ⟨fun σ H' => ∃ y6, σ = [some (.ref a), some (.ref p1), some (.ref p2), some (.int by'), some (.int ((2 * n : Nat) : Int)), some (.ref r), y6, none, none, none, none, none, none, none, none] ∧ Same H2 H' ∧ H' r = some (.lst (vn (rotL n by' fd))), ?_, ?_⟩
    · refine ⟨_, rfl, _, rfl, by omega, by omega, ?_⟩
      rw [Int.toNat_natCast]
      refine for_range (lo := 0) (n := 2 * n) (fun i σ H' => ∃ y6 fr, σ = [some (.ref a), some (.ref p1), some (.ref p2), some (.int by'), some (.int ((2 * n : Nat) : Int)), some (.ref r), y6, none, none, none, none, none, none, none, none] ∧ Same H2 H' ∧ H' r = some (.lst (vn fr)) ∧ fr.length = 2 * n ∧ ∀ k : Nat, k < i → at' fr (Rm.psi (2 * n) (Rm.rotB (2 * n) by') k) = Rm.psi (2 * n) (Rm.rotB (2 * n) by') (at' fd k))
        ⟨none, _, rfl, sx, hr3, List.length_replicate, fun _ h => absurd h (Nat.not_lt_zero _)⟩ (fun i σ H' hi hP => ?_) (fun σ H' hP => ?_)
      · obtain ⟨y6, fr, rfl, sm, hr', hlr, hk⟩ := hP
        rw [Int.zero_add]
        have lpsi := Rm.psi_lt hb hi
        refine ⟨.ref p1, rfl, .int i, rfl, p1, _, _, _, rfl, rfl, sqL (sm _ _ hp1), vn_at (by omega) rfl, .int by', rfl, _, _, rfl, rfl, _, rfl, _, _, rfl, rfl, hm0, .ref r, rfl, .int i, rfl, .int by', rfl, _, _, rfl, rfl, _, rfl, _, _, rfl, rfl, hm0, r, _, _, Rm.psi (2 * n) (Rm.rotB (2 * n) by') i, rfl, rfl, hr', ixN_of (Rm.mod_add hi) (by rw [vn_len]; omega), ?_⟩
        refine ⟨_, fr.set (Rm.psi (2 * n) (Rm.rotB (2 * n) by') i) (Rm.psi (2 * n) (Rm.rotB (2 * n) by') (at' fd i)), rfl, same_upd sm r2, ?_, by rw [List.length_set]; exact hlr, fun k hk' => ?_⟩
        · rw [upd_same]
          show some (HO.lst ((vn fr).set _ (V.int ((((at' fd i : Nat) : Int) + by').fmod ((2 * n : Nat) : Int))))) = _
          rw [Rm.mod_add (hA.arcs.lt i hi), vn_set]
          rfl
        · rw [Rm.at_set (by omega)]
          by_cases e : k = i
          · subst e; rw [if_pos rfl]
          · rw [if_neg (fun z => e ?_)]
            · exact hk k (by omega)
            · have h1 := Rm.phi_psi hb (show k < 2 * n by omega)
              have h2 := Rm.phi_psi hb hi
              rw [z] at h1
              omega
      · obtain ⟨y6, fr, rfl, sm, hr', hlr, hk⟩ := hP
        refine ⟨_, rfl, sm, ?_⟩
        rw [hr']
        have e : fr = rotL n by' fd := by
          apply Rm.ext_at
          · rw [hlr]; exact (Rm.mkL_len _ _).symm
          · intro k hk2
            rw [show (rotL n by' fd).length = 2 * n from Rm.mkL_len _ _] at hk2
            rw [show at' (rotL n by' fd) k = _ from Rm.mkL_at hk2]
            have h1 := hk (Rm.phi (2 * n) (Rm.rotB (2 * n) by') k) (Rm.phi_lt hb hk2)
            rw [Rm.psi_phi hb hk2] at h1
            exact h1
        rw [e]
    rintro σ4 H4 ⟨y6, rfl, s4, hr4⟩
    clear hr3 sx
    have hp1 := s4 _ _ hp1
    have hp2 := s4 _ _ hp2
    -- contrary
    refine ⟨by show 1 ≤ sizeLine; decide, fun x nx => ⟨_, rfl, x, _, _, rfl, rfl, upd_same, by omega, by omega, ?_, fun c nc => ?_⟩⟩
    · rw [Int.toNat_natCast]
      exact small63' (by show 1 * (2 * n) ≤ _; omega)
    rw [Int.toNat_natCast, rep1, vn_rep]
    have sx := (same_new (o := .lst [V.int 0]) nx).trans (same_new (o := .lst (vn (List.replicate (2 * n) 0))) nc)
    have c2 : H4 c = none := (same_new (o := .lst [V.int 0]) nx).free nc
    have hc3 : (upd (upd H4 x (.lst [V.int 0])) c (.lst (vn (List.replicate (2 * n) 0)))) c = some (.lst (vn (List.replicate (2 * n) 0))) := upd_same
    generalize upd (upd H4 x (.lst [V.int 0])) c (.lst (vn (List.replicate (2 * n) 0))) = H5 at sx hc3
    refine ⟨fun σ H' => ∃ y6, σ = [some (.ref a), some (.ref p1), some (.ref p2), some (.int by'), some (.int ((2 * n : Nat) : Int)), some (.ref r), y6, some (.ref c), none, none, none, none, none, none, none] ∧ Same H4 H' ∧ H' c = some (.lst (vn (mirL n fd))), ?_, ?_⟩
    · refine ⟨_, rfl, _, rfl, by omega, by omega, ?_⟩
      rw [Int.toNat_natCast]
      refine for_range (lo := 0) (n := 2 * n) (fun i σ H' => ∃ y6 fr, σ = [some (.ref a), some (.ref p1), some (.ref p2), some (.int by'), some (.int ((2 * n : Nat) : Int)), some (.ref r), y6, some (.ref c), none, none, none, none, none, none, none] ∧ Same H4 H' ∧ H' c = some (.lst (vn fr)) ∧ fr.length = 2 * n ∧ ∀ k : Nat, k < i → at' fr (2 * n - 1 - k) = 2 * n - 1 - at' fd k)
        ⟨_, _, rfl, sx, hc3, List.length_replicate, fun _ h => absurd h (Nat.not_lt_zero _)⟩ (fun i σ H' hi hP => ?_) (fun σ H' hP => ?_)
      · obtain ⟨y6, fr, rfl, sm, hr', hlr, hk⟩ := hP
        rw [Int.zero_add]
        have hlt := hA.arcs.lt i hi
        refine ⟨_, rfl, _, _, rfl, rfl, .ref p1, rfl, .int i, rfl, p1, _, _, _, rfl, rfl, sqL (sm _ _ hp1), vn_at (by omega) rfl, _, _, rfl, rfl, .ref c, rfl, _, rfl, _, _, rfl, rfl, .int i, rfl, _, _, rfl, rfl, c, _, _, 2 * n - 1 - i, rfl, rfl, hr', ixN_of (by omega) (by rw [vn_len]; omega), ?_⟩
        refine ⟨_, fr.set (2 * n - 1 - i) (2 * n - 1 - at' fd i), rfl, same_upd sm c2, ?_, by rw [List.length_set]; exact hlr, fun k hk' => ?_⟩
        · rw [upd_same]
          show some (HO.lst ((vn fr).set _ (V.int (((2 * n : Nat) : Int) - 1 - ((at' fd i : Nat) : Int))))) = _
          rw [show ((2 * n : Nat) : Int) - 1 - ((at' fd i : Nat) : Int) = ((2 * n - 1 - at' fd i : Nat) : Int) by omega, vn_set]
        · rw [Rm.at_set (by omega)]
          by_cases e : k = i
          · subst e; rw [if_pos rfl]
          · rw [if_neg (by omega)]
            exact hk k (by omega)
      · obtain ⟨y6, fr, rfl, sm, hr', hlr, hk⟩ := hP
        refine ⟨_, rfl, sm, ?_⟩
        rw [hr']
        have e : fr = mirL n fd := by
          apply Rm.ext_at
          · rw [hlr]; exact (Rm.mkL_len _ _).symm
          · intro k hk2
            rw [show (mirL n fd).length = 2 * n from Rm.mkL_len _ _] at hk2
            rw [show at' (mirL n fd) k = _ from Rm.mkL_at hk2]
            have h1 := hk (2 * n - 1 - k) (by omega)
            rw [show 2 * n - 1 - (2 * n - 1 - k) = k by omega] at h1
            exact h1
        rw [e]
    rintro σ6 H6 ⟨y6', rfl, s6, hc6⟩
    clear hc3 sx
    have hp1 := s6 _ _ hp1
    have hp2 := s6 _ _ hp2
    have hr6 := s6 _ _ hr4
    -- side
    refine ⟨fun σ H' => ∃ s, σ = [some (.ref a), some (.ref p1), some (.ref p2), some (.int by'), some (.int ((2 * n : Nat) : Int)), some (.ref r), y6', some (.ref c), some (.ref s), none, none, none, none, none, none] ∧ Same H6 H' ∧ H' s = some (.lst (vn (sideL n n2 fd fd2))), ?_, ?_⟩
    · refine ⟨.ref p1, rfl, .ref p2, rfl, p2, rfl, ⟨_, sqL hp2⟩, fun p np => ?_⟩
      refine lc_it walk_list (fun i H' => Same H6 H' ∧ H' p = some (.lst (vn ((fd2.map (2 * n + ·)).take i)))) ⟨same_new np, upd_same⟩ (fun i H' hi hP => hP.1.seq (sqL hp2)) (fun i x H' H'' hi hP hY => ?_) (fun H' hP => ?_)
      · obtain ⟨sm, hp⟩ := hP
        obtain ⟨rfl, hx⟩ := hY
        rw [vn_len] at hi
        rw [vn_get hi] at hx
        cases hx
        refine ⟨rfl, ?_⟩
        unfold tYes
        refine iteT ⟨_, rfl, _, rfl, _, _, rfl, rfl, _, hp, ?_, same_upd sm np, ?_⟩
        · rw [vn_len, List.length_take, List.length_map]
          exact small63 (by omega)
        · rw [upd_same]
          dsimp only
          have e : ((at' fd2 i : Nat) : Int) + ((2 * n : Nat) : Int) = ((2 * n + at' fd2 i : Nat) : Int) := by omega
          rw [e, vn_take _ _ _ (by rw [List.getElem?_map, List.getElem?_eq_getElem hi]; simp [at', List.getD_eq_getElem?_getD, hi])]
      · obtain ⟨sm, hp⟩ := hP
        rw [vn_len, vn_full (m := fd2.length) (by rw [List.length_map])] at hp
        refine ⟨p1, p, _, _, rfl, rfl, sm _ _ hp1, hp, ?_, fun s ns => ⟨s, rfl, sm.trans (same_new ns), ?_⟩⟩
        · rw [vn_len, vn_len, List.length_map]
          exact small63' (by omega)
        · rw [upd_same, vi_append, zs_append, sideL_eq hA hB]
    rintro σ7 H7 ⟨s, rfl, s7, hs7⟩
    have hp1 := s7 _ _ hp1
    have hp2 := s7 _ _ hp2
    have hr7 := s7 _ _ hr6
    have hc7 := s7 _ _ hc6
    -- over
    refine ⟨fun σ H' => ∃ o, σ = [some (.ref a), some (.ref p1), some (.ref p2), some (.int by'), some (.int ((2 * n : Nat) : Int)), some (.ref r), y6', some (.ref c), some (.ref s), some (.ref o), none, none, none, none, none] ∧ Same H7 H' ∧ H' o = some (.lst (vn (overL n fd))), ?_, ?_⟩
    · refine ⟨_, rfl, _, _, rfl, rfl, by show 1 ≤ sizeLine; decide, fun x nx => ?_⟩
      have hp1' := same_new (o := .lst [V.int (((2 * n : Nat) : Int) + 1)]) nx _ _ hp1
      have sx := same_new (o := .lst [V.int (((2 * n : Nat) : Int) + 1)]) nx
      have hx : (upd H7 x (.lst [V.int (((2 * n : Nat) : Int) + 1)])) x = some (.lst [V.int (((2 * n : Nat) : Int) + 1)]) := upd_same
      generalize upd H7 x (.lst [V.int (((2 * n : Nat) : Int) + 1)]) = H8 at hp1' sx hx
      refine ⟨.ref p1, rfl, p1, rfl, ⟨_, sqL hp1'⟩, fun p np => ?_⟩
      refine lc_it walk_list (fun i H' => Same H8 H' ∧ H' p = some (.lst (vn ((fd.map (· + 1)).take i)))) ⟨same_new np, upd_same⟩ (fun i H' hi hP => hP.1.seq (sqL hp1')) (fun i x H' H'' hi hP hY => ?_) (fun H' hP => ?_)
      · obtain ⟨sm, hp⟩ := hP
        obtain ⟨rfl, hx⟩ := hY
        rw [vn_len] at hi
        rw [vn_get hi] at hx
        cases hx
        refine ⟨rfl, ?_⟩
        unfold tYes
        refine iteT ⟨_, rfl, _, _, rfl, rfl, _, hp, ?_, same_upd sm np, ?_⟩
        · rw [vn_len, List.length_take, List.length_map]
          exact small63 (by omega)
        · rw [upd_same]
          have e : ((at' fd i : Nat) : Int) + 1 = ((at' fd i + 1 : Nat) : Int) := by omega
          dsimp only
          rw [e, vn_take _ _ _ (by rw [List.getElem?_map, List.getElem?_eq_getElem hi]; simp [at', List.getD_eq_getElem?_getD, hi])]
      · obtain ⟨sm, hp⟩ := hP
        rw [vn_len, vn_full (m := fd.length) (by rw [List.length_map])] at hp
        refine ⟨x, p, _, _, rfl, rfl, sm _ _ hx, hp, ?_, fun r' nr => ?_⟩
        · simp only [vn_len, List.length_map, List.length_cons, List.length_nil]
          exact small63' (by omega)
        refine ⟨by show 1 ≤ sizeLine; decide, fun y ny => ?_⟩
        have sy := same_new (o := .lst [V.int 0]) ny
        refine ⟨r', y, _, _, rfl, rfl, sy _ _ upd_same, upd_same, ?_, fun t nt => ⟨t, rfl, ((((sx.trans sm).trans (same_new nr)).trans sy).trans (same_new nt)), ?_⟩⟩
        · simp only [vn_len, List.length_map, List.length_cons, List.length_nil, List.length_append]
          exact small63' (by omega)
        · rw [upd_same, ← overL_eq hA]
          have e2 : ((2 * n : Nat) : Int) + 1 = ((2 * n + 1 : Nat) : Int) := by omega
          rw [e2]
          simp [vn, vi, zs]
    rintro σ8 H8 ⟨o, rfl, s8, ho8⟩
    have hp1 := s8 _ _ hp1
    have hp2 := s8 _ _ hp2
    have hr8 := s8 _ _ hr7
    have hc8 := s8 _ _ hc7
    have hs8 := s8 _ _ hs7
    -- handed
    refine ⟨fun σ H' => ∃ h i1 i2, σ = [some (.ref a), some (.ref p1), some (.ref p2), some (.int by'), some (.int ((2 * n : Nat) : Int)), some (.ref r), y6', some (.ref c), some (.ref s), some (.ref o), some (.ref h), none, none, none, none] ∧ Same H8 H' ∧ H' h = some (.lst [.ref i1, .ref i2]) ∧ H' i1 = some (.lst (vn fd)) ∧ H' i2 = some (.lst (vn fd2)), ?_, ?_⟩
    · refine ⟨.ref p1, rfl, p1, _, rfl, .inl (sqL hp1), fun i1 ni1 => ?_⟩
      have t1 := same_new (o := .lst (vn fd)) ni1
      refine ⟨.ref p2, rfl, p2, _, rfl, .inl (sqL (t1 _ _ hp2)), fun i2 ni2 => ?_⟩
      have t2 := same_new (o := .lst (vn fd2)) ni2
      refine ⟨by show 2 ≤ sizeLine; decide, fun h nh => ?_⟩
      have t3 := same_new (o := .lst [.ref i1, .ref i2]) nh
      exact ⟨h, i1, i2, rfl, (t1.trans t2).trans t3, upd_same, t3 _ _ (t2 _ _ upd_same), t3 _ _ upd_same⟩
    rintro σ9 H9 ⟨h, i1, i2, rfl, s9, hh9, hi1, hi2⟩
    have hp1 := s9 _ _ hp1
    have hp2 := s9 _ _ hp2
    have hr9 := s9 _ _ hr8
    have hc9 := s9 _ _ hc8
    have hs9 := s9 _ _ hs8
    have ho9 := s9 _ _ ho8
    clear hr4 hr6 hr7 hr8 hc6 hc7 hc8 hs7 hs8 ho8
    have AR := rotL_arcs by' hA h1
    have AM := mirL_arcs hA
    have AS := sideL_arcs hA hB
    have AO := overL_arcs hA
    -- for turn in range(2)
    refine ⟨2, rfl, by decide, by decide, ?_⟩
    refine for_range (lo := 0) (n := 2) (fun i σ H' => ∃ y6 y11 y12 y13, σ = [some (.ref a), some (.ref p1), some (.ref p2), some (.int by'), some (.int ((2 * n : Nat) : Int)), some (.ref r), y6, some (.ref c), some (.ref s), some (.ref o), some (.ref h), y11, y12, y13, none] ∧ Same H9 H') ⟨_, _, _, _, rfl, Same.refl _⟩ (fun i σ H' hi hP => ?_) (fun σ H' hP => ?_)
    · obtain ⟨y6, y11, y12, y13, rfl, sm⟩ := hP
      generalize hz : (0 : Int) + (i : Int) = z11
      have hh := sm _ _ hh9
      have g1 := sm _ _ hi1
      have g2 := sm _ _ hi2
      refine ⟨.ref h, rfl, h, _, 0, .ref i1, rfl, rfl, sqL hh, rfl, .int by', rfl, i1, by', n, fd, rfl, sqL g1, hA, h1, by omega, fun Ha t1 sa nt1 ht1 => ?_⟩
      refine ⟨.ref h, rfl, h, _, 0, .ref i1, rfl, rfl, sqL (sa _ _ hh), rfl, i1, n, fd, rfl, sqL (sa _ _ g1), hA, h1, by omega, fun Hb t2 sb nt2 ht2 => ?_⟩
      have sab := sa.trans sb
      refine ⟨.ref h, rfl, h, _, 0, .ref i1, rfl, rfl, sqL (sab _ _ hh), rfl, .ref h, rfl, h, _, 1, .ref i2, rfl, rfl, sqL (sab _ _ hh), rfl, i1, i2, n, n2, fd, fd2, rfl, sab _ _ g1, sab _ _ g2, hA, hB, h1, h2, h20, fun Hc t3 sc nt3 ht3 => ?_⟩
      have sac := sab.trans sc
      refine ⟨.ref h, rfl, h, _, 0, .ref i1, rfl, rfl, sqL (sac _ _ hh), rfl, i1, n, fd, rfl, sac _ _ g1, hA, h1, by omega, fun Hd t4 sd nt4 ht4 => ?_⟩
      have sad := sac.trans sd
      refine ⟨by show 4 ≤ sizeLine; decide, fun fo nfo => ?_⟩
      have s5 := same_new (o := .lst [.ref t1, .ref t2, .ref t3, .ref t4]) nfo
      refine ⟨.ref r, rfl, .ref c, rfl, .ref s, rfl, .ref o, rfl, by show 4 ≤ sizeLine; decide, fun du ndu => ?_⟩
      have s6 := same_new (o := .lst [.ref r, .ref c, .ref s, .ref o]) ndu
      have sae := (sad.trans s5).trans s6
      have S9 := sm.trans sae
      have hfo : (upd (upd Hd fo (.lst [.ref t1, .ref t2, .ref t3, .ref t4])) du (.lst [.ref r, .ref c, .ref s, .ref o])) fo = some (.lst [.ref t1, .ref t2, .ref t3, .ref t4]) := s6 _ _ upd_same
      have hdu : (upd (upd Hd fo (.lst [.ref t1, .ref t2, .ref t3, .ref t4])) du (.lst [.ref r, .ref c, .ref s, .ref o])) du = some (.lst [.ref r, .ref c, .ref s, .ref o]) := upd_same
      have k1 := s6 _ _ (s5 _ _ (sd _ _ (sc _ _ (sb _ _ ht1))))
      have k2 := s6 _ _ (s5 _ _ (sd _ _ (sc _ _ ht2)))
      have k3 := s6 _ _ (s5 _ _ (sd _ _ ht3))
      have k4 := s6 _ _ (s5 _ _ ht4)
      have d12 : t1 ≠ t2 := ne_of_none ht1 nt2
      have d13 : t1 ≠ t3 := ne_of_none (sb _ _ ht1) nt3
      have d14 : t1 ≠ t4 := ne_of_none (sc _ _ (sb _ _ ht1)) nt4
      have d23 : t2 ≠ t3 := ne_of_none ht2 nt3
      have d24 : t2 ≠ t4 := ne_of_none (sc _ _ ht2) nt4
      have d34 : t3 ≠ t4 := ne_of_none ht3 nt4
      have f1 : t1 ≠ fo := ne_of_none (sd _ _ (sc _ _ (sb _ _ ht1))) nfo
      have f2 : t2 ≠ fo := ne_of_none (sd _ _ (sc _ _ ht2)) nfo
      have f3 : t3 ≠ fo := ne_of_none (sd _ _ ht3) nfo
      have f4 : t4 ≠ fo := ne_of_none ht4 nfo
      have e1 : t1 ≠ du := ne_of_none (s5 _ _ (sd _ _ (sc _ _ (sb _ _ ht1)))) ndu
      have e2 : t2 ≠ du := ne_of_none (s5 _ _ (sd _ _ (sc _ _ ht2))) ndu
      have e3 : t3 ≠ du := ne_of_none (s5 _ _ (sd _ _ ht3)) ndu
      have e4 : t4 ≠ du := ne_of_none (s5 _ _ ht4) ndu
      have n1 : H9 t1 = none := sm.free nt1
      have n2' : H9 t2 = none := sm.free (sa.free nt2)
      have n3 : H9 t3 = none := sm.free (sab.free nt3)
      have n4 : H9 t4 = none := sm.free (sac.free nt4)
      generalize (upd (upd Hd fo (.lst [.ref t1, .ref t2, .ref t3, .ref t4])) du (.lst [.ref r, .ref c, .ref s, .ref o])) = He at S9 hfo hdu k1 k2 k3 k4
      clear sae s6 s5 sad sac sab sa sb sc sd ht1 ht2 ht3 ht4 nt1 nt2 nt3 nt4 nfo ndu hh g1 g2
      refine ⟨4, rfl, by decide, by decide, ?_⟩
      refine for_range (lo := 0) (n := 4) (fun i σ H' => ∃ y6, σ = [some (.ref a), some (.ref p1), some (.ref p2), some (.int by'), some (.int ((2 * n : Nat) : Int)), some (.ref r), y6, some (.ref c), some (.ref s), some (.ref o), some (.ref h), some (.int z11), some (.ref fo), some (.ref du), none] ∧ Same H9 H' ∧ H' fo = some (.lst [.ref t1, .ref t2, .ref t3, .ref t4]) ∧ H' du = some (.lst [.ref r, .ref c, .ref s, .ref o]) ∧
          (i < 1 → H' t1 = some (.lst (vn (rotL n by' fd)))) ∧ (i < 2 → H' t2 = some (.lst (vn (mirL n fd)))) ∧ (i < 3 → H' t3 = some (.lst (vn (sideL n n2 fd fd2)))) ∧ (i < 4 → H' t4 = some (.lst (vn (overL n fd)))))
        ⟨_, rfl, S9, hfo, hdu, fun _ => k1, fun _ => k2, fun _ => k3, fun _ => k4⟩ (fun i σ H' hi hP => ?_) (fun σ H' hP => ?_)
      · obtain ⟨y6, rfl, sm', hfo', hdu', j1, j2, j3, j4⟩ := hP
        rw [Int.zero_add]
        have ci : i = 0 ∨ i = 1 ∨ i = 2 ∨ i = 3 := by omega
        rcases ci with rfl | rfl | rfl | rfl
        · have ht := j1 (by omega)
          have hd := sm' _ _ hr9
          have G := Rm.arcs_good AR h1 (by omega)
          refine ⟨.ref fo, rfl, _, rfl, fo, _, _, .ref t1, rfl, rfl, sqL hfo', rfl, .ref du, rfl, _, rfl, du, _, _, .ref r, rfl, rfl, sqL hdu', rfl, t1, r, zs (rotL n by' fd), zs (rotL n by' fd), rfl, ht, sqL hd, fun _ => ⟨true, rfl, iteF ?_⟩, fun z => absurd rfl z⟩
          refine ⟨.ref fo, rfl, _, rfl, fo, _, _, .ref t1, rfl, rfl, sqL hfo', rfl, t1, zs (rotL n by' fd), rfl, sqL ht, by have := G.1.2; omega, fun b hb => ⟨b, rfl, ?_⟩⟩
          rw [hb.mpr G]
          refine iteF ⟨.ref fo, rfl, _, rfl, fo, _, _, .ref t1, rfl, rfl, sqL hfo', rfl, t1, zs (rotL n by' fd), rfl, sqL ht, by have := G.1.2; omega, fun b Hx sx hb => ?_⟩
          rw [hb.mpr G]
          refine ⟨true, true, rfl, rfl, _, rfl, iteF ?_⟩
          refine ⟨.ref fo, rfl, _, rfl, fo, _, _, .ref t1, rfl, rfl, sqL (sx _ _ hfo'), rfl, .inl ⟨rfl, _, sqL (sx _ _ ht)⟩, t1, _, _, rfl, rfl, sx _ _ ht, ?_, ?_⟩
          · rw [List.length_map]
            exact small63 (by have := G.1.2; omega)
          · refine ⟨_, rfl, same_upd (sm'.trans sx) n1, by rw [upd_ne (Ne.symm f1)]; exact sx _ _ hfo', by rw [upd_ne (Ne.symm e1)]; exact sx _ _ hdu', fun z => absurd z (by omega), fun _ => by rw [upd_ne (Ne.symm d12)]; exact sx _ _ (j2 (by omega)), fun _ => by rw [upd_ne (Ne.symm d13)]; exact sx _ _ (j3 (by omega)), fun _ => by rw [upd_ne (Ne.symm d14)]; exact sx _ _ (j4 (by omega))⟩
        · have ht := j2 (by omega)
          have hd := sm' _ _ hc9
          have G := Rm.arcs_good AM h1 (by omega)
          refine ⟨.ref fo, rfl, _, rfl, fo, _, _, .ref t2, rfl, rfl, sqL hfo', rfl, .ref du, rfl, _, rfl, du, _, _, .ref c, rfl, rfl, sqL hdu', rfl, t2, c, zs (mirL n fd), zs (mirL n fd), rfl, ht, sqL hd, fun _ => ⟨true, rfl, iteF ?_⟩, fun z => absurd rfl z⟩
          refine ⟨.ref fo, rfl, _, rfl, fo, _, _, .ref t2, rfl, rfl, sqL hfo', rfl, t2, zs (mirL n fd), rfl, sqL ht, by have := G.1.2; omega, fun b hb => ⟨b, rfl, ?_⟩⟩
          rw [hb.mpr G]
          refine iteF ⟨.ref fo, rfl, _, rfl, fo, _, _, .ref t2, rfl, rfl, sqL hfo', rfl, t2, zs (mirL n fd), rfl, sqL ht, by have := G.1.2; omega, fun b Hx sx hb => ?_⟩
          rw [hb.mpr G]
          refine ⟨true, true, rfl, rfl, _, rfl, iteF ?_⟩
          refine ⟨.ref fo, rfl, _, rfl, fo, _, _, .ref t2, rfl, rfl, sqL (sx _ _ hfo'), rfl, .inl ⟨rfl, _, sqL (sx _ _ ht)⟩, t2, _, _, rfl, rfl, sx _ _ ht, ?_, ?_⟩
          · rw [List.length_map]
            exact small63 (by have := G.1.2; omega)
          · refine ⟨_, rfl, same_upd (sm'.trans sx) n2', by rw [upd_ne (Ne.symm f2)]; exact sx _ _ hfo', by rw [upd_ne (Ne.symm e2)]; exact sx _ _ hdu', fun z => absurd z (by omega), fun z => absurd z (by omega), fun _ => by rw [upd_ne (Ne.symm d23)]; exact sx _ _ (j3 (by omega)), fun _ => by rw [upd_ne (Ne.symm d24)]; exact sx _ _ (j4 (by omega))⟩
        · have ht := j3 (by omega)
          have hd := sm' _ _ hs9
          have G := Rm.arcs_good AS (by omega) h20
          refine ⟨.ref fo, rfl, _, rfl, fo, _, _, .ref t3, rfl, rfl, sqL hfo', rfl, .ref du, rfl, _, rfl, du, _, _, .ref s, rfl, rfl, sqL hdu', rfl, t3, s, zs (sideL n n2 fd fd2), zs (sideL n n2 fd fd2), rfl, ht, sqL hd, fun _ => ⟨true, rfl, iteF ?_⟩, fun z => absurd rfl z⟩
          refine ⟨.ref fo, rfl, _, rfl, fo, _, _, .ref t3, rfl, rfl, sqL hfo', rfl, t3, zs (sideL n n2 fd fd2), rfl, sqL ht, by have := G.1.2; omega, fun b hb => ⟨b, rfl, ?_⟩⟩
          rw [hb.mpr G]
          refine iteF ⟨.ref fo, rfl, _, rfl, fo, _, _, .ref t3, rfl, rfl, sqL hfo', rfl, t3, zs (sideL n n2 fd fd2), rfl, sqL ht, by have := G.1.2; omega, fun b Hx sx hb => ?_⟩
          rw [hb.mpr G]
          refine ⟨true, true, rfl, rfl, _, rfl, iteF ?_⟩
          refine ⟨.ref fo, rfl, _, rfl, fo, _, _, .ref t3, rfl, rfl, sqL (sx _ _ hfo'), rfl, .inl ⟨rfl, _, sqL (sx _ _ ht)⟩, t3, _, _, rfl, rfl, sx _ _ ht, ?_, ?_⟩
          · rw [List.length_map]
            exact small63 (by have := G.1.2; omega)
          · refine ⟨_, rfl, same_upd (sm'.trans sx) n3, by rw [upd_ne (Ne.symm f3)]; exact sx _ _ hfo', by rw [upd_ne (Ne.symm e3)]; exact sx _ _ hdu', fun z => absurd z (by omega), fun z => absurd z (by omega), fun z => absurd z (by omega), fun _ => by rw [upd_ne (Ne.symm d34)]; exact sx _ _ (j4 (by omega))⟩
        · have ht := j4 (by omega)
          have hd := sm' _ _ ho9
          have G := Rm.arcs_good AO (by omega) (by omega)
          refine ⟨.ref fo, rfl, _, rfl, fo, _, _, .ref t4, rfl, rfl, sqL hfo', rfl, .ref du, rfl, _, rfl, du, _, _, .ref o, rfl, rfl, sqL hdu', rfl, t4, o, zs (overL n fd), zs (overL n fd), rfl, ht, sqL hd, fun _ => ⟨true, rfl, iteF ?_⟩, fun z => absurd rfl z⟩
          refine ⟨.ref fo, rfl, _, rfl, fo, _, _, .ref t4, rfl, rfl, sqL hfo', rfl, t4, zs (overL n fd), rfl, sqL ht, by have := G.1.2; omega, fun b hb => ⟨b, rfl, ?_⟩⟩
          rw [hb.mpr G]
          refine iteF ⟨.ref fo, rfl, _, rfl, fo, _, _, .ref t4, rfl, rfl, sqL hfo', rfl, t4, zs (overL n fd), rfl, sqL ht, by have := G.1.2; omega, fun b Hx sx hb => ?_⟩
          rw [hb.mpr G]
          refine ⟨true, true, rfl, rfl, _, rfl, iteF ?_⟩
          refine ⟨.ref fo, rfl, _, rfl, fo, _, _, .ref t4, rfl, rfl, sqL (sx _ _ hfo'), rfl, .inl ⟨rfl, _, sqL (sx _ _ ht)⟩, t4, _, _, rfl, rfl, sx _ _ ht, ?_, ?_⟩
          · rw [List.length_map]
            exact small63 (by have := G.1.2; omega)
          · refine ⟨_, rfl, same_upd (sm'.trans sx) n4, by rw [upd_ne (Ne.symm f4)]; exact sx _ _ hfo', by rw [upd_ne (Ne.symm e4)]; exact sx _ _ hdu', fun z => absurd z (by omega), fun z => absurd z (by omega), fun z => absurd z (by omega), fun z => absurd z (by omega)⟩
      · obtain ⟨y6, rfl, sm', hfo', hdu', _⟩ := hP
        have hh := sm' _ _ hh9
        refine ⟨.ref h, rfl, .ref p1, rfl, .ref p2, rfl, by show 2 ≤ sizeLine; decide, fun z nz => ?_⟩
        have sz := same_new (o := .lst [.ref p1, .ref p2]) nz
        refine rNe_ll (xs := [.ref i1, .ref i2]) (ys := [.ref p1, .ref p2]) (s := [zs fd, zs fd2]) (t := [zs fd, zs fd2]) (sqL (sz _ _ hh)) (sqL upd_same) ⟨sqL (sz _ _ (sm' _ _ hi1)), sqL (sz _ _ (sm' _ _ hi2)), True.intro⟩ ⟨sqL (sz _ _ (sm' _ _ hp1)), sqL (sz _ _ (sm' _ _ hp2)), True.intro⟩ ⟨_, rfl, ?_⟩
        rw [decide_eq_true rfl]
        exact iteF ⟨_, _, _, _, rfl, sm'.trans sz⟩
    · obtain ⟨y6, y11, y12, y13, rfl, sm⟩ := hP
      refine ⟨.ref r, rfl, _, rfl, _, rfl, r, -by', n, _, rfl, sqL (sm _ _ hr9), AR, h1, by omega, fun Ha t1 sa nt1 ht1 => ?_⟩
      refine ⟨.ref p1, rfl, rEq_ints (sqL ht1) (sqL (sa _ _ (sm _ _ hp1))) ⟨_, rfl, ?_⟩⟩
      rw [psi_psi fd h1 hA, decide_eq_true rfl]
      refine iteT ⟨.ref c, rfl, c, n, _, rfl, sqL (sa _ _ (sm _ _ hc9)), AM, h1, by omega, fun Hb t2 sb nt2 ht2 => ?_⟩
      refine ⟨.ref p1, rfl, rEq_ints (sqL ht2) (sqL (sb _ _ (sa _ _ (sm _ _ hp1)))) ?_⟩
      rw [mir_mir hA, decide_eq_true rfl]
      exact q _
end

end Rv

namespace Rv
open PySem PySem.Spec PyProof.Rows L2
theorem all_mk {l : PySem.W.OpenLaw} {w : World} {K : PySem.W.Frag} {h : Heap} {mg : Str → Option Value} {fa : Addr} (X : K.In h) (G : h.Ns mainGlobals mg) (hfa : mg "law" = some (.ref fa))
    {f_is_arcs : Addr} {od_is_arcs an_is_arcs : Option Addr} {sl_is_arcs : Array (Option Value)} {oc_is_arcs kV_is_arcs dc_is_arcs pm_is_arcs cd_is_arcs ct_is_arcs : Value}
    {f_ask : Addr} {od_ask an_ask : Option Addr} {sl_ask : Array (Option Value)} {oc_ask kV_ask dc_ask pm_ask cd_ask ct_ask : Value}
    {f_turned : Addr} {od_turned an_turned : Option Addr} {sl_turned : Array (Option Value)} {oc_turned kV_turned dc_turned pm_turned cd_turned ct_turned : Value}
    {f_mirrored : Addr} {od_mirrored an_mirrored : Option Addr} {sl_mirrored : Array (Option Value)} {oc_mirrored kV_mirrored dc_mirrored pm_mirrored cd_mirrored ct_mirrored : Value}
    {f_beside : Addr} {od_beside an_beside : Option Addr} {sl_beside : Array (Option Value)} {oc_beside kV_beside dc_beside pm_beside cd_beside ct_beside : Value}
    {f_covered : Addr} {od_covered an_covered : Option Addr} {sl_covered : Array (Option Value)} {oc_covered kV_covered dc_covered pm_covered cd_covered ct_covered : Value}
    {f_law_cell_at : Addr} {od_law_cell_at an_law_cell_at : Option Addr} {sl_law_cell_at : Array (Option Value)} {oc_law_cell_at kV_law_cell_at dc_law_cell_at pm_law_cell_at cd_law_cell_at ct_law_cell_at : Value}
    {f_law_whole : Addr} {od_law_whole an_law_whole : Option Addr} {sl_law_whole : Array (Option Value)} {oc_law_whole kV_law_whole dc_law_whole pm_law_whole cd_law_whole ct_law_whole : Value}
    {f_law_numbers : Addr} {od_law_numbers an_law_numbers : Option Addr} {sl_law_numbers : Array (Option Value)} {oc_law_numbers kV_law_numbers dc_law_numbers pm_law_numbers cd_law_numbers ct_law_numbers : Value}
    {f_law_arcs : Addr} {od_law_arcs an_law_arcs : Option Addr} {sl_law_arcs : Array (Option Value)} {oc_law_arcs kV_law_arcs dc_law_arcs pm_law_arcs cd_law_arcs ct_law_arcs : Value}
    {f_law_good : Addr} {od_law_good an_law_good : Option Addr} {sl_law_good : Array (Option Value)} {oc_law_good kV_law_good dc_law_good pm_law_good cd_law_good ct_law_good : Value}
    {f_law : Addr} {od_law an_law : Option Addr} {sl_law : Array (Option Value)} {oc_law kV_law dc_law pm_law cd_law ct_law : Value}
    (a_is_arcs : PySem.W.nsIn K mainGlobals "is_arcs" = some (some (.ref f_is_arcs))) (l_is_arcs : K.lookup f_is_arcs = some ⟨oc_is_arcs, od_is_arcs, .func (PySem.W.fnOf "is_arcs" "is_arcs" (defArgs s_is_arcs) (defBody s_is_arcs) (defScope s_is_arcs) .none kV_is_arcs dc_is_arcs pm_is_arcs an_is_arcs cd_is_arcs ct_is_arcs), sl_is_arcs⟩) (x_is_arcs : PySem.W.codeIn K cd_is_arcs "is_arcs" = true) (k_is_arcs : PySem.W.keepIn K (.ref f_is_arcs) = true)
    (a_ask : PySem.W.nsIn K mainGlobals "ask" = some (some (.ref f_ask))) (l_ask : K.lookup f_ask = some ⟨oc_ask, od_ask, .func (PySem.W.fnOf "ask" "ask" (defArgs s_ask) (defBody s_ask) (defScope s_ask) .none kV_ask dc_ask pm_ask an_ask cd_ask ct_ask), sl_ask⟩) (x_ask : PySem.W.codeIn K cd_ask "ask" = true) (k_ask : PySem.W.keepIn K (.ref f_ask) = true)
    (a_turned : PySem.W.nsIn K mainGlobals "turned" = some (some (.ref f_turned))) (l_turned : K.lookup f_turned = some ⟨oc_turned, od_turned, .func (PySem.W.fnOf "turned" "turned" (defArgs s_turned) (defBody s_turned) (defScope s_turned) .none kV_turned dc_turned pm_turned an_turned cd_turned ct_turned), sl_turned⟩) (x_turned : PySem.W.codeIn K cd_turned "turned" = true) (k_turned : PySem.W.keepIn K (.ref f_turned) = true)
    (a_mirrored : PySem.W.nsIn K mainGlobals "mirrored" = some (some (.ref f_mirrored))) (l_mirrored : K.lookup f_mirrored = some ⟨oc_mirrored, od_mirrored, .func (PySem.W.fnOf "mirrored" "mirrored" (defArgs s_mirrored) (defBody s_mirrored) (defScope s_mirrored) .none kV_mirrored dc_mirrored pm_mirrored an_mirrored cd_mirrored ct_mirrored), sl_mirrored⟩) (x_mirrored : PySem.W.codeIn K cd_mirrored "mirrored" = true) (k_mirrored : PySem.W.keepIn K (.ref f_mirrored) = true)
    (a_beside : PySem.W.nsIn K mainGlobals "beside" = some (some (.ref f_beside))) (l_beside : K.lookup f_beside = some ⟨oc_beside, od_beside, .func (PySem.W.fnOf "beside" "beside" (defArgs s_beside) (defBody s_beside) (defScope s_beside) .none kV_beside dc_beside pm_beside an_beside cd_beside ct_beside), sl_beside⟩) (x_beside : PySem.W.codeIn K cd_beside "beside" = true) (k_beside : PySem.W.keepIn K (.ref f_beside) = true)
    (a_covered : PySem.W.nsIn K mainGlobals "covered" = some (some (.ref f_covered))) (l_covered : K.lookup f_covered = some ⟨oc_covered, od_covered, .func (PySem.W.fnOf "covered" "covered" (defArgs s_covered) (defBody s_covered) (defScope s_covered) .none kV_covered dc_covered pm_covered an_covered cd_covered ct_covered), sl_covered⟩) (x_covered : PySem.W.codeIn K cd_covered "covered" = true) (k_covered : PySem.W.keepIn K (.ref f_covered) = true)
    (a_law_cell_at : PySem.W.nsIn K mainGlobals "_law_cell_at" = some (some (.ref f_law_cell_at))) (l_law_cell_at : K.lookup f_law_cell_at = some ⟨oc_law_cell_at, od_law_cell_at, .func (PySem.W.fnOf "_law_cell_at" "_law_cell_at" (defArgs s_law_cell_at) (defBody s_law_cell_at) (defScope s_law_cell_at) .none kV_law_cell_at dc_law_cell_at pm_law_cell_at an_law_cell_at cd_law_cell_at ct_law_cell_at), sl_law_cell_at⟩) (x_law_cell_at : PySem.W.codeIn K cd_law_cell_at "_law_cell_at" = true) (k_law_cell_at : PySem.W.keepIn K (.ref f_law_cell_at) = true)
    (a_law_whole : PySem.W.nsIn K mainGlobals "_law_whole" = some (some (.ref f_law_whole))) (l_law_whole : K.lookup f_law_whole = some ⟨oc_law_whole, od_law_whole, .func (PySem.W.fnOf "_law_whole" "_law_whole" (defArgs s_law_whole) (defBody s_law_whole) (defScope s_law_whole) .none kV_law_whole dc_law_whole pm_law_whole an_law_whole cd_law_whole ct_law_whole), sl_law_whole⟩) (x_law_whole : PySem.W.codeIn K cd_law_whole "_law_whole" = true) (k_law_whole : PySem.W.keepIn K (.ref f_law_whole) = true)
    (a_law_numbers : PySem.W.nsIn K mainGlobals "_law_numbers" = some (some (.ref f_law_numbers))) (l_law_numbers : K.lookup f_law_numbers = some ⟨oc_law_numbers, od_law_numbers, .func (PySem.W.fnOf "_law_numbers" "_law_numbers" (defArgs s_law_numbers) (defBody s_law_numbers) (defScope s_law_numbers) .none kV_law_numbers dc_law_numbers pm_law_numbers an_law_numbers cd_law_numbers ct_law_numbers), sl_law_numbers⟩) (x_law_numbers : PySem.W.codeIn K cd_law_numbers "_law_numbers" = true) (k_law_numbers : PySem.W.keepIn K (.ref f_law_numbers) = true)
    (a_law_arcs : PySem.W.nsIn K mainGlobals "_law_arcs" = some (some (.ref f_law_arcs))) (l_law_arcs : K.lookup f_law_arcs = some ⟨oc_law_arcs, od_law_arcs, .func (PySem.W.fnOf "_law_arcs" "_law_arcs" (defArgs s_law_arcs) (defBody s_law_arcs) (defScope s_law_arcs) .none kV_law_arcs dc_law_arcs pm_law_arcs an_law_arcs cd_law_arcs ct_law_arcs), sl_law_arcs⟩) (x_law_arcs : PySem.W.codeIn K cd_law_arcs "_law_arcs" = true) (k_law_arcs : PySem.W.keepIn K (.ref f_law_arcs) = true)
    (a_law_good : PySem.W.nsIn K mainGlobals "_law_good" = some (some (.ref f_law_good))) (l_law_good : K.lookup f_law_good = some ⟨oc_law_good, od_law_good, .func (PySem.W.fnOf "_law_good" "_law_good" (defArgs s_law_good) (defBody s_law_good) (defScope s_law_good) .none kV_law_good dc_law_good pm_law_good an_law_good cd_law_good ct_law_good), sl_law_good⟩) (x_law_good : PySem.W.codeIn K cd_law_good "_law_good" = true) (k_law_good : PySem.W.keepIn K (.ref f_law_good) = true)
    (a_law : PySem.W.nsIn K mainGlobals "law" = some (some (.ref f_law))) (l_law : K.lookup f_law = some ⟨oc_law, od_law, .func (PySem.W.fnOf "law" "law" (defArgs s_law) (defBody s_law) (defScope s_law) .none kV_law dc_law pm_law an_law cd_law ct_law), sl_law⟩) (x_law : PySem.W.codeIn K cd_law "law" = true) (k_law : PySem.W.keepIn K (.ref f_law) = true)
    {t_MOST : Tok} (m_MOST : PySem.W.nsIn K mainGlobals "MOST" = some (some (.int 20 t_MOST)))
    (z_len : PySem.W.nsIn K mainGlobals "len" = some none) (z_range : PySem.W.nsIn K mainGlobals "range" = some none) (z_isinstance : PySem.W.nsIn K mainGlobals "isinstance" = some none) (z_int : PySem.W.nsIn K mainGlobals "int" = some none) (z_bool : PySem.W.nsIn K mainGlobals "bool" = some none) (z_list : PySem.W.nsIn K mainGlobals "list" = some none) (z_str : PySem.W.nsIn K mainGlobals "str" = some none) (z_reversed : PySem.W.nsIn K mainGlobals "reversed" = some none) (z_min : PySem.W.nsIn K mainGlobals "min" = some none) (z_max : PySem.W.nsIn K mainGlobals "max" = some none) (z_abs : PySem.W.nsIn K mainGlobals "abs" = some none) (z_sum : PySem.W.nsIn K mainGlobals "sum" = some none) (z_set : PySem.W.nsIn K mainGlobals "set" = some none) (z_tuple : PySem.W.nsIn K mainGlobals "tuple" = some none)
    : ∃ fd : FuncData, (∀ (s : Shared) (v : Value), BindsTo s fd ⟨[v], []⟩ [("script", v)]) ∧ ∀ base : Heap, K.In base → base.Ns mainGlobals mg → FnOk l.prog w K mg base CX0 4 fa fd ["script"] (spLaw K) := by
  have e := hfa.symm.trans (PySem.W.mg_of X G a_law)
  cases e
  have B : Blt mg := ⟨PySem.W.mg_none_of X G z_len, PySem.W.mg_none_of X G z_range, PySem.W.mg_none_of X G z_isinstance, PySem.W.mg_none_of X G z_int, PySem.W.mg_none_of X G z_bool, PySem.W.mg_none_of X G z_list, PySem.W.mg_none_of X G z_str, PySem.W.mg_none_of X G z_reversed, PySem.W.mg_none_of X G z_min, PySem.W.mg_none_of X G z_max, PySem.W.mg_none_of X G z_abs, PySem.W.mg_none_of X G z_sum, PySem.W.mg_none_of X G z_set, PySem.W.mg_none_of X G z_tuple⟩
  have g_MOST := PySem.W.mg_of X G m_MOST
  have D_is_arcs : Dfn K mg "is_arcs" s_is_arcs ["some"] := ⟨f_is_arcs, _, fun_mk (st := s_is_arcs) l_is_arcs x_is_arcs k_is_arcs, PySem.W.mg_of X G a_is_arcs, (fun_mk (st := s_is_arcs) l_is_arcs x_is_arcs k_is_arcs).binds (ps := ["some"]) fun _ _ _ _ _ _ us hl => match us, hl with | [_], _ => rfl⟩
  have D_ask : Dfn K mg "ask" s_ask ["arcs"] := ⟨f_ask, _, fun_mk (st := s_ask) l_ask x_ask k_ask, PySem.W.mg_of X G a_ask, (fun_mk (st := s_ask) l_ask x_ask k_ask).binds (ps := ["arcs"]) fun _ _ _ _ _ _ us hl => match us, hl with | [_], _ => rfl⟩
  have D_turned : Dfn K mg "turned" s_turned ["arcs", "by"] := ⟨f_turned, _, fun_mk (st := s_turned) l_turned x_turned k_turned, PySem.W.mg_of X G a_turned, (fun_mk (st := s_turned) l_turned x_turned k_turned).binds (ps := ["arcs", "by"]) fun _ _ _ _ _ _ us hl => match us, hl with | [_, _], _ => rfl⟩
  have D_mirrored : Dfn K mg "mirrored" s_mirrored ["arcs"] := ⟨f_mirrored, _, fun_mk (st := s_mirrored) l_mirrored x_mirrored k_mirrored, PySem.W.mg_of X G a_mirrored, (fun_mk (st := s_mirrored) l_mirrored x_mirrored k_mirrored).binds (ps := ["arcs"]) fun _ _ _ _ _ _ us hl => match us, hl with | [_], _ => rfl⟩
  have D_beside : Dfn K mg "beside" s_beside ["one", "other"] := ⟨f_beside, _, fun_mk (st := s_beside) l_beside x_beside k_beside, PySem.W.mg_of X G a_beside, (fun_mk (st := s_beside) l_beside x_beside k_beside).binds (ps := ["one", "other"]) fun _ _ _ _ _ _ us hl => match us, hl with | [_, _], _ => rfl⟩
  have D_covered : Dfn K mg "covered" s_covered ["arcs"] := ⟨f_covered, _, fun_mk (st := s_covered) l_covered x_covered k_covered, PySem.W.mg_of X G a_covered, (fun_mk (st := s_covered) l_covered x_covered k_covered).binds (ps := ["arcs"]) fun _ _ _ _ _ _ us hl => match us, hl with | [_], _ => rfl⟩
  have D_law_cell_at : Dfn K mg "_law_cell_at" s_law_cell_at ["script", "k"] := ⟨f_law_cell_at, _, fun_mk (st := s_law_cell_at) l_law_cell_at x_law_cell_at k_law_cell_at, PySem.W.mg_of X G a_law_cell_at, (fun_mk (st := s_law_cell_at) l_law_cell_at x_law_cell_at k_law_cell_at).binds (ps := ["script", "k"]) fun _ _ _ _ _ _ us hl => match us, hl with | [_, _], _ => rfl⟩
  have D_law_whole : Dfn K mg "_law_whole" s_law_whole ["found"] := ⟨f_law_whole, _, fun_mk (st := s_law_whole) l_law_whole x_law_whole k_law_whole, PySem.W.mg_of X G a_law_whole, (fun_mk (st := s_law_whole) l_law_whole x_law_whole k_law_whole).binds (ps := ["found"]) fun _ _ _ _ _ _ us hl => match us, hl with | [_], _ => rfl⟩
  have D_law_numbers : Dfn K mg "_law_numbers" s_law_numbers ["found", "due"] := ⟨f_law_numbers, _, fun_mk (st := s_law_numbers) l_law_numbers x_law_numbers k_law_numbers, PySem.W.mg_of X G a_law_numbers, (fun_mk (st := s_law_numbers) l_law_numbers x_law_numbers k_law_numbers).binds (ps := ["found", "due"]) fun _ _ _ _ _ _ us hl => match us, hl with | [_, _], _ => rfl⟩
  have D_law_arcs : Dfn K mg "_law_arcs" s_law_arcs ["script", "at", "size"] := ⟨f_law_arcs, _, fun_mk (st := s_law_arcs) l_law_arcs x_law_arcs k_law_arcs, PySem.W.mg_of X G a_law_arcs, (fun_mk (st := s_law_arcs) l_law_arcs x_law_arcs k_law_arcs).binds (ps := ["script", "at", "size"]) fun _ _ _ _ _ _ us hl => match us, hl with | [_, _, _], _ => rfl⟩
  have D_law_good : Dfn K mg "_law_good" s_law_good ["some"] := ⟨f_law_good, _, fun_mk (st := s_law_good) l_law_good x_law_good k_law_good, PySem.W.mg_of X G a_law_good, (fun_mk (st := s_law_good) l_law_good x_law_good k_law_good).binds (ps := ["some"]) fun _ _ _ _ _ _ us hl => match us, hl with | [_], _ => rfl⟩
  refine ⟨PySem.W.fnOf "law" "law" (defArgs s_law) (defBody s_law) (defScope s_law) .none kV_law dc_law pm_law an_law cd_law ct_law, fun s v => .of_eq rfl, fun base _ _ => ?_⟩
  have c_is_arcs := ok_is_arcs (P := l.prog) (w := w) (K := K) (mg := mg) (base := base) D_is_arcs B g_MOST
  have c_ask := ok_ask (P := l.prog) (w := w) (K := K) (mg := mg) (base := base) D_ask c_is_arcs
  have c_law_cell_at := ok_law_cell_at (P := l.prog) (w := w) (K := K) (mg := mg) (base := base) D_law_cell_at B
  have c_law_whole := ok_law_whole (P := l.prog) (w := w) (K := K) (mg := mg) (base := base) D_law_whole B
  have c_law_numbers := ok_law_numbers (P := l.prog) (w := w) (K := K) (mg := mg) (base := base) D_law_numbers B c_law_whole
  have c_law_arcs := ok_law_arcs (P := l.prog) (w := w) (K := K) (mg := mg) (base := base) D_law_arcs B c_law_cell_at
  have c_law_good := ok_law_good (P := l.prog) (w := w) (K := K) (mg := mg) (base := base) D_law_good B
  have c_turned := ok_turned (P := l.prog) (w := w) (K := K) (mg := mg) (base := base) D_turned B c_ask
  have c_mirrored := ok_mirrored (P := l.prog) (w := w) (K := K) (mg := mg) (base := base) D_mirrored B c_ask
  have c_beside := ok_beside (P := l.prog) (w := w) (K := K) (mg := mg) (base := base) D_beside B g_MOST c_ask
  have c_covered := ok_covered (P := l.prog) (w := w) (K := K) (mg := mg) (base := base) D_covered B g_MOST c_ask
  exact ok_law (fun_mk (st := s_law) l_law x_law k_law) B c_law_arcs c_law_cell_at c_turned c_mirrored c_beside c_covered c_is_arcs c_law_good c_law_numbers
end Rv
open PySem PySem.W PyProof.Rows
set_option maxHeartbeats 0 in
theorem PySem.Challenge.cw_riverloops_k03_turned_mirrored_beside_an_holds : PySem.Challenge.rw_riverloops_k03_turned_mirrored_beside_an.Holds := by
  w_on; o_law; k_head; (case hw => w_witness2)
  k_fill
  refine L2.walk_of (l := PySem.Challenge.rw_riverloops_k03_turned_mirrored_beside_an) (n := 63) (k := 4) (x := "script") (CX := fun _ => L2.CX0) (sp := fun w => Rv.spLaw _) rfl (by decide) rfl ⟨rfl, by decide, by decide⟩ (fun w h Y => PySem.W.kIn_of Y) ?F (fun _ _ a ns hl _ hS => ⟨a, ns, rfl, hS, hl, fun _ => rfl⟩) (fun _ _ _ _ _ h => h)
  case F =>
    intro w mg fa h KX G hmg
    refine' Rv.all_mk KX G hmg ?a_is_arcs ?l_is_arcs ?x_is_arcs ?k_is_arcs ?a_ask ?l_ask ?x_ask ?k_ask ?a_turned ?l_turned ?x_turned ?k_turned ?a_mirrored ?l_mirrored ?x_mirrored ?k_mirrored ?a_beside ?l_beside ?x_beside ?k_beside ?a_covered ?l_covered ?x_covered ?k_covered ?a_law_cell_at ?l_law_cell_at ?x_law_cell_at ?k_law_cell_at ?a_law_whole ?l_law_whole ?x_law_whole ?k_law_whole ?a_law_numbers ?l_law_numbers ?x_law_numbers ?k_law_numbers ?a_law_arcs ?l_law_arcs ?x_law_arcs ?k_law_arcs ?a_law_good ?l_law_good ?x_law_good ?k_law_good ?a_law ?l_law ?x_law ?k_law ?m_MOST ?z_len ?z_range ?z_isinstance ?z_int ?z_bool ?z_list ?z_str ?z_reversed ?z_min ?z_max ?z_abs ?z_sum ?z_set ?z_tuple
    (case a_is_arcs => k_is); (case l_is_arcs => k_is); (case x_is_arcs => k_is); (case k_is_arcs => k_is); (case a_ask => k_is); (case l_ask => k_is); (case x_ask => k_is); (case k_ask => k_is); (case a_turned => k_is); (case l_turned => k_is); (case x_turned => k_is); (case k_turned => k_is); (case a_mirrored => k_is); (case l_mirrored => k_is); (case x_mirrored => k_is); (case k_mirrored => k_is); (case a_beside => k_is); (case l_beside => k_is); (case x_beside => k_is); (case k_beside => k_is); (case a_covered => k_is); (case l_covered => k_is); (case x_covered => k_is); (case k_covered => k_is); (case a_law_cell_at => k_is); (case l_law_cell_at => k_is); (case x_law_cell_at => k_is); (case k_law_cell_at => k_is); (case a_law_whole => k_is); (case l_law_whole => k_is); (case x_law_whole => k_is); (case k_law_whole => k_is); (case a_law_numbers => k_is); (case l_law_numbers => k_is); (case x_law_numbers => k_is); (case k_law_numbers => k_is); (case a_law_arcs => k_is); (case l_law_arcs => k_is); (case x_law_arcs => k_is); (case k_law_arcs => k_is); (case a_law_good => k_is); (case l_law_good => k_is); (case x_law_good => k_is); (case k_law_good => k_is); (case a_law => k_is); (case l_law => k_is); (case x_law => k_is); (case k_law => k_is); (case m_MOST => k_is); (case z_len => k_is); (case z_range => k_is); (case z_isinstance => k_is); (case z_int => k_is); (case z_bool => k_is); (case z_list => k_is); (case z_str => k_is); (case z_reversed => k_is); (case z_min => k_is); (case z_max => k_is); (case z_abs => k_is); (case z_sum => k_is); (case z_set => k_is); (case z_tuple => k_is)
