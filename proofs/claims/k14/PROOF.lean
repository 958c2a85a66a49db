import PyProof.Rows.All
import Wide.All
import OpenK.AllK
import Wide.FinOn
import PySem.Challenge.RW_riverloops_k14_each_refusal_its_own
import HandS.ForMost
import HandS.IsInst
import HandS.RevRange
import HandS.Style
import HandS.Conv
import HandS.SetFor
import HandS.More
import HandS.Walk
import KE.Datum
import HandS.Codes
import HandS.ForExc
import HandS.ExcIs
import HandS.HotCalls
set_option Elab.async false
set_option linter.all false
set_option maxRecDepth 100000
set_option maxHeartbeats 4000000

set_option linter.all false
namespace Rm

/-! ## lists of whole numbers that tell arcs -/
def g (s : List Int) (k : Nat) : Int := s.getD k 0
def OkAt (s : List Int) (k : Nat) : Prop := 0 ≤ g s k ∧ g s k < (s.length : Int) ∧ g s k ≠ (k : Int) ∧ g s (g s k).toNat = (k : Int)
def NcI (s : List Int) : Prop := ∀ j k : Nat, j < k → k < s.length → (k : Int) < g s j → g s j < g s k → False
def Good (s : List Int) : Prop := (2 ≤ s.length ∧ s.length ≤ 40) ∧ (∀ k : Nat, k < s.length → OkAt s k) ∧ NcI s
def opens (s : List Int) (k : Nat) : List Nat := (List.range k).filter (fun j => decide ((k : Int) ≤ g s j))
structure Stage (s : List Int) (k : Nat) : Prop where
  ok : ∀ j : Nat, j < k → OkAt s j
  top : ∀ j : Nat, j < k → g s j < (j : Int) → (opens s j).getLast? = some (g s j).toNat

theorem mem_opens {s : List Int} {k j : Nat} : j ∈ opens s k ↔ j < k ∧ (k : Int) ≤ g s j := by
  simp [opens, List.mem_filter, List.mem_range]
theorem opens_sorted (s : List Int) (k : Nat) : (opens s k).Pairwise (· < ·) := List.Pairwise.filter _ List.pairwise_lt_range
theorem opens_len (s : List Int) (k : Nat) : (opens s k).length ≤ k := by
  have h := List.length_filter_le (fun j : Nat => decide ((k : Int) ≤ g s j)) (List.range k)
  rw [List.length_range] at h
  exact h
theorem stage0 (s : List Int) : Stage s 0 := ⟨fun j h => absurd h (Nat.not_lt_zero j), fun j h => absurd h (Nat.not_lt_zero j)⟩
theorem opens0 (s : List Int) : opens s 0 = [] := rfl
/-- within the checked places, partners are one to one -/
theorem okAt_inj {s : List Int} {i j : Nat} (hi : OkAt s i) (e : g s i = (j : Int)) : g s j = (i : Int) := by
  have h := hi.2.2.2
  rw [e] at h
  simpa using h
theorem opens_succ (s : List Int) (k : Nat) : opens s (k + 1) = (List.range k).filter (fun j => decide (((k + 1 : Nat) : Int) ≤ g s j)) ++ (if ((k + 1 : Nat) : Int) ≤ g s k then [k] else []) := by
  unfold opens
  rw [List.range_succ, List.filter_append]
  congr 1
  by_cases h : ((k + 1 : Nat) : Int) ≤ g s k
  · rw [if_pos h]
    exact List.filter_cons_of_pos (p := fun j => decide (((k + 1 : Nat) : Int) ≤ g s j)) (decide_eq_true h)
  · rw [if_neg h]
    exact List.filter_cons_of_neg (p := fun j => decide (((k + 1 : Nat) : Int) ≤ g s j)) (fun z => h (of_decide_eq_true z))
theorem opens_push {s : List Int} {k : Nat} (st : Stage s k) (hk : (k : Int) < g s k) : opens s (k + 1) = opens s k ++ [k] := by
  rw [opens_succ, if_pos (by omega)]
  congr 1
  unfold opens
  apply List.filter_congr
  intro j hj
  rw [List.mem_range] at hj
  have hne : g s j ≠ (k : Int) := fun e => by
    have := okAt_inj (st.ok j hj) e
    omega
  exact decide_eq_decide.mpr (by omega)
theorem filter_ne_last : ∀ (l : List Nat) (t : Nat), (l ++ [t]).Nodup → (l ++ [t]).filter (fun j => decide (j ≠ t)) = l := by
  intro l t h
  rw [List.filter_append]
  have h1 : l.filter (fun j => decide (j ≠ t)) = l := by
    apply List.filter_eq_self.mpr
    intro a ha
    rw [List.nodup_append] at h
    exact decide_eq_true (h.2.2 a ha t (List.mem_singleton.mpr rfl))
  rw [h1]
  simp
theorem nodup_of_sorted {l : List Nat} (h : l.Pairwise (· < ·)) : l.Nodup := h.imp fun h => Nat.ne_of_lt h
theorem opens_pop {s : List Int} {k : Nat} {l : List Nat} {t : Nat} (st : Stage s k) (ok : OkAt s k) (hk : g s k < (k : Int)) (e : opens s k = l ++ [t]) (ht : (t : Int) = g s k) : opens s (k + 1) = l := by
  rw [opens_succ, if_neg (by omega), List.append_nil]
  have h1 : (List.range k).filter (fun j => decide (((k + 1 : Nat) : Int) ≤ g s j)) = (opens s k).filter (fun j => decide (j ≠ t)) := by
    unfold opens
    rw [List.filter_filter]
    apply List.filter_congr
    intro j hj
    rw [List.mem_range] at hj
    have hje : g s j = (k : Int) ↔ j = t := by
      constructor
      · intro q
        have := okAt_inj (st.ok j hj) q
        omega
      · intro q
        subst q
        have := okAt_inj (j := j) ok ht.symm
        exact this
    by_cases q : j = t
    · have := hje.mpr q
      simp [q]
      subst q
      omega
    · have : g s j ≠ (k : Int) := fun z => q (hje.mp z)
      simp [q]
      omega
  rw [h1, e]
  exact filter_ne_last l t (e ▸ nodup_of_sorted (opens_sorted s k))
/-- at a place that leads back something is open -/
theorem opens_ne {s : List Int} {k : Nat} (ok : OkAt s k) (hk : g s k < (k : Int)) : ∃ l t, opens s k = l ++ [t] := by
  have hm : (g s k).toNat ∈ opens s k := by
    rw [mem_opens]
    have h := ok.2.2.2
    have h0 := ok.1
    constructor
    · omega
    · omega
  rcases List.eq_nil_or_concat (opens s k) with e | ⟨l, t, e⟩
  · rw [e] at hm; cases hm
  · exact ⟨l, t, by rw [e]; exact List.concat_eq_append⟩
theorem stage_push {s : List Int} {k : Nat} (st : Stage s k) (ok : OkAt s k) (hk : (k : Int) < g s k) : Stage s (k + 1) := by
  refine ⟨fun j hj => ?_, fun j hj h => ?_⟩
  · by_cases e : j = k
    · subst e; exact ok
    · exact st.ok j (by omega)
  · by_cases e : j = k
    · subst e; omega
    · exact st.top j (by omega) h
theorem stage_pop {s : List Int} {k : Nat} {l : List Nat} {t : Nat} (st : Stage s k) (ok : OkAt s k) (e : opens s k = l ++ [t]) (ht : (t : Int) = g s k) : Stage s (k + 1) := by
  refine ⟨fun j hj => ?_, fun j hj h => ?_⟩
  · by_cases e : j = k
    · subst e; exact ok
    · exact st.ok j (by omega)
  · by_cases q : j = k
    · subst q
      rw [e, List.getLast?_append, ← ht]
      simp
    · exact st.top j (by omega) h
/-- the top is not the partner: two arcs cross -/
theorem stage_cross {s : List Int} {k : Nat} {l : List Nat} {t : Nat} (st : Stage s k) (ok : OkAt s k) (hk : g s k < (k : Int)) (hl : k < s.length) (e : opens s k = l ++ [t]) (ht : (t : Int) ≠ g s k) : ¬ NcI s := by
  intro nc
  have hm : (g s k).toNat ∈ opens s k := by
    rw [mem_opens]
    have h := ok.2.2.2
    have h0 := ok.1
    constructor
    · omega
    · omega
  have htm : t ∈ opens s k := by rw [e]; simp
  rw [mem_opens] at htm
  have hsrt := opens_sorted s k
  rw [e, List.pairwise_append] at hsrt
  rw [e, List.mem_append] at hm
  have h0 := ok.1
  have hlt : (g s k).toNat < t := by
    rcases hm with hm | hm
    · exact hsrt.2.2 _ hm t (by simp)
    · rw [List.mem_singleton] at hm
      omega
  have hne : g s t ≠ (k : Int) := fun q => by
    have := okAt_inj (st.ok t htm.1) q
    omega
  have hp := ok.2.2.2
  exact nc (g s k).toNat t hlt (by omega) (by omega) (by omega)
theorem stage_good {s : List Int} (h : 2 ≤ s.length ∧ s.length ≤ 40) (st : Stage s s.length) : Good s := by
  refine ⟨h, st.ok, fun j k hjk hk h1 h2 => ?_⟩
  have okj := st.ok j (by omega)
  have okk := st.ok k hk
  -- at the place where j's arc ends
  obtain ⟨e0, e1, e2, e3⟩ := okj
  have hm : g s (g s j).toNat < ((g s j).toNat : Int) := by omega
  have ht := st.top (g s j).toNat (by omega) hm
  rw [e3] at ht
  have hkm : k ∈ opens s (g s j).toNat := by
    rw [mem_opens]
    constructor <;> omega
  rcases List.eq_nil_or_concat (opens s (g s j).toNat) with q | ⟨l, t, q⟩
  · rw [q] at hkm; cases hkm
  · rw [List.concat_eq_append] at q
    rw [q, List.getLast?_append] at ht
    simp at ht
    have hsrt := opens_sorted s (g s j).toNat
    rw [q, List.pairwise_append] at hsrt
    rw [q, List.mem_append] at hkm
    rcases hkm with hkm | hkm
    · have := hsrt.2.2 _ hkm t (by simp)
      omega
    · rw [List.mem_singleton] at hkm
      omega
/-- of a good list the top at a place that leads back is its partner -/
theorem good_top {s : List Int} (G : Good s) {k : Nat} (hk : k < s.length) (hb : g s k < (k : Int)) : ∃ (l : List Nat) (t : Nat), opens s k = l ++ [t] ∧ (t : Int) = g s k := by
  obtain ⟨l, t, e⟩ := opens_ne (G.2.1 k hk) hb
  refine ⟨l, t, e, ?_⟩
  have okk := G.2.1 k hk
  have hm : (g s k).toNat ∈ opens s k := by
    rw [mem_opens]
    have h := okk.2.2.2
    have h0 := okk.1
    constructor <;> omega
  have htm : t ∈ opens s k := by rw [e]; simp
  rw [mem_opens] at htm
  have hsrt := opens_sorted s k
  rw [e, List.pairwise_append] at hsrt
  rw [e, List.mem_append] at hm
  have h0 := okk.1
  rcases hm with hm | hm
  · have hlt := hsrt.2.2 _ hm t (by simp)
    have hne : g s t ≠ (k : Int) := fun q => by
      have := okAt_inj (G.2.1 t (by omega)) q
      omega
    have hp := okk.2.2.2
    exact (G.2.2 (g s k).toNat t hlt (by omega) (by omega) (by omega)).elim
  · rw [List.mem_singleton] at hm
    omega
theorem good_stage {s : List Int} (G : Good s) : ∀ k : Nat, k ≤ s.length → Stage s k := fun k hk =>
  ⟨fun j hj => G.2.1 j (by omega), fun j hj h => by
    obtain ⟨l, t, e, ht⟩ := good_top G (show j < s.length by omega) h
    rw [e, List.getLast?_append, ← ht]
    simp⟩
end Rm

set_option linter.all false
namespace Rm
/-! ## arcs by lists of naturals -/
def at' (a : List Nat) (k : Nat) : Nat := a.getD k 0
structure Arcs (m : Nat) (f : Nat → Nat) : Prop where
  lt : ∀ k, k < m → f k < m
  ne : ∀ k, k < m → f k ≠ k
  inv : ∀ k, k < m → f (f k) = k
  nc : ∀ j k, j < k → k < m → k < f j → f j < f k → False
/-- a list of 2 n places that tells n arcs -/
structure ArcsL (n : Nat) (a : List Nat) : Prop where
  len : a.length = 2 * n
  arcs : Arcs (2 * n) (at' a)
abbrev zs (a : List Nat) : List Int := a.map (fun n : Nat => (n : Int))
theorem g_zs (a : List Nat) (k : Nat) : g (zs a) k = ((at' a k : Nat) : Int) := by
  simp only [g, at', zs, List.getD_eq_getElem?_getD, List.getElem?_map]
  cases a[k]? <;> simp
theorem len_zs (a : List Nat) : (zs a).length = a.length := by simp [zs]
theorem arcs_good {n : Nat} {a : List Nat} (h : ArcsL n a) (h1 : 1 ≤ n) (h2 : n ≤ 20) : Good (zs a) := by
  have hl := h.len
  refine ⟨by rw [len_zs]; omega, fun k hk => ?_, fun j k hjk hk h1 h2 => ?_⟩
  · rw [len_zs] at hk
    have a1 := h.arcs.lt k (by omega)
    have a2 := h.arcs.ne k (by omega)
    have a3 := h.arcs.inv k (by omega)
    refine ⟨?_, ?_, ?_, ?_⟩
    · rw [g_zs]; omega
    · rw [g_zs, len_zs]; omega
    · rw [g_zs]; omega
    · rw [g_zs, g_zs, Int.toNat_natCast, a3]
  · rw [len_zs] at hk
    rw [g_zs] at h1
    rw [g_zs, g_zs] at h2
    exact h.arcs.nc j k hjk (by omega) (by omega) (by omega)
/-! ## arcs built with a pile -/
structure Bld (m k : Nat) (fd st : List Nat) : Prop where
  len : fd.length = m
  km : k ≤ m
  srt : st.Pairwise (· < ·)
  slt : ∀ j, j ∈ st → j < k
  cl : ∀ j, j < k → j ∉ st → at' fd j < k ∧ at' fd j ∉ st ∧ at' fd j ≠ j ∧ at' fd (at' fd j) = j
  nc : ∀ i j, i < j → j < k → i ∉ st → j ∉ st → j < at' fd i → at' fd i < at' fd j → False
  cov : ∀ i j, i < k → i ∉ st → j ∈ st → i < j → j < at' fd i → False
theorem bld0 (m : Nat) (fd : List Nat) (h : fd.length = m) : Bld m 0 fd [] :=
  ⟨h, Nat.zero_le _, .nil, fun _ h => (nomatch h), fun _ h => absurd h (Nat.not_lt_zero _), fun _ _ _ h => absurd h (Nat.not_lt_zero _), fun _ _ h => absurd h (Nat.not_lt_zero _)⟩
theorem bld_push {m k : Nat} {fd st : List Nat} (B : Bld m k fd st) (hk : k < m) : Bld m (k + 1) fd (st ++ [k]) := by
  have hm : ∀ j, j ∈ st ++ [k] ↔ j ∈ st ∨ j = k := fun j => by simp
  refine ⟨B.len, hk, ?_, fun j h => ?_, fun j hj hn => ?_, fun i j hij hj hi hjn h1 h2 => ?_, fun i j hi hin hj h1 h2 => ?_⟩
  · rw [List.pairwise_append]
    exact ⟨B.srt, List.pairwise_singleton _ _, fun a ha b hb => by rw [List.mem_singleton] at hb; rw [hb]; exact B.slt a ha⟩
  · rcases (hm j).mp h with h | h
    · have := B.slt j h; omega
    · omega
  · rw [hm] at hn
    obtain ⟨c1, c2, c3, c4⟩ := B.cl j (by omega) (fun z => hn (.inl z))
    refine ⟨by omega, fun z => ?_, c3, c4⟩
    rcases (hm _).mp z with z | z
    · exact c2 z
    · omega
  · rw [hm] at hi hjn
    exact B.nc i j hij (by omega) (fun z => hi (.inl z)) (fun z => hjn (.inl z)) h1 h2
  · rw [hm] at hin
    rcases (hm j).mp hj with hj | hj
    · exact B.cov i j (by omega) (fun z => hin (.inl z)) hj h1 h2
    · have := (B.cl i (by omega) (fun z => hin (.inl z))).1
      omega
theorem at_set {a : List Nat} {k t j : Nat} (h : k < a.length) : at' (a.set k t) j = if j = k then t else at' a j := by
  unfold at'
  rw [List.getD_eq_getElem?_getD, List.getD_eq_getElem?_getD, List.getElem?_set]
  by_cases e : k = j
  · subst e
    simp [h]
  · rw [if_neg e, if_neg (fun z => e z.symm)]
theorem bld_pop {m k t : Nat} {fd l : List Nat} (B : Bld m k fd (l ++ [t])) (hk : k < m) : Bld m (k + 1) ((fd.set k t).set t k) l := by
  have hm : ∀ j, j ∈ l ++ [t] ↔ j ∈ l ∨ j = t := fun j => by simp
  have ht : t < k := B.slt t (by simp)
  have hsr := List.pairwise_append.mp B.srt
  have hlt : ∀ j, j ∈ l → j < t := fun j hj => hsr.2.2 j hj t (by simp)
  have hl := B.len
  have ha : ∀ j, at' ((fd.set k t).set t k) j = if j = t then k else if j = k then t else at' fd j := fun j => by
    rw [at_set (by rw [List.length_set]; omega), at_set (by omega)]
  have old : ∀ j, j < k + 1 → j ∉ l → j = t ∨ j = k ∨ (j < k ∧ j ∉ l ++ [t]) := fun j h1 h2 => by
    by_cases e : j = t
    · exact .inl e
    · by_cases e2 : j = k
      · exact .inr (.inl e2)
      · refine .inr (.inr ⟨by omega, fun z => ?_⟩)
        rcases (hm j).mp z with z | z
        · exact h2 z
        · exact e z
  have hao : ∀ j, j < k → j ∉ l ++ [t] → at' ((fd.set k t).set t k) j = at' fd j := fun j h1 h2 => by
    rw [ha, if_neg (fun z => h2 ((hm j).mpr (.inr z))), if_neg (by omega)]
  have hat : at' ((fd.set k t).set t k) t = k := by rw [ha, if_pos rfl]
  have hak : at' ((fd.set k t).set t k) k = t := by rw [ha, if_neg (by omega), if_pos rfl]
  refine ⟨by rw [List.length_set, List.length_set]; exact hl, hk, hsr.1, fun j h => ?_, fun j hj hn => ?_, fun i j hij hj hi hjn h1 h2 => ?_, fun i j hi hin hj h1 h2 => ?_⟩
  · have := hlt j h; omega
  · rcases old j hj hn with e | e | ⟨e1, e2⟩
    · subst e
      rw [hat]
      refine ⟨by omega, fun z => ?_, by omega, hak⟩
      have := hlt _ z; omega
    · subst e
      rw [hak]
      refine ⟨by omega, fun z => ?_, by omega, hat⟩
      have := hlt _ z; omega
    · obtain ⟨c1, c2, c3, c4⟩ := B.cl j e1 e2
      rw [hao j e1 e2, hao _ c1 c2]
      exact ⟨by omega, fun z => c2 ((hm _).mpr (.inl z)), c3, c4⟩
  · rcases old i (by omega) hi with e | e | ⟨e1, e2⟩
    · subst e
      rw [hat] at h1 h2
      rcases old j hj hjn with f | f | ⟨f1, f2⟩
      · omega
      · omega
      · rw [hao j f1 f2] at h2
        have := (B.cl j f1 f2).1
        omega
    · omega
    · rw [hao i e1 e2] at h1 h2
      have c1 := (B.cl i e1 e2).1
      rcases old j hj hjn with f | f | ⟨f1, f2⟩
      · subst f
        exact B.cov i j e1 e2 (by simp) hij h1
      · omega
      · rw [hao j f1 f2] at h2
        exact B.nc i j hij f1 e2 f2 h1 h2
  · have hjt := hlt j hj
    rcases old i hi hin with e | e | ⟨e1, e2⟩
    · omega
    · omega
    · rw [hao i e1 e2] at h2
      exact B.cov i j e1 e2 (by simp [hj]) h1 h2
theorem bld_arcs {n : Nat} {fd : List Nat} (B : Bld (2 * n) (2 * n) fd []) : ArcsL n fd :=
  ⟨B.len, fun k h => (B.cl k h (fun z => nomatch z)).1, fun k h => (B.cl k h (fun z => nomatch z)).2.2.1, fun k h => (B.cl k h (fun z => nomatch z)).2.2.2,
   fun j k a b c d => B.nc j k a b (fun z => nomatch z) (fun z => nomatch z) c d⟩
end Rm

set_option linter.all false
namespace Rm
/-! ## the word of arcs, by code points -/
def wcs (s : List Int) : List Nat := (List.range s.length).map fun k : Nat => if (k : Int) < g s k then 40 else 41
theorem wcs_len (s : List Int) : (wcs s).length = s.length := by simp [wcs]
theorem wcs_get {s : List Int} {k : Nat} (h : k < s.length) : (wcs s)[k]? = some (if (k : Int) < g s k then 40 else 41) := by
  unfold wcs
  rw [List.getElem?_map, List.getElem?_range h]
  rfl
theorem opens_end {s : List Int} (G : Good s) : opens s s.length = [] := by
  rw [List.eq_nil_iff_forall_not_mem]
  intro j hj
  rw [mem_opens] at hj
  have := (G.2.1 j hj.1).2.1
  omega
theorem g_set {s : List Int} {k j : Nat} {t : Int} (h : k < s.length) : g (s.set k t) j = if j = k then t else g s j := by
  unfold g
  rw [List.getD_eq_getElem?_getD, List.getD_eq_getElem?_getD, List.getElem?_set]
  by_cases e : k = j
  · subst e
    simp [h]
  · rw [if_neg e, if_neg (fun z => e z.symm)]
theorem ext_g {s t : List Int} (hl : s.length = t.length) (h : ∀ k : Nat, k < t.length → g s k = g t k) : s = t := by
  apply List.ext_getElem hl
  intro k h1 h2
  have := h k h2
  simpa [g, List.getD_eq_getElem?_getD, h1, h2] using this
/-- what has been read so far -/
def Rd (s : List Int) (i : Nat) (fd : List Int) : Prop := fd.length = s.length ∧ ∀ j : Nat, j < i → g s j < (i : Int) → g fd j = g s j
theorem rd0 (s : List Int) (fd : List Int) (h : fd.length = s.length) : Rd s 0 fd := ⟨h, fun j hj => absurd hj (Nat.not_lt_zero _)⟩
theorem rd_push {s : List Int} {i : Nat} {fd : List Int} (G : Good s) (hi : i < s.length) (h : (i : Int) < g s i) (R : Rd s i fd) : Rd s (i + 1) fd := by
  refine ⟨R.1, fun j hj hg => ?_⟩
  by_cases e : j = i
  · subst e; omega
  · refine R.2 j (by omega) ?_
    have hne : g s j ≠ (i : Int) := fun z => by
      have := okAt_inj (G.2.1 j (by omega)) z
      omega
    omega
theorem rd_pop {s : List Int} {i t : Nat} {fd : List Int} (G : Good s) (hi : i < s.length) (ht : (t : Int) = g s i) (hlt : g s i < (i : Int)) (R : Rd s i fd) : Rd s (i + 1) ((fd.set i (t : Int)).set t (i : Int)) := by
  have hl := R.1
  have hti : t < i := by omega
  refine ⟨by rw [List.length_set, List.length_set]; exact hl, fun j hj hg => ?_⟩
  rw [g_set (by rw [List.length_set]; omega), g_set (by omega)]
  by_cases e : j = t
  · subst e
    rw [if_pos rfl]
    exact (okAt_inj (G.2.1 i hi) ht.symm).symm
  · rw [if_neg e]
    by_cases e2 : j = i
    · subst e2
      rw [if_pos rfl, ht]
    · rw [if_neg e2]
      refine R.2 j (by omega) ?_
      have hne : g s j ≠ (i : Int) := fun z => by
        have := okAt_inj (G.2.1 j (by omega)) z
        omega
      omega
theorem rd_end {s fd : List Int} (G : Good s) (R : Rd s s.length fd) : fd = s := ext_g R.1 fun k hk => R.2 k hk (G.2.1 k hk).2.1
/-- a good list has an even number of places -/
theorem opens_par {s : List Int} (G : Good s) : ∀ k : Nat, k ≤ s.length → (opens s k).length % 2 = k % 2
  | 0, _ => rfl
  | k + 1, h => by
    have ih := opens_par G k (by omega)
    have st := good_stage G k (by omega)
    have ok := G.2.1 k (by omega)
    by_cases e : (k : Int) < g s k
    · rw [opens_push st e, List.length_append, List.length_singleton]
      omega
    · have e5 : g s k < (k : Int) := by have := ok.2.2.1; omega
      obtain ⟨l, t, eo, ht⟩ := good_top G (show k < s.length by omega) e5
      rw [opens_pop st ok e5 eo ht]
      rw [eo, List.length_append, List.length_singleton] at ih
      omega
theorem good_even {s : List Int} (G : Good s) : s.length % 2 = 0 := by
  have h := opens_par G s.length (Nat.le_refl _)
  rw [opens_end G] at h
  simp at h
  omega
end Rm

set_option linter.all false
namespace Rm
/-! ## lists by functions -/
def mkL (m : Nat) (f : Nat → Nat) : List Nat := (List.range m).map f
theorem mkL_len (m : Nat) (f : Nat → Nat) : (mkL m f).length = m := by simp [mkL]
theorem mkL_at {m : Nat} {f : Nat → Nat} {k : Nat} (h : k < m) : at' (mkL m f) k = f k := by
  simp [at', mkL, List.getD_eq_getElem?_getD, h]
theorem mkL_get {m : Nat} {f : Nat → Nat} {k : Nat} (h : k < m) : (mkL m f)[k]? = some (f k) := by simp [mkL, h]
theorem ext_at {a b : List Nat} (hl : a.length = b.length) (h : ∀ k, k < b.length → at' a k = at' b k) : a = b := by
  apply List.ext_getElem hl
  intro k h1 h2
  have := h k h2
  simpa [at', List.getD_eq_getElem?_getD, h1, h2] using this
theorem Arcs.congr {m : Nat} {f f' : Nat → Nat} (A : Arcs m f) (h : ∀ k, k < m → f' k = f k) : Arcs m f' where
  lt := fun k hk => by rw [h k hk]; exact A.lt k hk
  ne := fun k hk => by rw [h k hk]; exact A.ne k hk
  inv := fun k hk => by rw [h k hk, h _ (A.lt k hk)]; exact A.inv k hk
  nc := fun j k h1 h2 h3 h4 => by
    rw [h j (by omega)] at h3 h4
    rw [h k h2] at h4
    exact A.nc j k h1 h2 h3 h4
theorem mkL_arcs {n : Nat} {f : Nat → Nat} (A : Arcs (2 * n) f) : ArcsL n (mkL (2 * n) f) :=
  ⟨mkL_len _ _, A.congr fun k hk => mkL_at hk⟩
/-! ## turned -/
def phi (m b x : Nat) : Nat := if x < b then x + m - b else x - b
def psi (m b y : Nat) : Nat := if y + b < m then y + b else y + b - m
def rotF (m b : Nat) (f : Nat → Nat) (k : Nat) : Nat := psi m b (f (phi m b k))
theorem phi_lt {m b x : Nat} (hb : b < m) (h : x < m) : phi m b x < m := by unfold phi; split <;> omega
theorem psi_lt {m b x : Nat} (hb : b < m) (h : x < m) : psi m b x < m := by unfold psi; split <;> omega
theorem phi_psi {m b x : Nat} (hb : b < m) (h : x < m) : phi m b (psi m b x) = x := by unfold psi phi; split <;> split <;> omega
theorem psi_phi {m b x : Nat} (hb : b < m) (h : x < m) : psi m b (phi m b x) = x := by unfold phi psi; split <;> split <;> omega
theorem rot_arcs {m b : Nat} {f : Nat → Nat} (A : Arcs m f) (hb : b < m) : Arcs m (rotF m b f) := by
  have hp : ∀ k, k < m → phi m b (rotF m b f k) = f (phi m b k) := fun k hk => phi_psi hb (A.lt _ (phi_lt hb hk))
  refine ⟨fun k hk => psi_lt hb (A.lt _ (phi_lt hb hk)), fun k hk e => ?_, fun k hk => ?_, fun j k hjk hk h1 h2 => ?_⟩
  · have := hp k hk
    rw [e] at this
    exact A.ne _ (phi_lt hb hk) this.symm
  · show psi m b (f (phi m b (rotF m b f k))) = k
    rw [hp k hk, A.inv _ (phi_lt hb hk), psi_phi hb hk]
  · have hj : j < m := by omega
    have pj := hp j hj
    have pk := hp k hk
    have lj := phi_lt hb hj
    have lk := phi_lt hb hk
    have fj := A.lt _ lj
    have fk := A.lt _ lk
    have ij := A.inv _ lj
    have ik := A.inv _ lk
    have lfj : rotF m b f j < m := psi_lt hb (A.lt _ lj)
    have lfk : rotF m b f k < m := psi_lt hb (A.lt _ lk)
    have n1 := A.nc (phi m b j) (phi m b k)
    have n2 := A.nc (phi m b k) (f (phi m b j))
    have n3 := A.nc (f (phi m b j)) (f (phi m b k))
    have n4 := A.nc (f (phi m b k)) (phi m b j)
    rw [ij] at n2 n3
    rw [ik] at n3 n4
    rw [← pj, ← pk] at n1 n2 n3 n4
    rw [← pj] at fj
    rw [← pk] at fk
    generalize rotF m b f j = x at *
    generalize rotF m b f k = y at *
    unfold phi at *
    have : (x < b ∨ b ≤ x) ∧ (y < b ∨ b ≤ y) ∧ (j < b ∨ b ≤ j) ∧ (k < b ∨ b ≤ k) := by omega
    obtain ⟨c1, c2, c3, c4⟩ := this
    rcases c1 with c1 | c1 <;> rcases c2 with c2 | c2 <;> rcases c3 with c3 | c3 <;> rcases c4 with c4 | c4 <;>
      first
        | omega
        | (simp only [c1, c2, c3, c4, if_true, if_false, Nat.not_lt.mpr c1, Nat.not_lt.mpr c2, Nat.not_lt.mpr c3, Nat.not_lt.mpr c4] at n1 n2 n3 n4; first | exact n1 (by omega) (by omega) (by omega) (by omega) | exact n2 (by omega) (by omega) (by omega) (by omega) | exact n3 (by omega) (by omega) (by omega) (by omega) | exact n4 (by omega) (by omega) (by omega) (by omega))
/-! ## mirrored -/
def mirF (m : Nat) (f : Nat → Nat) (k : Nat) : Nat := m - 1 - f (m - 1 - k)
theorem mir_arcs {m : Nat} {f : Nat → Nat} (A : Arcs m f) : Arcs m (mirF m f) := by
  refine ⟨fun k hk => by unfold mirF; omega, fun k hk e => ?_, fun k hk => ?_, fun j k hjk hk h1 h2 => ?_⟩
  · have h1 := A.lt (m - 1 - k) (by omega)
    have h2 := A.ne (m - 1 - k) (by omega)
    unfold mirF at e
    omega
  · have h1 := A.lt (m - 1 - k) (by omega)
    have h3 := A.inv (m - 1 - k) (by omega)
    unfold mirF
    rw [show m - 1 - (m - 1 - f (m - 1 - k)) = f (m - 1 - k) by omega, h3]
    omega
  · have a1 := A.lt (m - 1 - j) (by omega)
    have a2 := A.lt (m - 1 - k) (by omega)
    have a3 := A.inv (m - 1 - j) (by omega)
    have a4 := A.inv (m - 1 - k) (by omega)
    unfold mirF at h1 h2
    refine A.nc (f (m - 1 - k)) (f (m - 1 - j)) (by omega) (by omega) (by omega) (by omega)
/-! ## side by side, covered -/
def sideF (m : Nat) (f f2 : Nat → Nat) (k : Nat) : Nat := if k < m then f k else m + f2 (k - m)
theorem side_arcs {m m2 : Nat} {f f2 : Nat → Nat} (A : Arcs m f) (B : Arcs m2 f2) : Arcs (m + m2) (sideF m f f2) := by
  refine ⟨fun k hk => ?_, fun k hk => ?_, fun k hk => ?_, fun j k hjk hk h1 h2 => ?_⟩
  · unfold sideF
    split
    · have := A.lt k (by omega); omega
    · have := B.lt (k - m) (by omega); omega
  · unfold sideF
    split
    · exact A.ne k (by omega)
    · have := B.ne (k - m) (by omega); omega
  · unfold sideF
    by_cases h : k < m
    · rw [if_pos h, if_pos (A.lt k h), A.inv k h]
    · rw [if_neg h, if_neg (by omega), show m + f2 (k - m) - m = f2 (k - m) by omega, B.inv (k - m) (by omega)]
      omega
  · unfold sideF at h1 h2
    by_cases hj : j < m
    · have a := A.lt j hj
      rw [if_pos hj] at h1 h2
      by_cases hk2 : k < m
      · rw [if_pos hk2] at h2
        exact A.nc j k hjk hk2 h1 h2
      · omega
    · rw [if_neg hj] at h1 h2
      rw [if_neg (by omega)] at h2
      exact B.nc (j - m) (k - m) (by omega) (by omega) (by omega) (by omega)
def overF (m : Nat) (f : Nat → Nat) (k : Nat) : Nat := if k = 0 then m + 1 else if k = m + 1 then 0 else f (k - 1) + 1
theorem over_arcs {m : Nat} {f : Nat → Nat} (A : Arcs m f) : Arcs (m + 2) (overF m f) := by
  have mid : ∀ k, k ≠ 0 → k < m + 1 → overF m f k = f (k - 1) + 1 := fun k h1 h2 => by
    unfold overF
    rw [if_neg h1, if_neg (by omega)]
  have z0 : overF m f 0 = m + 1 := rfl
  have z1 : overF m f (m + 1) = 0 := by unfold overF; rw [if_neg (by omega), if_pos rfl]
  have cs : ∀ k, k < m + 2 → k = 0 ∨ k = m + 1 ∨ (k ≠ 0 ∧ k < m + 1) := fun k h => by omega
  refine ⟨fun k hk => ?_, fun k hk => ?_, fun k hk => ?_, fun j k hjk hk h1 h2 => ?_⟩
  · rcases cs k hk with e | e | ⟨e1, e2⟩
    · subst e; rw [z0]; omega
    · subst e; rw [z1]; omega
    · rw [mid k e1 e2]; have := A.lt (k - 1) (by omega); omega
  · rcases cs k hk with e | e | ⟨e1, e2⟩
    · subst e; rw [z0]; omega
    · subst e; rw [z1]; omega
    · rw [mid k e1 e2]; have := A.ne (k - 1) (by omega); omega
  · rcases cs k hk with e | e | ⟨e1, e2⟩
    · subst e; rw [z0, z1]
    · subst e; rw [z1, z0]
    · have := A.lt (k - 1) (by omega)
      rw [mid k e1 e2, mid _ (by omega) (by omega), show f (k - 1) + 1 - 1 = f (k - 1) by omega, A.inv (k - 1) (by omega)]
      omega
  · have hk0 : k ≠ 0 := by omega
    by_cases hk1 : k = m + 1
    · subst hk1; rw [z1] at h2; omega
    · rw [mid k hk0 (by omega)] at h2
      by_cases hj : j = 0
      · subst hj; rw [z0] at h2; have := A.lt (k - 1) (by omega); omega
      · rw [mid j hj (by omega)] at h1 h2
        exact A.nc (j - 1) (k - 1) (by omega) (by omega) (by omega) (by omega)
/-! ## sums by the remainder -/
theorem mod_add {m : Nat} {by' : Int} {k : Nat} (hk : k < m) : ((k : Int) + by').fmod (m : Int) = ((psi m (by' % (m : Int)).toNat k : Nat) : Int) := by
  have hm : (0 : Int) < m := by omega
  rw [Int.fmod_eq_emod_of_nonneg _ (by omega)]
  have h0 := Int.emod_nonneg by' (show (m : Int) ≠ 0 by omega)
  have h1 := Int.emod_lt_of_pos by' hm
  have e : ((k : Int) + by') % (m : Int) = ((k : Int) + by' % (m : Int)) % (m : Int) := by rw [Int.add_emod, Int.add_emod (k : Int) (by' % (m : Int)), Int.emod_emod]
  rw [e]
  generalize hr : by' % (m : Int) = r at *
  unfold psi
  by_cases c : (k : Int) + r < m
  · rw [Int.emod_eq_of_lt (by omega) c, if_pos (by omega)]
    omega
  · rw [if_neg (by omega)]
    have : ((k : Int) + r) % (m : Int) = ((k : Int) + r - m) % (m : Int) := by
      rw [Int.sub_emod_right]
    rw [this, Int.emod_eq_of_lt (by omega) (by omega)]
    omega
theorem mod_sub {m : Nat} {by' : Int} {k : Nat} (hk : k < m) : ((k : Int) - by').fmod (m : Int) = ((phi m (by' % (m : Int)).toNat k : Nat) : Int) := by
  have hm : (0 : Int) < m := by omega
  rw [Int.fmod_eq_emod_of_nonneg _ (by omega)]
  have h0 := Int.emod_nonneg by' (show (m : Int) ≠ 0 by omega)
  have h1 := Int.emod_lt_of_pos by' hm
  have e : ((k : Int) - by') % (m : Int) = ((k : Int) - by' % (m : Int)) % (m : Int) := by rw [Int.sub_emod, Int.sub_emod (k : Int) (by' % (m : Int)), Int.emod_emod]
  rw [e]
  generalize hr : by' % (m : Int) = r at *
  unfold phi
  by_cases c : r ≤ (k : Int)
  · rw [Int.emod_eq_of_lt (by omega) (by omega), if_neg (by omega)]
    omega
  · rw [if_pos (by omega)]
    have : ((k : Int) - r) % (m : Int) = ((k : Int) - r + m) % (m : Int) := by
      rw [Int.add_emod_right]
    rw [this, Int.emod_eq_of_lt (by omega) (by omega)]
    omega
def rotB (m : Nat) (by' : Int) : Nat := (by' % (m : Int)).toNat
theorem rotB_lt {m : Nat} (by' : Int) (h : 0 < m) : rotB m by' < m := by
  have h0 := Int.emod_nonneg by' (show (m : Int) ≠ 0 by omega)
  have h1 := Int.emod_lt_of_pos by' (show (0 : Int) < m by omega)
  unfold rotB; omega
end Rm

set_option linter.all false
namespace Rm
/-! ## lists without a number twice -/
theorem nodup_len : ∀ (M : Nat) (l : List Nat), l.Nodup → (∀ x, x ∈ l → x < M) → l.length ≤ M
  | 0, l, _, h => by
    cases l with
    | nil => exact Nat.le_refl _
    | cons x r => exact absurd (h x (by simp)) (Nat.not_lt_zero _)
  | M + 1, l, hn, h => by
    by_cases c : M ∈ l
    · have h1 := nodup_len M (l.erase M) (hn.erase M) (fun x hx => by
        have h2 := (List.Nodup.mem_erase_iff hn).mp hx
        have h3 := h x h2.2
        have h4 := h2.1
        omega)
      rw [List.length_erase_of_mem c] at h1
      omega
    · have h1 := nodup_len M l hn (fun x hx => by
        have h3 := h x hx
        have : x ≠ M := fun e => c (e ▸ hx)
        omega)
      omega
theorem nodup_sub_len : ∀ {l k : List Nat}, l.Nodup → (∀ x, x ∈ l → x ∈ k) → l.length ≤ k.length
  | [], _, _, _ => Nat.zero_le _
  | x :: r, k, hn, h => by
    have h2 := List.nodup_cons.mp hn
    have hx := h x (by simp)
    have ih := nodup_sub_len (l := r) (k := k.erase x) h2.2 (fun y hy => (List.mem_erase_of_ne (show y ≠ x from fun e => h2.1 (by rw [← e]; exact hy))).mpr (h y (by simp [hy])))
    rw [List.length_erase_of_mem hx] at ih
    have : 0 < k.length := List.length_pos_of_mem hx
    rw [List.length_cons]
    omega
theorem nodup_full {M : Nat} {l : List Nat} (hn : l.Nodup) (h : ∀ x, x ∈ l → x < M) (hl : M ≤ l.length) {y : Nat} (hy : y < M) : y ∈ l := by
  by_cases c : y ∈ l
  · exact c
  · have h1 := nodup_len M (y :: l) (List.nodup_cons.mpr ⟨c, hn⟩) (fun x hx => by
      rcases List.mem_cons.mp hx with e | e
      · omega
      · exact h x e)
    rw [List.length_cons] at h1
    omega
theorem nodup_snoc2 {l : List Nat} {x y : Nat} (hn : l.Nodup) (hx : x ∉ l) (hy : y ∉ l) (hne : x ≠ y) : (l ++ [x, y]).Nodup := by
  rw [List.nodup_append]
  refine ⟨hn, by simp [hne], fun a ha b hb => ?_⟩
  simp at hb
  rcases hb with rfl | rfl
  · exact fun e => hx (e ▸ ha)
  · exact fun e => hy (e ▸ ha)
theorem eraseIdx_filter : ∀ (l : List Nat) (j k : Nat), l.Nodup → l[j]? = some k → l.eraseIdx j = l.filter (fun x => decide (x ≠ k))
  | [], j, k, _, h => by simp at h
  | x :: r, 0, k, hn, h => by
    have e : x = k := Option.some.inj h
    subst e
    have hx := (List.nodup_cons.mp hn).1
    rw [List.eraseIdx_cons_zero, List.filter_cons_of_neg (by simp)]
    exact (List.filter_eq_self.mpr fun a ha => decide_eq_true (show a ≠ x from fun e => hx (e ▸ ha))).symm
  | x :: r, j + 1, k, hn, h => by
    have h2 := List.nodup_cons.mp hn
    have ih := eraseIdx_filter r j k h2.2 h
    have hk : k ∈ r := List.mem_of_getElem? h
    have hne : x ≠ k := fun e => h2.1 (e ▸ hk)
    rw [List.eraseIdx_cons_succ, List.filter_cons_of_pos (by simp [hne]), ih]
/-! ## roads -/
/-- fixed-point-free turn on the places below M that leaves them below M -/
structure Inv2 (M : Nat) (a : Nat → Nat) : Prop where
  lt : ∀ k, k < M → a k < M
  ne : ∀ k, k < M → a k ≠ k
  inv : ∀ k, k < M → a (a k) = k
theorem Arcs.inv2 {M : Nat} {a : Nat → Nat} (A : Arcs M a) : Inv2 M a := ⟨A.lt, A.ne, A.inv⟩
def walk (a b : Nat → Nat) : Nat → List Nat → Nat → List Nat → List Nat
  | 0, _, _, road => road
  | f + 1, s, x, road => if x ∈ s ++ road then road else walk a b f s (b (a x)) (road ++ [x, a x])
def stepR (a b : Nat → Nat) (M : Nat) (s0 : List Nat) (F : List (List Nat)) (x : Nat) : List (List Nat) :=
  if x ∈ s0 ++ F.flatten then F else F ++ [walk a b M (s0 ++ F.flatten) x []]
def goR (a b : Nat → Nat) (M : Nat) (s0 : List Nat) (i : Nat) : List (List Nat) := (List.range i).foldl (stepR a b M s0) []
def roadsM (a b : Nat → Nat) (M : Nat) : List (List Nat) := goR a b M [] M
theorem goR_zero (a b : Nat → Nat) (M : Nat) (s0 : List Nat) : goR a b M s0 0 = [] := rfl
theorem goR_succ (a b : Nat → Nat) (M : Nat) (s0 : List Nat) (i : Nat) : goR a b M s0 (i + 1) = stepR a b M s0 (goR a b M s0 i) i := by
  unfold goR
  rw [List.range_succ, List.foldl_append]
  rfl
/-- what is seen: no place twice, all below M, with a place its arc's other end -/
structure Seen (a : Nat → Nat) (M : Nat) (l : List Nat) : Prop where
  nd : l.Nodup
  lt : ∀ x, x ∈ l → x < M
  cl : ∀ x, x ∈ l → a x ∈ l
theorem Seen.push {a : Nat → Nat} {M : Nat} {l : List Nat} (S : Seen a M l) (A : Inv2 M a) {x : Nat} (hx : x < M) (hn : x ∉ l) : a x ∉ l ∧ Seen a M (l ++ [x, a x]) := by
  have h2 : a x ∉ l := fun h => hn (by
    have := S.cl _ h
    rw [A.inv x hx] at this
    exact this)
  refine ⟨h2, nodup_snoc2 S.nd hn h2 (fun e => A.ne x hx e.symm), fun y hy => ?_, fun y hy => ?_⟩
  · rcases List.mem_append.mp hy with h | h
    · exact S.lt y h
    · simp at h
      rcases h with rfl | rfl
      · exact hx
      · exact A.lt x hx
  · rcases List.mem_append.mp hy with h | h
    · exact List.mem_append.mpr (.inl (S.cl y h))
    · simp at h
      rcases h with rfl | rfl
      · simp
      · rw [A.inv x hx]; simp
theorem walk_stop {a b : Nat → Nat} {f : Nat} {s road : List Nat} {x : Nat} (h : x ∈ s ++ road) : walk a b f s x road = road := by
  cases f with
  | zero => rfl
  | succ f => exact if_pos h
theorem walk_go {a b : Nat → Nat} {f : Nat} {s road : List Nat} {x : Nat} (h : x ∉ s ++ road) : walk a b (f + 1) s x road = walk a b f s (b (a x)) (road ++ [x, a x]) := if_neg h
/-- the fuel does not run out -/
theorem fuel_pos {a : Nat → Nat} {M f : Nat} {s road : List Nat} {x : Nat} (S : Seen a M (s ++ road)) (hx : x < M) (hn : x ∉ s ++ road) (hf : M ≤ f + (s ++ road).length) : ∃ f', f = f' + 1 := by
  cases f with
  | zero => exact absurd (nodup_full S.nd S.lt (by omega) hx) hn
  | succ f => exact ⟨f, rfl⟩
theorem walk_seen {a b : Nat → Nat} {M : Nat} (A : Inv2 M a) (hb : ∀ k, k < M → b k < M) : ∀ (f : Nat) (s road : List Nat) (x : Nat), Seen a M (s ++ road) → x < M → Seen a M (s ++ walk a b f s x road)
  | 0, _, _, _, S, _ => S
  | f + 1, s, road, x, S, hx => by
    by_cases h : x ∈ s ++ road
    · rw [walk_stop h]; exact S
    · rw [walk_go h]
      refine walk_seen A hb f s (road ++ [x, a x]) (b (a x)) ?_ (hb _ (A.lt x hx))
      rw [← List.append_assoc]
      exact (S.push A hx h).2
theorem walk_pre {a b : Nat → Nat} : ∀ (f : Nat) (s road : List Nat) (x : Nat), ∃ r, walk a b f s x road = road ++ r
  | 0, _, road, _ => ⟨[], (List.append_nil road).symm⟩
  | f + 1, s, road, x => by
    by_cases h : x ∈ s ++ road
    · rw [walk_stop h]; exact ⟨[], (List.append_nil road).symm⟩
    · rw [walk_go h]
      obtain ⟨r, e⟩ := walk_pre f s (road ++ [x, a x]) (b (a x))
      exact ⟨[x, a x] ++ r, by rw [e, List.append_assoc]⟩
theorem walk_first {a b : Nat → Nat} {M : Nat} {s : List Nat} {x : Nat} (hM : 0 < M) (h : x ∉ s) : ∃ r, walk a b M s x [] = x :: a x :: r := by
  obtain ⟨f, rfl⟩ : ∃ f, M = f + 1 := ⟨M - 1, by omega⟩
  rw [walk_go (by simpa using h)]
  obtain ⟨r, e⟩ := walk_pre f s ([] ++ [x, a x]) (b (a x))
  exact ⟨r, by rw [e]; rfl⟩
theorem flatten_snoc (F : List (List Nat)) (r : List Nat) : (F ++ [r]).flatten = F.flatten ++ r := by simp
theorem goR_seen {a b : Nat → Nat} {M : Nat} {s0 : List Nat} (A : Inv2 M a) (hb : ∀ k, k < M → b k < M) (S0 : Seen a M s0) : ∀ i, i ≤ M → Seen a M (s0 ++ (goR a b M s0 i).flatten)
  | 0, _ => by rw [goR_zero]; simpa using S0
  | i + 1, h => by
    have ih := goR_seen A hb S0 i (by omega)
    rw [goR_succ]
    unfold stepR
    split
    · exact ih
    · rw [flatten_snoc, ← List.append_assoc]
      exact walk_seen A hb M _ [] i (by rw [List.append_nil]; exact ih) (by omega)
theorem goR_mem {a b : Nat → Nat} {M : Nat} {s0 : List Nat} : ∀ i, i ≤ M → ∀ x, x < i → x ∈ s0 ++ (goR a b M s0 i).flatten
  | 0, _, x, hx => absurd hx (Nat.not_lt_zero _)
  | i + 1, h, x, hx => by
    have ih := goR_mem (a := a) (b := b) (M := M) (s0 := s0) i (by omega) x
    rw [goR_succ]
    unfold stepR
    split
    · rename_i hm
      by_cases e : x = i
      · rw [e]; exact hm
      · exact ih (by omega)
    · rename_i hm
      rw [flatten_snoc, ← List.append_assoc]
      by_cases e : x = i
      · subst e
        obtain ⟨r, er⟩ := walk_first (a := a) (b := b) (M := M) (show 0 < M by omega) hm
        rw [er]
        simp
      · exact List.mem_append.mpr (.inl (ih (by omega)))
/-- places that are seen are passed over -/
theorem goR_skip {a b : Nat → Nat} {M : Nat} {s0 : List Nat} {i : Nat} : ∀ j, i ≤ j → (∀ x, i ≤ x → x < j → x ∈ s0 ++ (goR a b M s0 i).flatten) → goR a b M s0 j = goR a b M s0 i
  | 0, h, _ => by
    have : i = 0 := by omega
    rw [this]
  | j + 1, h, hx => by
    by_cases e : i = j + 1
    · rw [e]
    · have ih := goR_skip (a := a) (b := b) (M := M) (s0 := s0) (i := i) j (by omega) (fun x h1 h2 => hx x h1 (by omega))
      rw [goR_succ, ih]
      unfold stepR
      rw [if_pos (hx j (by omega) (by omega))]
/-- what is left, in its order -/
def leftL (M : Nat) (s : List Nat) : List Nat := (List.range M).filter (fun x => decide (x ∉ s))
theorem mem_left {M : Nat} {s : List Nat} {x : Nat} : x ∈ leftL M s ↔ x < M ∧ x ∉ s := by simp [leftL]
theorem left_nodup (M : Nat) (s : List Nat) : (leftL M s).Nodup := List.Pairwise.filter _ List.nodup_range
theorem left_len (M : Nat) (s : List Nat) : (leftL M s).length ≤ M := by
  have h := List.length_filter_le (fun x : Nat => decide (x ∉ s)) (List.range M)
  rw [List.length_range] at h
  exact h
theorem left_drop {M : Nat} {s : List Nat} {x : Nat} : (leftL M s).filter (fun y => decide (y ≠ x)) = leftL M (s ++ [x]) := by
  unfold leftL
  rw [List.filter_filter]
  apply List.filter_congr
  intro y _
  simp [and_comm]
theorem left_head {M : Nat} {s : List Nat} {x : Nat} {r : List Nat} (h : leftL M s = x :: r) : x < M ∧ x ∉ s ∧ ∀ y, y < x → y ∈ s := by
  have h1 : x ∈ leftL M s := by rw [h]; simp
  rw [mem_left] at h1
  refine ⟨h1.1, h1.2, fun y hy => ?_⟩
  by_cases c : y ∈ s
  · exact c
  · have h2 : y ∈ leftL M s := mem_left.mpr ⟨by omega, c⟩
    have hs : (leftL M s).Pairwise (· < ·) := List.Pairwise.filter _ List.pairwise_lt_range
    rw [h] at h2 hs
    rcases List.mem_cons.mp h2 with e | e
    · omega
    · have := (List.pairwise_cons.mp hs).1 y e
      omega
theorem left_nil {M : Nat} {s : List Nat} (h : leftL M s = []) : ∀ y, y < M → y ∈ s := fun y hy => by
  by_cases c : y ∈ s
  · exact c
  · have h2 : y ∈ leftL M s := mem_left.mpr ⟨hy, c⟩
    rw [h] at h2
    cases h2
end Rm
namespace Rm
theorem goR_len {a b : Nat → Nat} {M : Nat} {s0 : List Nat} : ∀ i, i ≤ M → (goR a b M s0 i).length ≤ i
  | 0, _ => Nat.le_refl _
  | i + 1, h => by
    have ih := goR_len (a := a) (b := b) (M := M) (s0 := s0) i (by omega)
    rw [goR_succ]
    unfold stepR
    split
    · omega
    · rw [List.length_append, List.length_singleton]; omega
end Rm
namespace Rm
theorem left_lt {M : Nat} {s r : List Nat} {x : Nat} (hx : x < M) (hn : x ∉ s) (hr : x ∈ r) : (leftL M (s ++ r)).length < (leftL M s).length := by
  have hsub : ∀ y, y ∈ x :: leftL M (s ++ r) → y ∈ leftL M s := fun y hy => by
    rcases List.mem_cons.mp hy with e | e
    · rw [e]; exact mem_left.mpr ⟨hx, hn⟩
    · have h2 := mem_left.mp e
      exact mem_left.mpr ⟨h2.1, fun z => h2.2 (List.mem_append.mpr (.inl z))⟩
  have hnd : (x :: leftL M (s ++ r)).Nodup := List.nodup_cons.mpr ⟨fun h => (mem_left.mp h).2 (List.mem_append.mpr (.inr hr)), left_nodup _ _⟩
  have := nodup_sub_len hnd hsub
  rw [List.length_cons] at this
  omega
end Rm
namespace Rm
theorem roads_ne {a b : Nat → Nat} {M : Nat} (h : 0 < M) : roadsM a b M ≠ [] := fun e => by
  have := goR_mem (a := a) (b := b) (M := M) (s0 := []) M (Nat.le_refl _) 0 h
  unfold roadsM at e
  rw [e] at this
  simp at this
theorem road_len {a b : Nat → Nat} {M : Nat} (A : Inv2 M a) (hb : ∀ k, k < M → b k < M) {r : List Nat} (hr : r ∈ roadsM a b M) : r.length ≤ M := by
  have S := goR_seen (s0 := []) A hb ⟨.nil, by simp, by simp⟩ M (Nat.le_refl _)
  rw [List.nil_append] at S
  have h1 : ∀ x, x ∈ r → x < M := fun x hx => S.lt x (List.mem_flatten.mpr ⟨r, hr, hx⟩)
  have h2 : r.Nodup := (List.sublist_flatten_of_mem hr).nodup S.nd
  exact nodup_len M r h2 h1
end Rm

set_option linter.all false
namespace Rm
/-! ## how many ways there are to go on -/
def w : Nat → Nat → Nat
  | 0, d => if d = 0 then 1 else 0
  | l + 1, d => w l (d + 1) + (if 0 < d then w l (d - 1) else 0)
theorem w_zero : ∀ (l d : Nat), l < d → w l d = 0
  | 0, d, h => if_neg (by omega)
  | l + 1, d, h => by
    show w l (d + 1) + (if 0 < d then w l (d - 1) else 0) = 0
    rw [w_zero l (d + 1) (by omega), if_pos (by omega), w_zero l (d - 1) (by omega)]
def rowW (m l : Nat) : List Nat := (List.range m).map (w l)
theorem rowW_len (m l : Nat) : (rowW m l).length = m := by simp [rowW]
theorem rowW_at {m l d : Nat} (h : d < m) : at' (rowW m l) d = w l d := by simp [at', rowW, List.getD_eq_getElem?_getD, h]
def stepRow (r : List Nat) : List Nat := List.zipWith (· + ·) r.tail (0 :: r)
theorem stepRow_w (m l : Nat) : stepRow (rowW (m + 1) l) = rowW m (l + 1) := by
  apply List.ext_getElem
  · simp [stepRow, rowW]
    omega
  · intro i h1 h2
    simp [stepRow, rowW]
    show w l (i + 1) + _ = w l (i + 1) + _
    congr 1
    cases i with
    | zero => rfl
    | succ i => simp
def fastRow : Nat → Nat → List Nat
  | m, 0 => (List.range m).map fun d => if d = 0 then 1 else 0
  | m, l + 1 => stepRow (fastRow (m + 1) l)
theorem fastRow_w : ∀ (l m : Nat), fastRow m l = rowW m l
  | 0, m => rfl
  | l + 1, m => by
    show stepRow (fastRow (m + 1) l) = _
    rw [fastRow_w l (m + 1), stepRow_w]
/-- the sums of products -/
def catL : Nat → List Nat
  | 0 => [1]
  | k + 1 => catL k ++ [((List.range (k + 1)).map fun j => at' (catL k) j * at' (catL k) (k - j)).sum]
theorem catL_len : ∀ k, (catL k).length = k + 1
  | 0 => rfl
  | k + 1 => by
    show (catL k ++ [_]).length = _
    rw [List.length_append, catL_len k]
    rfl
def fastCat : Nat → List Nat
  | 0 => [1]
  | k + 1 => let c := fastCat k; c ++ [(List.zipWith (· * ·) c c.reverse).sum]
theorem fastCat_eq : ∀ k, fastCat k = catL k
  | 0 => rfl
  | k + 1 => by
    show fastCat k ++ [(List.zipWith (· * ·) (fastCat k) (fastCat k).reverse).sum] = _
    rw [fastCat_eq k]
    show _ = catL k ++ [((List.range (k + 1)).map fun j => at' (catL k) j * at' (catL k) (k - j)).sum]
    congr 3
    have hl := catL_len k
    apply List.ext_getElem
    · simp [hl]
    · intro i h1 h2
      simp [hl] at h1
      simp [at', List.getD_eq_getElem?_getD, hl, h1, show k - i < k + 1 by omega]
def checkCat (n : Nat) : Bool := (fastRow 1 (2 * n)).getD 0 0 == (fastCat n).getD n 0
theorem checkCat_all : (List.range 21).all checkCat = true := by decide +kernel
theorem w_cat {n : Nat} (h : n ≤ 20) : w (2 * n) 0 = at' (catL n) n := by
  have h1 := List.all_eq_true.mp checkCat_all n (List.mem_range.mpr (by omega))
  unfold checkCat at h1
  rw [fastRow_w, fastCat_eq] at h1
  have h2 := eq_of_beq h1
  have h3 := rowW_at (m := 1) (l := 2 * n) (d := 0) (by omega)
  unfold at' at h3 ⊢
  rw [← h3]
  exact h2
/-! ## words by their signs; numbers there and back -/
def okw : Nat → List Bool → Prop
  | d, [] => d = 0
  | d, true :: r => okw (d + 1) r
  | d, false :: r => 0 < d ∧ okw (d - 1) r
def unr : Nat → Nat → Nat → List Bool
  | 0, _, _ => []
  | l + 1, d, n => if n < w l (d + 1) then true :: unr l (d + 1) n else false :: unr l (d - 1) (n - w l (d + 1))
def rk : Nat → List Bool → Nat
  | _, [] => 0
  | d, true :: r => rk (d + 1) r
  | d, false :: r => w r.length (d + 1) + rk (d - 1) r
theorem unr_succ (l d n : Nat) : unr (l + 1) d n = if n < w l (d + 1) then true :: unr l (d + 1) n else false :: unr l (d - 1) (n - w l (d + 1)) := rfl
theorem unr_len : ∀ (l d n : Nat), (unr l d n).length = l
  | 0, _, _ => rfl
  | l + 1, d, n => by
    unfold unr
    split
    · rw [List.length_cons, unr_len l]
    · rw [List.length_cons, unr_len l]
theorem w_succ (l d : Nat) : w (l + 1) d = w l (d + 1) + (if 0 < d then w l (d - 1) else 0) := rfl
theorem unr_ok : ∀ (l d n : Nat), n < w l d → okw d (unr l d n) ∧ rk d (unr l d n) = n
  | 0, d, n, h => by
    by_cases e : d = 0
    · subst e
      have : n = 0 := by
        have h2 : w 0 0 = 1 := rfl
        omega
      exact ⟨rfl, this.symm⟩
    · have h2 : w 0 d = 0 := if_neg e
      omega
  | l + 1, d, n, h => by
    rw [w_succ] at h
    unfold unr
    by_cases c : n < w l (d + 1)
    · rw [if_pos c]
      exact unr_ok l (d + 1) n c
    · rw [if_neg c]
      by_cases hd : 0 < d
      · rw [if_pos hd] at h
        have ih := unr_ok l (d - 1) (n - w l (d + 1)) (by omega)
        refine ⟨⟨hd, ih.1⟩, ?_⟩
        show w (unr l (d - 1) (n - w l (d + 1))).length (d + 1) + rk (d - 1) (unr l (d - 1) (n - w l (d + 1))) = n
        rw [unr_len, ih.2]
        omega
      · rw [if_neg hd] at h
        omega
theorem rk_ok : ∀ (cs : List Bool) (d : Nat), okw d cs → rk d cs < w cs.length d ∧ unr cs.length d (rk d cs) = cs
  | [], d, h => by
    have : d = 0 := h
    subst this
    exact ⟨Nat.zero_lt_one, rfl⟩
  | true :: r, d, h => by
    have ih := rk_ok r (d + 1) h
    have e : rk d (true :: r) = rk (d + 1) r := rfl
    rw [e, List.length_cons]
    refine ⟨by rw [w_succ]; omega, ?_⟩
    unfold unr
    rw [if_pos ih.1, ih.2]
  | false :: r, d, h => by
    have ih := rk_ok r (d - 1) h.2
    have e : rk d (false :: r) = w r.length (d + 1) + rk (d - 1) r := rfl
    rw [e, List.length_cons]
    refine ⟨by rw [w_succ, if_pos h.1]; omega, ?_⟩
    unfold unr
    rw [if_neg (by omega), show w r.length (d + 1) + rk (d - 1) r - w r.length (d + 1) = rk (d - 1) r by omega, ih.2]
def enc (cs : List Bool) : List Nat := cs.map fun b => if b then 40 else 41
theorem unr_lt : ∀ (l d n n' : Nat), n < n' → n' < w l d → enc (unr l d n) < enc (unr l d n')
  | 0, d, n, n', h, h' => by
    have h2 : w 0 d ≤ 1 := by
      show (if d = 0 then 1 else 0) ≤ 1
      split <;> omega
    omega
  | l + 1, d, n, n', h, h' => by
    rw [w_succ] at h'
    unfold unr
    by_cases c : n < w l (d + 1)
    · rw [if_pos c]
      by_cases c' : n' < w l (d + 1)
      · rw [if_pos c']
        show (40 : Nat) :: enc (unr l (d + 1) n) < 40 :: enc (unr l (d + 1) n')
        exact List.cons_lt_cons_iff.mpr (.inr ⟨rfl, unr_lt l (d + 1) n n' h c'⟩)
      · rw [if_neg c']
        show (40 : Nat) :: enc (unr l (d + 1) n) < 41 :: enc (unr l (d - 1) (n' - w l (d + 1)))
        exact List.cons_lt_cons_iff.mpr (.inl (by decide))
    · rw [if_neg c, if_neg (by omega)]
      show (41 : Nat) :: enc (unr l (d - 1) (n - w l (d + 1))) < 41 :: enc (unr l (d - 1) (n' - w l (d + 1)))
      have hd : 0 < d := by
        by_cases q : 0 < d
        · exact q
        · rw [if_neg q] at h'; omega
      rw [if_pos hd] at h'
      exact List.cons_lt_cons_iff.mpr (.inr ⟨rfl, unr_lt l (d - 1) _ _ (by omega) (by omega)⟩)
/-! ## words and arcs -/
def bits (m : Nat) (f : Nat → Nat) : List Bool := (List.range m).map fun k => decide (k < f k)
theorem bits_len (m : Nat) (f : Nat → Nat) : (bits m f).length = m := by simp [bits]
theorem bits_get {m : Nat} {f : Nat → Nat} {k : Nat} (h : k < m) : (bits m f)[k]? = some (decide (k < f k)) := by simp [bits, h]
theorem enc_bits {n : Nat} {fd : List Nat} (A : ArcsL n fd) : enc (bits (2 * n) (at' fd)) = wcs (zs fd) := by
  unfold enc bits wcs
  rw [List.map_map, len_zs, A.len]
  apply List.map_congr_left
  intro k _
  show (if decide (k < at' fd k) = true then 40 else 41) = _
  rw [g_zs]
  by_cases c : k < at' fd k
  · rw [if_pos (decide_eq_true c), if_pos (by omega)]
  · rw [if_neg (fun z => c (of_decide_eq_true z)), if_neg (by omega)]
theorem enc_inj : ∀ {a b : List Bool}, enc a = enc b → a = b
  | [], [], _ => rfl
  | [], _ :: _, h => by cases h
  | _ :: _, [], h => by cases h
  | x :: a, y :: b, h => by
    have h1 : (if x then 40 else 41 : Nat) = (if y then 40 else 41) := (List.cons.inj h).1
    have h2 := enc_inj (a := a) (b := b) (List.cons.inj h).2
    rw [h2]
    congr 1
    cases x <;> cases y <;> first | rfl | (exact absurd h1 (by decide))
/-- from a place on -/
theorem okw_from {s : List Int} (G : Good s) : ∀ (j k : Nat), k + j = s.length → okw (opens s k).length ((bits s.length (fun i => (g s i).toNat)).drop k)
  | 0, k, h => by
    have : k = s.length := by omega
    subst this
    rw [opens_end G, List.drop_of_length_le (by rw [bits_len]; exact Nat.le_refl _)]
    rfl
  | j + 1, k, h => by
    have ih := okw_from G j (k + 1) (by omega)
    have hk : k < s.length := by omega
    have st := good_stage G k (by omega)
    have ok := G.2.1 k hk
    have hc : (bits s.length (fun i => (g s i).toNat)).drop k = decide (k < (g s k).toNat) :: (bits s.length (fun i => (g s i).toNat)).drop (k + 1) := by
      rw [List.drop_eq_getElem_cons (by rw [bits_len]; exact hk)]
      congr 1
      simp [bits]
    rw [hc]
    by_cases e : (k : Int) < g s k
    · rw [decide_eq_true (by omega)]
      show okw ((opens s k).length + 1) _
      rw [opens_push st e, List.length_append, List.length_singleton] at ih
      exact ih
    · rw [decide_eq_false (by omega)]
      have e5 : g s k < (k : Int) := by have := ok.2.2.1; omega
      obtain ⟨l, t, eo, ht⟩ := good_top G hk e5
      rw [opens_pop st ok e5 eo ht] at ih
      rw [eo]
      refine ⟨by simp, ?_⟩
      rw [List.length_append, List.length_singleton, Nat.add_sub_cancel]
      exact ih
theorem arcs_okw {n : Nat} {fd : List Nat} (A : ArcsL n fd) (h1 : 1 ≤ n) (h2 : n ≤ 20) : okw 0 (bits (2 * n) (at' fd)) := by
  have G := arcs_good A h1 h2
  have h := okw_from G (2 * n) 0 (by rw [len_zs, A.len]; omega)
  rw [opens0, List.drop_zero, len_zs, A.len] at h
  have e : (fun i => (g (zs fd) i).toNat) = at' fd := by
    funext i
    rw [g_zs, Int.toNat_natCast]
  rw [e] at h
  exact h
theorem bld_all {m : Nat} : ∀ (cs : List Bool) (k : Nat) (fd st : List Nat), Bld m k fd st → okw st.length cs → k + cs.length = m →
    ∃ fd', Bld m m fd' [] ∧ (∀ j, j < k → (j < at' fd' j ↔ (j ∈ st ∨ j < at' fd j))) ∧ ∀ i, ∀ hi : i < cs.length, (k + i < at' fd' (k + i) ↔ cs[i] = true)
  | [], k, fd, st, B, h, hk => by
    have e0 : st = [] := List.length_eq_zero_iff.mp h
    subst e0
    have : k = m := by simpa using hk
    subst this
    exact ⟨fd, B, fun j _ => by simp, fun i hi => absurd hi (Nat.not_lt_zero _)⟩
  | true :: r, k, fd, st, B, h, hk => by
    rw [List.length_cons] at hk
    obtain ⟨fd', B', h1, h2⟩ := bld_all r (k + 1) fd (st ++ [k]) (bld_push B (by omega)) (by rw [List.length_append]; exact h) (by omega)
    refine ⟨fd', B', fun j hj => ?_, fun i hi => ?_⟩
    · rw [h1 j (by omega)]
      simp [show j ≠ k by omega]
    · cases i with
      | zero =>
        have := (h1 k (by omega)).mpr (.inl (by simp))
        simpa using this
      | succ i =>
        have := h2 i (by simpa using hi)
        rw [show k + (i + 1) = k + 1 + i by omega]
        simpa using this
  | false :: r, k, fd, st, B, h, hk => by
    rw [List.length_cons] at hk
    obtain ⟨l, t, rfl⟩ : ∃ l t, st = l ++ [t] := by
      rcases List.eq_nil_or_concat st with e | ⟨l, t, e⟩
      · have := h.1
        rw [e] at this
        exact absurd this (Nat.lt_irrefl 0)
      · exact ⟨l, t, by rw [e, List.concat_eq_append]⟩
    have htk : t < k := B.slt t (by simp)
    have hl := B.len
    obtain ⟨fd', B', h1, h2⟩ := bld_all r (k + 1) ((fd.set k t).set t k) l (bld_pop B (by omega)) (by have := h.2; rw [List.length_append, List.length_singleton, Nat.add_sub_cancel] at this; exact this) (by omega)
    have ha : ∀ j, at' ((fd.set k t).set t k) j = if j = t then k else if j = k then t else at' fd j := fun j => by
      rw [at_set (by rw [List.length_set]; omega), at_set (by omega)]
    refine ⟨fd', B', fun j hj => ?_, fun i hi => ?_⟩
    · rw [h1 j (by omega), ha]
      by_cases e : j = t
      · subst e
        rw [if_pos rfl]
        simp [htk]
      · rw [if_neg e, if_neg (by omega)]
        simp [e]
    · cases i with
      | zero =>
        have h3 := h1 k (by omega)
        rw [ha, if_neg (by omega), if_pos rfl] at h3
        have h4 : ¬ k < at' fd' k := fun z => by
          rcases h3.mp z with q | q
          · have := B.slt k (by simp [q]); omega
          · omega
        simpa using h4
      | succ i =>
        have := h2 i (by simpa using hi)
        rw [show k + (i + 1) = k + 1 + i by omega]
        simpa using this
/-- each word of as many signs of both kinds has its arcs -/
theorem arcs_of_word {n : Nat} {cs : List Bool} (h : okw 0 cs) (hl : cs.length = 2 * n) : ∃ fd, ArcsL n fd ∧ bits (2 * n) (at' fd) = cs := by
  obtain ⟨fd, B, _, h2⟩ := bld_all (m := 2 * n) cs 0 (List.replicate (2 * n) 0) [] (bld0 _ _ List.length_replicate) h (by omega)
  refine ⟨fd, bld_arcs B, ?_⟩
  apply List.ext_getElem
  · rw [bits_len, hl]
  · intro i h3 h4
    have := h2 i h4
    simp at this
    simp [bits]
    by_cases c : cs[i] = true
    · rw [c]; simpa using this.mpr c
    · have c2 : cs[i] = false := by simpa using c
      rw [c2]
      simpa using fun z => c (this.mp z)
end Rm
namespace Rm
theorem cat_small {n j : Nat} (h : n ≤ 20) : at' (catL n) j < 2 ^ 40 := by
  have hc : (List.range 21).all (fun k => (fastCat k).all (fun x => decide (x < 2 ^ 40))) = true := by decide +kernel
  have h1 := List.all_eq_true.mp hc n (List.mem_range.mpr (by omega))
  rw [fastCat_eq] at h1
  unfold at'
  rw [List.getD_eq_getElem?_getD]
  cases e : (catL n)[j]? with
  | none => exact Nat.two_pow_pos 40
  | some x => exact of_decide_eq_true (List.all_eq_true.mp h1 x (List.mem_of_getElem? e))
theorem catL_succ (k : Nat) : catL (k + 1) = catL k ++ [((List.range (k + 1)).map fun j => at' (catL k) j * at' (catL k) (k - j)).sum] := rfl
end Rm

set_option linter.all false
namespace Rm
/-! ## a text gone through, whatever it is -/
def rst (cs : List Nat) (m : Nat) : Nat → Option (List Nat × List Nat)
  | 0 => some (List.replicate m 0, [])
  | i + 1 => match rst cs m i with
    | none => none
    | some (f, p) => if cs.getD i 0 = 40 then some (f, p ++ [i]) else if cs.getD i 0 = 41 ∧ p ≠ [] then some ((f.set i (p.getLastD 0)).set (p.getLastD 0) i, p.dropLast) else none
theorem rst_none {cs : List Nat} {m i : Nat} (h : rst cs m i = none) : ∀ j, rst cs m (i + j) = none
  | 0 => h
  | j + 1 => by
    show rst cs m (i + j + 1) = none
    unfold rst
    rw [rst_none h j]
theorem rst_ok {cs : List Nat} {m : Nat} : ∀ {i : Nat} {f p : List Nat}, rst cs m i = some (f, p) → f.length = m ∧ ∀ x, x ∈ p → x < i
  | 0, f, p, h => by
    cases h
    exact ⟨List.length_replicate, fun x hx => absurd hx List.not_mem_nil⟩
  | i + 1, f, p, h => by
    unfold rst at h
    cases e : rst cs m i with
    | none => rw [e] at h; cases h
    | some fp =>
      obtain ⟨f0, p0⟩ := fp
      rw [e] at h
      dsimp only at h
      obtain ⟨h1, h2⟩ := rst_ok e
      by_cases c1 : cs.getD i 0 = 40
      · rw [if_pos c1] at h
        cases h
        refine ⟨h1, fun x hx => ?_⟩
        rcases List.mem_append.mp hx with q | q
        · have := h2 x q; omega
        · rw [List.mem_singleton] at q; omega
      · rw [if_neg c1] at h
        by_cases c2 : cs.getD i 0 = 41 ∧ p0 ≠ []
        · rw [if_pos c2] at h
          cases h
          refine ⟨by rw [List.length_set, List.length_set, h1], fun x hx => ?_⟩
          have := h2 x ((List.dropLast_sublist p0).subset hx)
          omega
        · rw [if_neg c2] at h
          cases h
theorem rst_len {cs : List Nat} {m : Nat} : ∀ {i : Nat} {f p : List Nat}, rst cs m i = some (f, p) → p.length ≤ i
  | 0, f, p, h => by cases h; exact Nat.le_refl _
  | i + 1, f, p, h => by
    unfold rst at h
    cases e : rst cs m i with
    | none => rw [e] at h; cases h
    | some fp =>
      obtain ⟨f0, p0⟩ := fp
      rw [e] at h
      dsimp only at h
      have h2 := rst_len e
      by_cases c1 : cs.getD i 0 = 40
      · rw [if_pos c1] at h
        cases h
        rw [List.length_append, List.length_singleton]
        omega
      · rw [if_neg c1] at h
        by_cases c2 : cs.getD i 0 = 41 ∧ p0 ≠ []
        · rw [if_pos c2] at h
          cases h
          rw [List.length_dropLast]
          omega
        · rw [if_neg c2] at h
          cases h
/-- what is read of a text -/
def rdt (cs : List Nat) : Option (List Nat) := match rst cs cs.length cs.length with
  | none => none
  | some (f, p) => if p = [] ∧ 2 ≤ cs.length ∧ cs.length ≤ 40 then some f else none
theorem rdt_none {cs : List Nat} {i : Nat} (hi : i ≤ cs.length) (h : rst cs cs.length i = none) : rdt cs = none := by
  have := rst_none h (cs.length - i)
  rw [show i + (cs.length - i) = cs.length by omega] at this
  unfold rdt
  rw [this]
theorem rdt_len {cs f : List Nat} (h : rdt cs = some f) : f.length = cs.length ∧ cs.length ≤ 40 := by
  unfold rdt at h
  cases e : rst cs cs.length cs.length with
  | none => rw [e] at h; cases h
  | some fp =>
    obtain ⟨f0, p0⟩ := fp
    rw [e] at h
    dsimp only at h
    by_cases c : p0 = [] ∧ 2 ≤ cs.length ∧ cs.length ≤ 40
    · rw [if_pos c] at h
      cases h
      exact ⟨(rst_ok e).1, c.2.2⟩
    · rw [if_neg c] at h; cases h
end Rm

namespace Rv
open PySem PySem.Spec PyProof.Rows L2
open Rm (zs at')
def topS (i : Nat) : Stmt := PySem.Challenge.pw_riverloops_k14_each_refusal_its_own.main.body.getD i (.Pass ⟨0, 0, 0, 0⟩)
structure Blt (mg : Str → Option Value) : Prop where
  len_ : mg "len" = none
  range_ : mg "range" = none
  isinstance_ : mg "isinstance" = none
  int_ : mg "int" = none
  bool_ : mg "bool" = none
  list_ : mg "list" = none
  str_ : mg "str" = none
  reversed_ : mg "reversed" = none
  min_ : mg "min" = none
  max_ : mg "max" = none
  abs_ : mg "abs" = none
  sum_ : mg "sum" = none
  set_ : mg "set" = none
  tuple_ : mg "tuple" = none
  ValueError_ : mg "ValueError" = none
/-! ### common words of the walks -/
theorem hu64 {A : Around} {k : Nat} (hr : Room k A) : A.units + 64 < cLine := hr.units
/-- a def of the text: where it stands, what name it has -/
structure Dfn (K : PySem.W.Frag) (mg : Str → Option Value) (x : Str) (st : Stmt) (ps : List Str) : Prop where
  ex : ∃ (f : Addr) (fd : FuncData), Fun K x x st f fd ∧ mg x = some (.ref f) ∧ Binds K fd ps []
/-- a def that may be called by its name, and what it is worth; nothing leaves it -/
structure Cal (P : Program) (w : World) (K : PySem.W.Frag) (mg : Str → Option Value) (base : Heap) (k : Nat) (x : Str) (sp : Sp) : Prop where
  ex : ∃ (f : Addr) (fd : FuncData) (ps : List Str), FnOk P w K mg base CX0 k f fd ps sp ∧ mg x = some (.ref f) ∧ PySem.W.keepIn K (.ref f) = true ∧ Binds K fd ps []
theorem pe_c {X : Cx} {x : Str} {p pos : Pos} {e : Expr} {es : List Expr} {t : TA} {sp : Sp} {j k : Nat} (c : Cal X.prog X.w X.K X.mg X.base k x sp) (hr : Room j X.A) (hk : k ≤ j) (hg : Gl X x) (ha : PA X (e :: es) t)
    (hdb : (x == ("__debug__" : Str)) = false := by decide) (he : starEach (e :: es) X.env = (false, eval e X.env) :: starEach es X.env := by rfl) (hpl : (backTo pos (starEach es X.env)).any (·.1) = false := by rfl) :
    PE X (.Call (.Name x p) (e :: es) [] pos) (tCall sp [] E0 t) := by
  obtain ⟨f, fd, ps, F, hm, kp, b⟩ := c.ex
  exact pe_call F (hr.mono hk) hg hm kp b .nil pass0 ha hdb he hpl
section
variable {P : Program} {w : World} {K : PySem.W.Frag} {mg : Str → Option Value} {base : Heap}
theorem Dfn.cal {x : Str} {st : Stmt} {N ps : List Str} {k : Nat} {sp : Sp} (D : Dfn K mg x st ps) (S : FnScope N ps (defScope st)) (len : ∀ vs H Q E, sp vs H Q E → vs.length = ps.length)
    (hbody : ∀ (f : Addr) (cdv : Value) (A : Around) (outer : List Env) (s : Shared) (H : Hp) (vs : List V) (Q : VK) (E : XK), Room k (A.deeper (envOfC x (defScope st) s.heap.objs.size f cdv)) → sp vs H Q E →
      ∃ t, PSs (cxOf CX0 P w K mg base N x (defScope st) f cdv A outer s H E).nox (defBody st) t ∧ t { nx := fun _ H' => Q .non H', rt := Q } (start N vs) H) : Cal P w K mg base (k + 1) x sp := by
  obtain ⟨f, fd, F, hm, b⟩ := D.ex
  exact ⟨f, fd, ps, F.ok S len (fun cdv A outer s H vs Q E hr h => hbody f cdv A outer s H vs Q E hr h), hm, F.kp, b⟩
theorem cal_imp {x : Str} {k : Nat} {sp sp' : Sp} (c : Cal P w K mg base k x sp) (h : ∀ vs H Q E, sp' vs H Q E → sp vs H Q E) : Cal P w K mg base k x sp' := by
  obtain ⟨f, fd, ps, F, a, b, d⟩ := c.ex
  exact ⟨f, fd, ps, F.imp h, a, b, d⟩
theorem cal_mono {x : Str} {j k : Nat} {sp : Sp} (c : Cal P w K mg base j x sp) (h : j ≤ k) : Cal P w K mg base k x sp := by
  obtain ⟨f, fd, ps, F, a, b, d⟩ := c.ex
  exact ⟨f, fd, ps, F.mono h, a, b, d⟩
end
/-! heaps -/
theorem same_new {H : Hp} {p : Addr} {o : HO} (h : H p = none) : Same H (upd H p o) := fun b x e => by
  rw [upd_ne (ne_of_none e h)]
  exact e
/-- a store to an object that H did not hold -/
theorem same_upd {H H' : Hp} {p : Addr} {o : HO} (sm : Same H H') (h : H p = none) : Same H (upd H' p o) := fun b x e => by
  rw [upd_ne (ne_of_none e h)]
  exact sm b x e
theorem sqL {K : PySem.W.Frag} {H : Hp} {p : Addr} {xs : List V} (h : H p = some (.lst xs)) : SqL K H p xs := .inl (.inl h)
theorem sqT {K : PySem.W.Frag} {H : Hp} {p : Addr} {xs : List V} (h : H p = some (.tup xs)) : SqT K H p xs := .inl (.inl h)
theorem small63 {n : Nat} (h : n ≤ 100000) : n < sizeLine := Nat.lt_of_le_of_lt h (by decide)
theorem small63' {n : Nat} (h : n ≤ 100000) : n ≤ sizeLine := Nat.le_of_lt (small63 h)
/-! lists -/
abbrev vi (s : List Int) : List V := s.map V.int
abbrev vn (a : List Nat) : List V := vi (zs a)
theorem vi_get {s : List Int} {k : Nat} (h : k < s.length) : (vi s)[k]? = some (.int (Rm.g s k)) := by
  rw [List.getElem?_map, List.getElem?_eq_getElem h]
  simp [Rm.g, List.getD_eq_getElem?_getD, h]
theorem vi_at {s : List Int} {k : Nat} {z : Int} (h : k < s.length) (e : z = (k : Int)) : atI (vi s) z = some (.int (Rm.g s k)) := at_of e (vi_get h)
theorem vi_append (s t : List Int) : vi s ++ vi t = vi (s ++ t) := (List.map_append).symm
theorem zs_append (s t : List Nat) : zs s ++ zs t = zs (s ++ t) := (List.map_append).symm
theorem vn_push (s : List Nat) (k : Nat) : vn s ++ [V.int (k : Int)] = vn (s ++ [k]) := by simp [vn, vi, zs]
theorem vn_last (s : List Nat) (k : Nat) : (vn (s ++ [k]))[(vn (s ++ [k])).length - 1]? = some (.int (k : Int)) := by simp [vn, vi, zs]
theorem vn_drop (s : List Nat) (k : Nat) : (vn (s ++ [k])).dropLast = vn s := by simp [vn, vi, zs]
theorem vn_len (s : List Nat) : (vn s).length = s.length := by simp [vn, vi, zs]
/-! tests that are decided -/
theorem dn {p : Prop} [Decidable p] (h : ¬ decide p = true) : ¬ p := fun z => h (decide_eq_true z)
theorem nd {p : Prop} [Decidable p] (h : ¬ (!decide p) = true) : p := by
  by_cases q : p
  · exact q
  · rw [decide_eq_false q] at h; exact absurd rfl h
theorem nt {p : Prop} [Decidable p] (h : (!decide p) = true) : ¬ p := fun z => by
  rw [decide_eq_true z] at h; exact nomatch h
theorem ixN_nat {n k : Nat} (h : k < n) : ixN n (k : Int) = some k := by
  unfold ixN
  rw [if_pos (by omega), if_pos (by omega), Int.toNat_natCast]
theorem ixN_of {n k : Nat} {z : Int} (e : z = (k : Int)) (h : k < n) : ixN n z = some k := by rw [e]; exact ixN_nat h
theorem vn_set (s : List Nat) (k t : Nat) : (vn s).set k (V.int (t : Int)) = vn (s.set k t) := by simp [vn, vi, zs, List.map_set]
theorem vi_set (s : List Int) (k : Nat) (t : Int) : (vi s).set k (V.int t) = vi (s.set k t) := by simp [vi, List.map_set]
theorem rep1 {α : Type} (x : α) : ∀ n : Nat, (List.replicate n [x]).flatten = List.replicate n x
  | 0 => rfl
  | n + 1 => by rw [List.replicate_succ, List.flatten_cons, rep1 x n, List.replicate_succ]; rfl
theorem vn_rep (n : Nat) : List.replicate n (V.int 0) = vn (List.replicate n 0) := by simp [vn, vi, zs]
theorem zs_g (a : List Nat) (k : Nat) : Rm.g (zs a) k = ((at' a k : Nat) : Int) := by
  simp only [Rm.g, at', zs, List.getD_eq_getElem?_getD, List.getElem?_map]
  cases a[k]? <;> simp
theorem vn_at {a : List Nat} {k : Nat} {z : Int} (h : k < a.length) (e : z = (k : Int)) : atI (vn a) z = some (.int ((at' a k : Nat) : Int)) := by
  have := vi_at (s := zs a) (by simpa using h) e
  rw [zs_g] at this
  exact this
theorem vn_get {a : List Nat} {k : Nat} (h : k < a.length) : (vn a)[k]? = some (.int ((at' a k : Nat) : Int)) := by
  have := vi_get (s := zs a) (k := k) (by simpa using h)
  rw [zs_g] at this
  exact this
/-! texts by their signs -/
def tx (cs : List Nat) : Str := ⟨cs.toArray⟩
theorem tx_len (cs : List Nat) : (tx cs).length = cs.length := by simp [tx, Str.length]
theorem tx_lp : (("(" : String) : Str) = tx [40] := by decide +kernel
theorem tx_rp : ((")" : String) : Str) = tx [41] := by decide +kernel
theorem tx_nil : (("" : String) : Str) = tx [] := by decide +kernel
theorem tx_app (a b : List Nat) : tx a ++ tx b = tx (a ++ b) := by
  show Str.append (tx a) (tx b) = _
  simp [tx, Str.append]
theorem tx_inj {a b : List Nat} (h : tx a = tx b) : a = b := by
  have := congrArg (fun s : Str => s.cps.toList) h
  simpa [tx] using this
theorem tx_join : ∀ l : List Nat, Str.join (tx []) (l.map fun c => tx [c]) = tx l
  | [] => rfl
  | [c] => rfl
  | c :: d :: r => by
    have h := tx_join (d :: r)
    show tx [c] ++ tx [] ++ Str.join (tx []) ((d :: r).map fun c => tx [c]) = _
    rw [h, tx_app, tx_app]
    rfl
theorem tx_get {cs : List Nat} {k c : Nat} (h : cs[k]? = some c) : (tx cs).cps[k]? = some c := by simpa [tx] using h
/-! lists of ints as data -/
theorem dp_vi {K : PySem.W.Frag} {H : Hp} : ∀ s : List Int, DpAll K H (vi s) (s.map PyData.int)
  | [] => .nil
  | x :: r => .cons (.int x) (dp_vi r)
theorem rEq_ints {K : PySem.W.Frag} {H : Hp} {a b : Addr} {s t : List Int} {Q : VK} (ha : SqL K H a (vi s)) (hb : SqL K H b (vi t)) (q : Q (.bl (decide (s = t))) H) : rEqD K (.ref a) (.ref b) H Q := by
  refine ⟨_, _, .lst ha (dp_vi s), .lst hb (dp_vi t), PySem.W.ke_shaped_ints s, PySem.W.ke_shaped_ints t, ?_⟩
  rw [PyData.eqv, PySem.W.ked_eqvAll]
  exact q
theorem rNe_ints {K : PySem.W.Frag} {H : Hp} {a b : Addr} {s t : List Int} {Q : VK} (ha : SqL K H a (vi s)) (hb : SqL K H b (vi t)) (q : Q (.bl (!decide (s = t))) H) : rNeD K (.ref a) (.ref b) H Q := by
  refine ⟨_, _, .lst ha (dp_vi s), .lst hb (dp_vi t), PySem.W.ke_shaped_ints s, PySem.W.ke_shaped_ints t, ?_⟩
  rw [PyData.eqv, PySem.W.ked_eqvAll]
  exact q
/-! ways that meet: G is found at the first use -/
theorem joinC {α : Type} {C G : α → Prop} {goal : Prop} (h : (∀ x, C x → G x) → goal) (hG : ∀ x, C x → G x) : goal := h hG
def rLenK (K : PySem.W.Frag) : List V → Hp → VK → Prop := fun xs H Q => ∃ p ys, xs = [.ref p] ∧ (SqL K H p ys ∨ SqT K H p ys) ∧ Q (.int ((ys.length : Nat) : Int)) H
/-! a chain of three comparisons as a test -/
def tChain3 (r r' r'' : R2) (ta tb tc td : TE) : TE := fun σ H Q => ta σ H fun x H1 => tb σ H1 fun y H2 => r x y H2 fun z H3 => ∃ k, z = .bl k ∧ (if k = true then tc σ H3 fun u H4 => r' y u H4 fun z' H5 => ∃ k', z' = .bl k' ∧ (if k' = true then td σ H5 fun v H6 => r'' u v H6 Q else Q (.bl false) H5) else Q (.bl false) H3)
theorem pt_chain3 {X : Cx} {a b c d : Expr} {pos : Pos} {ta tb tc td : TE} {op op' op'' : CmpOp} {r r' r'' : R2} (ho : OpR X (compareOp op) r) (ho' : OpR X (compareOp op') r') (ho'' : OpR X (compareOp op'') r'') (ha : PE X a ta) (hb : PE X b tb) (hc : PE X c tc) (hd : PE X d td)
    (hm : lastMarks [op, op', op''] [b, c, d] = false := by with_unfolding_all rfl) : PT X (.Compare a [op, op', op''] [b, c, d] pos) (tTest (tChain3 r r' r'' ta tb tc td)) := by
  refine ⟨fun pins s σ H Q I h => ?_⟩
  refine isTrue_chain (thn (ha.run pins s σ H _ I h) fun v s1 ⟨x, H1, I1, r1, q1⟩ => test_link (thn (hb.run pins s1 σ H1 _ I1 q1) fun u s2 ⟨y, H2, I2, r2, q2⟩ =>
    thn (ho pins s2 σ H2 x y v u _ I2 r1 r2 q2) fun d1 s3 ⟨z, H3, I3, r3, k, e, q3⟩ => ?_)) hm
  subst e
  cases r3
  refine wpAny_truthy_bool ?_
  cases k with
  | false =>
    obtain ⟨k', e', q'⟩ := q3
    cases e'
    exact ite_ff ⟨H3, I3, q'⟩
  | true =>
    refine ite_tt (test_link (thn (hc.run pins s3 σ H3 _ I3 q3) fun w' s4 ⟨z', H4, I4, r4, q4⟩ =>
      thn (ho' pins s4 σ H4 y z' u w' _ I4 r2 r4 q4) fun d2 s5 ⟨z5, H5, I5, r5, k5, e5, q5⟩ => ?_))
    subst e5
    cases r5
    refine wpAny_truthy_bool ?_
    cases k5 with
    | false =>
      obtain ⟨k', e', q'⟩ := q5
      cases e'
      exact ite_ff ⟨H5, I5, q'⟩
    | true =>
      refine ite_tt (test_last (thn (hd.run pins s5 σ H5 _ I5 q5) fun w6 s6 ⟨z6, H6, I6, r6, q6⟩ => thn (ho'' pins s6 σ H6 z' z6 w' w6 _ I6 r4 r6 q6) fun d3 s7 ⟨z7, H7, I7, r7, k7, e7, q7⟩ => ?_))
      subst e7
      cases r7
      exact wpAny_truthy_bool ⟨H7, I7, q7⟩
/-! a new list is handed back, all else stays -/
def NewL (H : Hp) (Q : VK) (l : List Nat) : Prop := ∀ H' p, Same H H' → H p = none → H' p = some (.lst (vn l)) → Q (.ref p) H'
theorem vn_take (l : List Nat) (i : Nat) (c : Nat) (h : l[i]? = some c) : vn (l.take i) ++ [V.int (c : Int)] = vn (l.take (i + 1)) := by
  rw [vn_push, List.take_add_one, h]
  rfl
theorem vn_full {l : List Nat} {m : Nat} (h : l.length = m) : l.take m = l := List.take_of_length_le (by omega)
theorem size_of {z : Int} (m : Int) (h : 0 < m) (h20 : m ≤ 20) : ∃ n : Nat, 1 + z.fmod m = (n : Int) ∧ 1 ≤ n ∧ (n : Int) ≤ m := by
  have h0 := Int.fmod_nonneg_of_pos z h
  have h1 := Int.fmod_lt_of_pos z h
  exact ⟨(1 + z.fmod m).toNat, by omega, by omega, by omega⟩
/-! nested data -/
theorem dEq {K : PySem.W.Frag} {H : Hp} {α : Type} [DecidableEq α] [PySem.W.Datum α] {x y : V} {c d : α} {Q : VK} (hx : Dp K H x (PySem.W.Datum.toD c)) (hy : Dp K H y (PySem.W.Datum.toD d))
    (sx : SeqAt.shaped (PySem.W.Datum.toD c) = true) (sy : SeqAt.shaped (PySem.W.Datum.toD d) = true) (q : Q (.bl (decide (c = d))) H) : rEqD K x y H Q := ⟨_, _, hx, hy, sx, sy, by rw [PySem.W.Datum.eqv]; exact q⟩
theorem dNe {K : PySem.W.Frag} {H : Hp} {α : Type} [DecidableEq α] [PySem.W.Datum α] {x y : V} {c d : α} {Q : VK} (hx : Dp K H x (PySem.W.Datum.toD c)) (hy : Dp K H y (PySem.W.Datum.toD d))
    (sx : SeqAt.shaped (PySem.W.Datum.toD c) = true) (sy : SeqAt.shaped (PySem.W.Datum.toD d) = true) (q : Q (.bl (!decide (c = d))) H) : rNeD K x y H Q := ⟨_, _, hx, hy, sx, sy, by rw [PySem.W.Datum.eqv]; exact q⟩
/-- a list of lists of ints: the addresses and what they hold -/
def AllL (K : PySem.W.Frag) (H : Hp) : List V → List (List Int) → Prop
  | [], [] => True
  | .ref p :: r, s :: t => SqL K H p (vi s) ∧ AllL K H r t
  | _, _ => False
theorem AllL.dp {K : PySem.W.Frag} {H : Hp} : ∀ {xs : List V} {ss : List (List Int)}, AllL K H xs ss → DpAll K H xs (ss.map PySem.W.Datum.toD)
  | [], [], _ => .nil
  | [], _ :: _, h => h.elim
  | .ref p :: r, s :: t, h => .cons (.lst h.1 (dp_vi s)) (AllL.dp h.2)
  | .ref _ :: _, [], h => by cases h
  | .non :: _, _, h => by cases h
  | .bl _ :: _, _, h => by cases h
  | .int _ :: _, _, h => by cases h
  | .str _ :: _, _, h => by cases h
  | .byt _ :: _, _, h => by cases h
  | .flt _ :: _, _, h => by cases h
  | .ty _ :: _, _, h => by cases h
theorem AllL.same {K : PySem.W.Frag} {H H' : Hp} (sm : Same H H') : ∀ {xs : List V} {ss : List (List Int)}, AllL K H xs ss → AllL K H' xs ss
  | [], [], _ => True.intro
  | [], _ :: _, h => h.elim
  | .ref p :: r, s :: t, h => ⟨sm.seq h.1, AllL.same sm h.2⟩
  | .ref _ :: _, [], h => by cases h
  | .non :: _, _, h => by cases h
  | .bl _ :: _, _, h => by cases h
  | .int _ :: _, _, h => by cases h
  | .str _ :: _, _, h => by cases h
  | .byt _ :: _, _, h => by cases h
  | .flt _ :: _, _, h => by cases h
  | .ty _ :: _, _, h => by cases h
theorem canLayAll_ll : ∀ ss : List (List Int), PyData.canLayAll0 (ss.map PySem.W.Datum.toD) = true
  | [] => rfl
  | s :: r => by
    rw [List.map_cons, PyData.canLayAll0, canLayAll_ll r, Bool.and_true]
    show PyData.canLay0 (.list (s.map PyData.int)) = true
    rw [PyData.canLay0]
    exact PySem.W.ke_canLayAll0 s
theorem depthAll_ll : ∀ ss : List (List Int), PyData.depthAll (ss.map PySem.W.Datum.toD) ≤ 1
  | [] => Nat.zero_le _
  | s :: r => by
    rw [List.map_cons, PyData.depthAll]
    refine Nat.max_le.mpr ⟨?_, depthAll_ll r⟩
    show PyData.depth (.list (s.map PyData.int)) ≤ 1
    rw [PyData.depth, PySem.W.ke_depthAll]
    exact Nat.le_refl _
theorem shaped_ll (ss : List (List Int)) : SeqAt.shaped (PySem.W.Datum.toD ss) = true := by
  show (PyData.canLay0 (.list (ss.map PySem.W.Datum.toD)) && decide (PyData.depth (.list (ss.map PySem.W.Datum.toD)) ≤ 64)) = true
  rw [PyData.canLay0, canLayAll_ll, Bool.true_and, decide_eq_true_eq, PyData.depth]
  have := depthAll_ll ss
  omega
theorem rEq_ll {K : PySem.W.Frag} {H : Hp} {a b : Addr} {xs ys : List V} {s t : List (List Int)} {Q : VK} (ha : SqL K H a xs) (hb : SqL K H b ys) (hs : AllL K H xs s) (ht : AllL K H ys t) (q : Q (.bl (decide (s = t))) H) : rEqD K (.ref a) (.ref b) H Q :=
  dEq (.lst ha hs.dp) (.lst hb ht.dp) (shaped_ll s) (shaped_ll t) q
theorem rNe_ll {K : PySem.W.Frag} {H : Hp} {a b : Addr} {xs ys : List V} {s t : List (List Int)} {Q : VK} (ha : SqL K H a xs) (hb : SqL K H b ys) (hs : AllL K H xs s) (ht : AllL K H ys t) (q : Q (.bl (!decide (s = t))) H) : rNeD K (.ref a) (.ref b) H Q :=
  dNe (.lst ha hs.dp) (.lst hb ht.dp) (shaped_ll s) (shaped_ll t) q
def spLaw (K : PySem.W.Frag) : Sp := fun vs H Q _ => ∃ (a : Addr) (ns : List Int), vs = [.ref a] ∧ SqL K H a (vi ns) ∧ ns.length ≤ 63 ∧ ∀ H', Q (.bl true) H'
/-! all but some stay -/
def Sx (X : List Addr) (H H' : Hp) : Prop := ∀ b o, b ∉ X → H b = some o → H' b = some o
theorem Sx.refl (X : List Addr) (H : Hp) : Sx X H H := fun _ _ _ h => h
theorem Sx.trans {X : List Addr} {H H1 H2 : Hp} (s : Sx X H H1) (t : Sx X H1 H2) : Sx X H H2 := fun b o hb h => t b o hb (s b o hb h)
theorem Sx.of {X : List Addr} {H H' : Hp} (s : Same H H') : Sx X H H' := fun b o _ h => s b o h
theorem Sx.upd {X : List Addr} {H H' : Hp} {p : Addr} {o : HO} (s : Sx X H H') (hp : p ∈ X) : Sx X H (upd H' p o) := fun b u hb h => by
  rw [upd_ne (fun e => hb (by rw [e]; exact hp))]
  exact s b u hb h
theorem Sx.same {X : List Addr} {H0 H H' : Hp} (s : Sx X H H') (h0 : Same H0 H) (hX : ∀ x, x ∈ X → H0 x = none) : Same H0 H' := fun b o h => s b o (fun hb => by rw [hX b hb] at h; cases h) (h0 b o h)
/-! lists of lists -/
abbrev vr (rs : List Addr) : List V := rs.map V.ref
def HL (H : Hp) (rs : List Addr) (F : List (List Nat)) : Prop := rs.length = F.length ∧ ∀ (i : Nat) (r : Addr) (l : List Nat), rs[i]? = some r → F[i]? = some l → H r = some (.lst (vn l))
theorem HL.nil (H : Hp) : HL H [] [] := ⟨rfl, fun i r l h => by simp at h⟩
theorem HL.same {H H' : Hp} {rs : List Addr} {F : List (List Nat)} (h : HL H rs F) (s : Same H H') : HL H' rs F := ⟨h.1, fun i r l h1 h2 => s _ _ (h.2 i r l h1 h2)⟩
theorem HL.sx {X : List Addr} {H H' : Hp} {rs : List Addr} {F : List (List Nat)} (h : HL H rs F) (s : Sx X H H') (hX : ∀ x, x ∈ X → x ∉ rs) : HL H' rs F :=
  ⟨h.1, fun i r l h1 h2 => s _ _ (fun hm => hX r hm (List.mem_of_getElem? h1)) (h.2 i r l h1 h2)⟩
theorem HL.snoc {H : Hp} {rs : List Addr} {F : List (List Nat)} {r : Addr} {l : List Nat} (h : HL H rs F) (hr : H r = some (.lst (vn l))) : HL H (rs ++ [r]) (F ++ [l]) := by
  refine ⟨by simp [h.1], fun i r' l' h1 h2 => ?_⟩
  by_cases c : i < rs.length
  · rw [List.getElem?_append_left c] at h1
    rw [List.getElem?_append_left (by rw [← h.1]; exact c)] at h2
    exact h.2 i r' l' h1 h2
  · by_cases e : i = rs.length
    · subst e
      rw [List.getElem?_append_right (Nat.le_refl _)] at h1
      rw [List.getElem?_append_right (by rw [h.1]; exact Nat.le_refl _), h.1] at h2
      simp at h1 h2
      rw [← h1, ← h2]
      exact hr
    · rw [List.getElem?_eq_none (by simp; omega)] at h1
      cases h1
theorem HL.allL {K : PySem.W.Frag} {H : Hp} : ∀ {rs : List Addr} {F : List (List Nat)}, HL H rs F → AllL K H (vr rs) (F.map zs)
  | [], [], _ => True.intro
  | [], _ :: _, h => by cases h.1
  | _ :: _, [], h => by cases h.1
  | r :: rs, l :: F, h => ⟨sqL (h.2 0 r l rfl rfl), HL.allL ⟨by have := h.1; simp at this; exact this, fun i r' l' h1 h2 => h.2 (i + 1) r' l' h1 h2⟩⟩
def NewLL (H : Hp) (Q : VK) (F : List (List Nat)) : Prop := ∀ H' p rs, Same H H' → H p = none → H' p = some (.lst (vr rs)) → HL H' rs F → rs.Nodup → p ∉ rs → (∀ r, r ∈ rs → H r = none) → Q (.ref p) H'
/-! a dict as a set of places -/
def kvsOf (l : List Nat) : List (Key × V) := l.map fun k : Nat => (Sum.inl (k : Int), V.bl true)
theorem kvs_len (l : List Nat) : (kvsOf l).length = l.length := List.length_map _
theorem kvs_get : ∀ (l : List Nat) (k : Nat), (valV (kvsOf l) (Sum.inl (k : Int) : Key)).isSome = decide (k ∈ l)
  | [], k => by simp [kvsOf, valV]
  | x :: r, k => by
    show (valV (((Sum.inl (x : Int) : Key), V.bl true) :: kvsOf r) (Sum.inl (k : Int) : Key)).isSome = _
    by_cases e : x = k
    · subst e
      rw [valV_pos rfl]
      simp
    · rw [valV_neg (fun z => e (by have := Sum.inl.inj z; omega)), kvs_get r k]
      simp [show ¬ k = x from fun z => e z.symm]
theorem kvs_put {l : List Nat} {k : Nat} (h : k ∉ l) : putK (kvsOf l) (Sum.inl (k : Int) : Key) (V.bl true) = kvsOf (l ++ [k]) := by
  rw [putK_new]
  · simp [kvsOf]
  · have h2 := kvs_get l k
    rw [decide_eq_false h] at h2
    cases e : valV (kvsOf l) (Sum.inl (k : Int) : Key) with
    | none => rfl
    | some v => rw [e] at h2; cases h2
theorem in_vn (l : List Nat) (k : Nat) : inV (.int (k : Int)) (vn l) = decide (k ∈ l) := by
  unfold inV
  induction l with
  | nil => rfl
  | cons x r ih =>
    show (eqV (.int (x : Int)) (.int (k : Int)) || (vn r).any fun y => eqV y (.int (k : Int))) = _
    rw [ih]
    have e : eqV (.int (x : Int)) (.int (k : Int)) = decide (k = x) := by
      show ((x : Int) == (k : Int)) = _
      by_cases c : k = x
      · subst c; simp
      · rw [decide_eq_false c, beq_eq_false_iff_ne.mpr (fun z => c (by omega))]
    rw [e]
    simp
theorem flat_vn (l : List Nat) : (vn l).all flatV = true := by
  rw [List.all_eq_true]
  intro v hv
  simp [vn, vi, zs] at hv
  obtain ⟨x, _, rfl⟩ := hv
  rfl
theorem rgV_vn (M : Nat) : rgV 0 (M : Int) = vn (List.range M) := by
  unfold rgV
  rw [show ((M : Int) - 0).toNat = M by omega]
  simp [vn, vi, zs]
theorem zs_erase : ∀ (L : List Nat) (j : Nat), (zs L).eraseIdx j = zs (L.eraseIdx j)
  | [], _ => rfl
  | _ :: _, 0 => rfl
  | x :: r, j + 1 => by
    show (x : Int) :: (zs r).eraseIdx j = (x : Int) :: zs (r.eraseIdx j)
    rw [zs_erase r j]
/-- the place of a number in a list without repeats, and the list without it -/
theorem rem_ok {L : List Nat} {x : Nat} (hn : L.Nodup) (hx : x ∈ L) : ∃ j : Nat, (zs L)[j]? = some (x : Int) ∧ (∀ m : Nat, m < j → (zs L)[m]? ≠ some (x : Int)) ∧ (zs L).eraseIdx j = zs (L.filter fun y => decide (y ≠ x)) := by
  obtain ⟨j, hj⟩ := List.mem_iff_getElem?.mp hx
  have hjl := (List.getElem?_eq_some_iff.mp hj).1
  refine ⟨j, by simp [zs, hj], fun m hm h => ?_, ?_⟩
  · have hml : m < L.length := by omega
    have h2 : L[m]? = some x := by
      simp [zs] at h
      obtain ⟨y, h3, h4⟩ := h
      rw [h3]
      congr 1
      omega
    have := nd_ix hn h2 hj
    omega
  · rw [← Rm.eraseIdx_filter L j x hn hj]
    exact zs_erase L j
theorem cut1 (xs : List V) : cutV xs (some 1) none = xs.drop 1 := by
  unfold cutV
  rw [show HT.sIx xs.length 0 (some 1) = min 1 xs.length from HT.sIx_nat xs.length 0 1, HT.sIx_none]
  cases xs with
  | nil => rfl
  | cons x r =>
    rw [show min 1 (x :: r).length = 1 by
      rw [List.length_cons]
      omega]
    show (List.take ((x :: r).length - 1) r) = r
    rw [List.length_cons, Nat.add_sub_cancel]
    exact List.take_length
theorem fdiv2 (n : Nat) : ((2 * n : Nat) : Int).fdiv 2 = (n : Int) := by
  rw [Int.fdiv_eq_ediv_of_nonneg _ (by decide)]
  omega
/-! objects of one make at some addresses -/
def HG {α : Type} (c : α → HO) (H : Hp) (rs : List Addr) (F : List α) : Prop := rs.length = F.length ∧ ∀ (i : Nat) (r : Addr) (l : α), rs[i]? = some r → F[i]? = some l → H r = some (c l)
section
variable {α : Type} {c : α → HO} {H H' : Hp} {rs : List Addr} {F : List α}
theorem HG.nil (c : α → HO) (H : Hp) : HG c H [] [] := ⟨rfl, fun i r l h => by simp at h⟩
theorem HG.same (h : HG c H rs F) (s : Same H H') : HG c H' rs F := ⟨h.1, fun i r l h1 h2 => s _ _ (h.2 i r l h1 h2)⟩
theorem HG.sx {X : List Addr} (h : HG c H rs F) (s : Sx X H H') (hX : ∀ x, x ∈ X → x ∉ rs) : HG c H' rs F :=
  ⟨h.1, fun i r l h1 h2 => s _ _ (fun hm => hX r hm (List.mem_of_getElem? h1)) (h.2 i r l h1 h2)⟩
theorem HG.snoc {r : Addr} {l : α} (h : HG c H rs F) (hr : H r = some (c l)) : HG c H (rs ++ [r]) (F ++ [l]) := by
  refine ⟨by simp [h.1], fun i r' l' h1 h2 => ?_⟩
  by_cases q : i < rs.length
  · rw [List.getElem?_append_left q] at h1
    rw [List.getElem?_append_left (by rw [← h.1]; exact q)] at h2
    exact h.2 i r' l' h1 h2
  · by_cases e : i = rs.length
    · subst e
      rw [List.getElem?_append_right (Nat.le_refl _)] at h1
      rw [List.getElem?_append_right (by rw [h.1]; exact Nat.le_refl _), h.1] at h2
      simp at h1 h2
      rw [← h1, ← h2]
      exact hr
    · rw [List.getElem?_eq_none (by simp; omega)] at h1
      cases h1
theorem HG.at (h : HG c H rs F) {i : Nat} (hi : i < F.length) : ∃ r, rs[i]? = some r ∧ H r = some (c F[i]) := by
  have : i < rs.length := by rw [h.1]; exact hi
  exact ⟨rs[i], List.getElem?_eq_getElem this, h.2 i _ _ (List.getElem?_eq_getElem this) (List.getElem?_eq_getElem hi)⟩
theorem HG.mem (h : HG c H rs F) {r : Addr} (hr : r ∈ rs) : ∃ l, H r = some (c l) := by
  obtain ⟨i, hi⟩ := List.mem_iff_getElem?.mp hr
  have h1 := (List.getElem?_eq_some_iff.mp hi).1
  have h2 : i < F.length := by rw [← h.1]; exact h1
  exact ⟨_, h.2 i r _ hi (List.getElem?_eq_getElem h2)⟩
end
theorem HL.hg {H : Hp} {rs : List Addr} {F : List (List Nat)} (h : HL H rs F) : HG (fun l => .lst (vn l)) H rs F := h

end Rv

namespace Rv
open PySem PySem.Spec PyProof.Rows L2
open Rm (zs at')
/-! ### what raises -/
structure CalX (P : Program) (w : World) (K : PySem.W.Frag) (mg : Str → Option Value) (base : Heap) (k : Nat) (x : Str) (sp : Sp) : Prop where
  ex : ∃ (f : Addr) (fd : FuncData) (ps : List Str), FnOk P w K mg base (L2.CX P w) k f fd ps sp ∧ mg x = some (.ref f) ∧ PySem.W.keepIn K (.ref f) = true ∧ Binds K fd ps []
theorem pe_cX {X : Cx} {x : Str} {p pos : Pos} {e : Expr} {es : List Expr} {t : TA} {sp : Sp} {j k : Nat} {W : WX} (c : CalX X.prog X.w X.K X.mg X.base k x sp) (tk : Takes X W) (hr : Room j X.A) (hk : k ≤ j) (hg : Gl X x) (ha : PA X (e :: es) t)
    (hdb : (x == ("__debug__" : Str)) = false := by decide) (he : starEach (e :: es) X.env = (false, eval e X.env) :: starEach es X.env := by rfl) (hpl : (backTo pos (starEach es X.env)).any (·.1) = false := by rfl) :
    PE X (.Call (.Name x p) (e :: es) [] pos) (tCallS sp (WE W) t) := by
  obtain ⟨f, fd, ps, F, hm, kp, b⟩ := c.ex
  exact pe_callS F (hr.mono hk) hg hm kp b (fun σ => passAt tk σ) ha hdb he hpl
section
variable {P : Program} {w : World} {K : PySem.W.Frag} {mg : Str → Option Value} {base : Heap}
theorem Dfn.calX {x : Str} {st : Stmt} {N ps : List Str} {k : Nat} {sp : Sp} (D : Dfn K mg x st ps) (S : FnScope N ps (defScope st)) (len : ∀ vs H Q E, sp vs H Q E → vs.length = ps.length)
    (hbody : ∀ (f : Addr) (cdv : Value) (A : Around) (outer : List Env) (s : Shared) (H : Hp) (vs : List V) (Q : VK) (E : XK), Room k (A.deeper (envOfC x (defScope st) s.heap.objs.size f cdv)) → sp vs H Q E →
      ∃ t, PSs (cxOf (L2.CX P w) P w K mg base N x (defScope st) f cdv A outer s H E) (defBody st) t ∧ t { nx := fun _ H' => Q .non H', rt := Q } (start N vs) H) : CalX P w K mg base (k + 1) x sp := by
  obtain ⟨f, fd, F, hm, b⟩ := D.ex
  exact ⟨f, fd, ps, F.okX S len (fun cdv A outer s H vs Q E hr h => hbody f cdv A outer s H vs Q E hr h), hm, F.kp, b⟩
/-- a class of errors that the top has written -/
structure ExcF (K : PySem.W.Frag) (mg : Str → Option Value) (x : Str) (C : Addr) : Prop where
  g : mg x = some (.ref C)
  x : PySem.W.excIn K C [.type "ValueError", .type "Exception", .type "BaseException", .type "object"] "ValueError.__new__" = true
  k : PySem.W.keepIn K (.ref C) = true
  b : PySem.W.subIn K (.ref C) (.type "BaseException") = some true
  t : PySem.W.typeIn K (.ref C) = some (.type "type")
  c : ExcC K C
/-- a block that is shown under a condition -/
theorem pss_if {X : Cx} {ss : List Stmt} {t : TS} {c : Prop} (h : c → PSs X ss t) : PSs X ss (fun D σ H => c ∧ t D σ H) :=
  ⟨fun pins s σ H D I q => (h q.1).run pins s σ H D I q.2⟩
theorem zc_of {cls : Value} {d : Option Addr} {oe : Obj} {C : Addr} (hc : cls = .ref C ∧ d = none) (hz : Zc cls d oe) : Zc (.ref C) none oe := by
  rw [hc.1, hc.2] at hz
  exact hz
theorem kit_same {K : PySem.W.Frag} (C : Addr) : PySem.W.kitOne K (.ref C) (.ref C) = some true := if_pos (beq_self_eq_true (Value.ref C))
theorem kit_r {K : PySem.W.Frag} {t C : Addr} {b : Bool} (ne : (Value.ref t == Value.ref C) = false) (hc : PySem.W.isClsIn K C = true) (ht : PySem.W.typeIn K (.ref C) = some (.type "type")) (h : PySem.W.subIn K (.ref t) (.ref C) = some b) : PySem.W.kitOne K (.ref t) (.ref C) = some b := by
  have e2 : ((PySem.W.clsIn K C).isSome && PySem.W.typeIn K (.ref C) == some (.type "type")) = true := by
    have hc' : (PySem.W.clsIn K C).isSome = true := hc
    rw [hc', ht] <;> rfl
  unfold PySem.W.kitOne
  rw [ne]
  show (if ((PySem.W.clsIn K C).isSome && PySem.W.typeIn K (.ref C) == some (.type "type")) = true then PySem.W.subIn K (.ref t) (.ref C) else none) = some b
  rw [if_pos e2]
  exact h
theorem kit_t {K : PySem.W.Frag} {t : Addr} {T : String} {b : Bool} (hm : PySem.W.kitMeta T = true) (h : PySem.W.subIn K (.ref t) (.type T) = some b) : PySem.W.kitOne K (.ref t) (.type T) = some b := by
  have e : (Value.ref t == Value.type T) = false := rfl
  unfold PySem.W.kitOne
  rw [e]
  show (if PySem.W.kitMeta T = true then PySem.W.subIn K (.ref t) (.type T) else none) = some b
  rw [if_pos hm]
  exact h
theorem small' {n : Nat} (h : n ≤ 1000000) : n ≤ sizeLine := Nat.le_trans h (by decide)
/-- a text times a number -/
def rRepS : R2 := fun x y H Q => ∃ (z : Str) (k : Int), x = .str z ∧ y = .int k ∧ 0 ≤ k ∧ k ≤ 1000 ∧ z.length ≤ 1000 ∧ Q (.str (Txt.mul z k)) H
theorem op_repS {X : Cx} : OpR X (binaryOp .Mult) rRepS := by
  intro pins s σ H x y v u Q I rx ry h
  obtain ⟨z, k, rfl, rfl, h0, h1, hz, q⟩ := h
  obtain ⟨t, rfl⟩ := rx
  obtain ⟨t', rfl⟩ := ry
  refine SB.mul ⟨?_, fun hk _ => ?_, fun hk _ => ?_⟩ fun t' tk => ⟨.str (Txt.mul z k), H, I.tok _, ⟨_, rfl⟩, q⟩
  · rw [decide_eq_false (by omega), decide_eq_false (by omega)]
    rfl
  · have hkp : 0 < k := by omega
    have : (1000 : Int) ≤ (2 ^ 63 - 1) / k := by
      rw [Int.le_ediv_iff_mul_le hkp]
      omega
    omega
  · have hn : k.toNat ≤ 1000 := by omega
    have := Nat.mul_le_mul hz hn
    exact decide_eq_false (by
      have h2 : (1000 * 1000 : Nat) ≤ sizeLine := small' (by decide)
      omega)
end

end Rv

namespace Rv
open PySem PySem.Spec PyProof.Rows L2
open Rm (zs at')
/-! ### a def that is handed the error which is handled -/
theorem pss_dead {X : Cx} {ss : List Stmt} : PSs X ss (fun _ _ _ => False) := ⟨fun _ _ _ _ _ _ h => h.elim⟩
structure FnP (P : Program) (w : World) (K : PySem.W.Frag) (mg : Str → Option Value) (base : Heap) (k : Nat) (f : Addr) (fd : FuncData) (ps : List Str) (sp : Addr × Obj → Sp) : Prop where
  len : ∀ p vs H Q E, sp p vs H Q E → vs.length = ps.length
  run : ∀ (A : Around) (outer : List Env) (s : Shared) (H : Hp) (args : Args) (us : List Value) (vs : List V) (Q : VK) (E : XK) (p : Addr × Obj), L2H.RoomH k A → L2H.PinOk outer H s p → Env0 P w K mg base A outer s H → BindsTo s fd args (ps.zip us) → Vals vs us → sp p vs H Q E →
    codeAny (model P w) A (.call (.ref f) args) (CR CX0 outer P w H s Q E) s
section
variable {P : Program} {w : World} {K : PySem.W.Frag} {mg : Str → Option Value} {base : Heap}
theorem Fun.okP {x qual : Str} {st : Stmt} {f : Addr} {fd : FuncData} {N ps : List Str} {k : Nat} {sp : Addr × Obj → Sp} (F : Fun K x qual st f fd) (S : FnScope N ps (defScope st)) (len : ∀ p vs H Q E, sp p vs H Q E → vs.length = ps.length)
    (hbody : ∀ (cdv : Value) (A : Around) (outer : List Env) (s : Shared) (H : Hp) (vs : List V) (Q : VK) (E : XK) (p : Addr × Obj), L2H.RoomH k (A.deeper (envOfC qual (defScope st) s.heap.objs.size f cdv)) → sp p vs H Q E →
      ∃ t, PSs (L2H.cxH CX0 P w K mg base N qual (defScope st) f cdv A outer s H E p) (defBody st) t ∧ t { nx := fun _ H' => Q .non H', rt := Q } (L2.start N vs) H) : FnP P w K mg base (k + 1) f fd ps sp := by
  obtain ⟨oc, od, kV, doc, pm, an, cdv, ct, osl, rfl, lk, hcd⟩ := F.ex
  refine ⟨len, fun A outer s H args us vs Q E p hr hpin e0 hb r hsp => ?_⟩
  have KX : K.In s.heap := e0.mod.kin.keeps fun b o e => (e0.bs b o e).1
  have lim : s.heap.NoLimit := e0.mod.nolimit.keeps fun b o e => (e0.bs b o e).1
  refine codeAny_call_function hr.depth (KX _ _ lk) rfl S.co S.gen rfl (PySem.W.codeRec_of KX hcd) (hb _ _ _ _ ?_)
  refine wpAny_newFunctionEnv_cells S.kind (fun y hy => ?_) fun env he s1 x => ?_
  · obtain ⟨n, v⟩ := y
    rcases S.par n (List.of_mem_zip hy).1 with q | q
    · exact .inl q
    · exact .inr ⟨q, PySem.W.cellsFrom_some _ _ _ (.inl q)⟩
  subst he
  refine ⟨lim.keeps x.toInCall.keep, codeAny_func ?_⟩
  obtain ⟨t, ht, hq⟩ := hbody cdv A outer s H vs Q E p (hr.deeper _) hsp
  have I := L2H.inv_startH (CX := CX0) (E := E) S hpin e0 (len _ _ _ _ _ hsp) r x
  refine wpAny_mono (ht.run [] s1 (L2.start N vs) H _ I hq) (fun fl s' hs => ?_) fun _ _ hs => hs
  cases fl with
  | ret u =>
    obtain ⟨v, σ', H', J, rv, q⟩ := hs
    exact ⟨v, H', J.os, J.bare, J.base, J.hok, rv, q⟩
  | next =>
    obtain ⟨σ', H', J, q⟩ := hs
    exact ⟨V.non, H', J.os, J.bare, J.base, J.hok, rfl, q⟩
  | brk =>
    obtain ⟨_, _, _, q⟩ := hs
    exact q.elim
  | cont =>
    obtain ⟨_, _, _, q⟩ := hs
    exact q.elim
structure CalP (P : Program) (w : World) (K : PySem.W.Frag) (mg : Str → Option Value) (base : Heap) (k : Nat) (x : Str) (sp : Addr × Obj → Sp) : Prop where
  ex : ∃ (f : Addr) (fd : FuncData) (ps : List Str), FnP P w K mg base k f fd ps sp ∧ mg x = some (.ref f) ∧ PySem.W.keepIn K (.ref f) = true ∧ Binds K fd ps []
theorem Dfn.calP {x : Str} {st : Stmt} {N ps : List Str} {k : Nat} {sp : Addr × Obj → Sp} (D : Dfn K mg x st ps) (S : FnScope N ps (defScope st)) (len : ∀ p vs H Q E, sp p vs H Q E → vs.length = ps.length)
    (hbody : ∀ (f : Addr) (cdv : Value) (A : Around) (outer : List Env) (s : Shared) (H : Hp) (vs : List V) (Q : VK) (E : XK) (p : Addr × Obj), L2H.RoomH k (A.deeper (envOfC x (defScope st) s.heap.objs.size f cdv)) → sp p vs H Q E →
      ∃ t, PSs (L2H.cxH CX0 P w K mg base N x (defScope st) f cdv A outer s H E p) (defBody st) t ∧ t { nx := fun _ H' => Q .non H', rt := Q } (L2.start N vs) H) : CalP P w K mg base (k + 1) x sp := by
  obtain ⟨f, fd, F, hm, b⟩ := D.ex
  exact ⟨f, fd, ps, Fun.okP F S len (fun cdv A outer s H vs Q E p hr h => hbody f cdv A outer s H vs Q E p hr h), hm, F.kp, b⟩
end
def tCallW (sp : Sp) (t : TA) : TE := fun σ H Q => t σ H fun vs H1 => sp vs H1 Q E0
theorem pe_cP {X : Cx} {x : Str} {q pos : Pos} {e : Expr} {es : List Expr} {t : TA} {sp : Addr × Obj → Sp} {sp' : Sp} {p : Addr × Obj} {j k : Nat} (c : CalP X.prog X.w X.K X.mg X.base k x sp) (hr : L2H.RoomH j X.A) (hk : k ≤ j) (hp : p ∈ X.pn) (imp : ∀ vs H Q E, sp' vs H Q E → sp p vs H Q E) (hg : Gl X x) (ha : PA X (e :: es) t)
    (hdb : (x == ("__debug__" : Str)) = false := by decide) (he : starEach (e :: es) X.env = (false, eval e X.env) :: starEach es X.env := by rfl) (hpl : (backTo pos (starEach es X.env)).any (·.1) = false := by rfl) :
    PE X (.Call (.Name x q) (e :: es) [] pos) (tCallW sp' t) := by
  obtain ⟨f, fd, ps, F, hm, kp, hb⟩ := c.ex
  refine ⟨fun pins s σ H Q I h => ?_⟩
  refine wpAny_Call_Name_kw (ld_glob I hg hm ?_ hdb)
  refine PySem.W.callWith_K (h₀ := X.base) I.ok.mod.kin kp (thn (ha.run pos pins s σ H _ I h) fun us s1 ⟨vs, H1, I1, r, q0⟩ => ⟨I1.kIn, ?_⟩) he hpl
  have q := imp _ _ _ _ q0
  have hl : us.length = ps.length := by rw [← r.length]; exact F.len _ _ _ _ _ q
  have b := hb s1 us I1.kIn (by rw [List.append_nil]; exact hl)
  rw [List.append_nil] at b
  have P1 := I1.pin p (List.mem_append_left _ hp)
  have hpin : L2H.PinOk X.stack H1 s1 p := ⟨P1.1, P1.2.1, fun hm => (List.mem_cons.mp (I1.stkSub p.1 hm)).elim P1.2.2.1 P1.2.2.2.1, P1.2.2.2.2⟩
  refine wpAny_call (codeAny_mono (F.run X.A X.stack s1 H1 ⟨us, []⟩ us vs Q E0 p (hr.mono hk) hpin I1.env0 b r q) fun r s' hq => ?_)
  cases r with
  | error e => exact hq.elim
  | ok fl =>
    cases fl with
    | ret u => exact I1.after hq
    | next => exact hq.elim
    | brk => exact hq.elim
    | cont => exact hq.elim
theorem call_isP {X : Cx} {D : Addr} {p : Addr × Obj} (C : ExcC X.K D) (hp : p ∈ X.pn) (hz : Zc (.ref D) none p.2) (hf : ∃ vs, p.2.data = .fields vs) : CallR X (.builtin "isinstance") (rIsE X.K D p.1) := by
  intro pins s σ H xs us Q I r h
  obtain ⟨c, cv, b, rfl, hcv, e, q⟩ := h
  cases r with
  | cons rx rr =>
    cases rr with
    | cons rt rr =>
      cases rr
      cases rx
      have ec := hcv _ rt
      subst ec
      have hget := (I.pin p (List.mem_append_left _ hp)).1
      obtain ⟨a, oe⟩ := p
      obtain ⟨vs, hv⟩ := hf
      have J : PySem.W.InstAt s.heap a oe D none := by
        obtain ⟨oc, od, oda, osl⟩ := oe
        obtain ⟨h1, h2⟩ := hz
        dsimp only at h1 h2 hv
        subst h1 h2 hv
        exact ⟨hget, rfl, rfl, trivial⟩
      exact PySem.W.kia_one (PySem.W.handS_kitx_exc C.hg C.hk C.hs C.hd C.ha C.hn C.ht C.hm) I.kIn J e (fun z => nomatch z) fun tk => ⟨.bl b, H, I.kept (t' := tk) fun _ _ z => z, rfl, q⟩

end Rv

namespace Rv
open PySem PySem.Spec PyProof.Rows L2
open Rm (zs at')
/-! ### is_arcs -/
abbrev s_is_arcs : Stmt := topS 9
theorem sc_is_arcs : FnScope ["some", "open_ones", "k"] ["some"] (defScope s_is_arcs) := ⟨rfl, rfl, rfl, by decide +kernel, rfl, by decide +kernel, by decide +kernel⟩
def spIsArcs (K : PySem.W.Frag) : Sp := fun vs H Q _ => ∃ (a : Addr) (s : List Int), vs = [.ref a] ∧ SqL K H a (vi s) ∧ s.length ≤ 1000 ∧ ∀ b H', Same H H' → (b = true ↔ Rm.Good s) → Q (.bl b) H'
section
variable {P : Program} {w : World} {K : PySem.W.Frag} {mg : Str → Option Value} {base : Heap}
theorem ok_is_arcs {tM : Tok} (D : Dfn K mg "is_arcs" s_is_arcs ["some"]) (B : Blt mg) (g_MOST : mg "MOST" = some (.int 20 tM)) : Cal P w K mg base 1 "is_arcs" (spIsArcs K) := by
  refine D.cal sc_is_arcs (fun vs H Q E h => ?_) (fun f cdv A outer s0 H vs Q E hr h => ?_)
  · obtain ⟨a, s, rfl, _⟩ := h
    rfl
  · obtain ⟨a, s, rfl, hS, hlen, q⟩ := h
    refine ⟨_, (pss_cons (ps_if (PW.pt (pw_or (pt_cmpR op_lt (pe_callB call_len_seq (by rfl) B.len_ PySem.boot_len (pa_cons (pv 0) pa_nil)) pe_int (nomark _)) (pw_or1 (pt_cmpR op_gt (pe_callB call_len_seq (by rfl) B.len_ PySem.boot_len (pa_cons (pv 0) pa_nil)) (pe_op op_mul pe_int (pe_glob (v := .int 20) (by rfl) g_MOST ⟨_, rfl⟩)) (nomark _)))))
        (pss_one (ps_ret pe_bl))
        pss_nil)
      (pss_cons (ps_set (i := 1) sc_is_arcs.nd rfl (.inl rfl) (pe_lst pa_nil))
      (pss_cons (ps_for PassesOwn.never rfl (pi_range1 (by rfl) B.range_ (pa_cons (pe_callB call_len_seq (by rfl) B.len_ PySem.boot_len (pa_cons (pv 0) pa_nil)) pa_nil)) (pg_name (i := 2) sc_is_arcs.nd rfl (.inl rfl))
        (pss_cons (ps_if (PW.pt (pw_or (pt_not (pt_chain op_le op_lt pe_int (pe_ix ix_list (pv 0) (pv 2) (fun _ _ => rfl)) (pe_callB call_len_seq (by rfl) B.len_ PySem.boot_len (pa_cons (pv 0) pa_nil)))) (pw_or (pt_cmpR op_eq (pe_ix ix_list (pv 0) (pv 2) (fun _ _ => rfl)) (pv 2) (nomark _)) (pw_or1 (pt_cmpR op_ne (pe_ix ix_list (pv 0) (pe_ix ix_list (pv 0) (pv 2) (fun _ _ => rfl)) (fun _ _ => rfl)) (pv 2) (nomark _))))))
          (pss_one (ps_ret pe_bl))
          pss_nil)
        (pss_one (ps_if (pt_cmpR op_gt (pe_ix ix_list (pv 0) (pv 2) (fun _ _ => rfl)) (pv 2) (nomark _))
          (pss_one (ps_expr (pe_bm PySem.F.plainAttrs_list PySem.F.slot_list_append PySem.F.type_list_append mt_append (pv 1) (pa_cons (pv 2) pa_nil))))
          (pss_one (ps_if (pt_cmpR op_ne (pe_bm0 PySem.F.plainAttrs_list PySem.F.slot_list_pop PySem.F.type_list_pop mt_pop (pv 1)) (pe_ix ix_list (pv 0) (pv 2) (fun _ _ => rfl)) (nomark _))
            (pss_one (ps_ret pe_bl))
            pss_nil))))))
      (pss_one (ps_ret pe_bl))))), ?_⟩
    refine ⟨.ref a, rfl, a, _, rfl, .inl hS, _, _, rfl, rfl, _, rfl, ite2 (fun e => ?_) (fun e => ?_)⟩
    · have e := of_decide_eq_true e
      rw [List.length_map] at e
      refine iteT (q false H (Same.refl H) ⟨fun z => (nomatch z), fun G => ?_⟩)
      have := G.1.1
      omega
    have e1 := of_decide_eq_false (Bool.eq_false_iff.mpr e)
    rw [List.length_map] at e1
    refine ⟨.ref a, rfl, a, _, rfl, .inl hS, _, _, rfl, rfl, .inl ⟨by decide, by decide⟩, _, _, rfl, rfl, _, rfl, ite2 (fun e => ?_) (fun e => ?_)⟩
    · have e := of_decide_eq_true e
      rw [List.length_map] at e
      refine q false H (Same.refl H) ⟨fun z => (nomatch z), fun G => ?_⟩
      have := G.1.2
      omega
    have e2 := of_decide_eq_false (Bool.eq_false_iff.mpr e)
    rw [List.length_map] at e2
    have hL : 2 ≤ s.length ∧ s.length ≤ 40 := by omega
    refine ⟨Nat.zero_le _, fun p np => ?_⟩
    refine ⟨.ref a, rfl, a, _, rfl, .inl ((same_new np).seq hS), _, rfl, by rw [List.length_map]; omega, by rw [List.length_map]; omega, ?_⟩
    rw [show ((vi s).length : Int).toNat = s.length by rw [List.length_map]; omega]
    refine for_range (lo := 0) (n := s.length) (fun i σ H' => ∃ y2, σ = [some (.ref a), some (.ref p), y2] ∧ Same H H' ∧ H' p = some (.lst (vn (Rm.opens s i))) ∧ Rm.Stage s i) ⟨none, rfl, same_new np, upd_same, Rm.stage0 s⟩ (fun i σ H' hi hP => ?_) (fun σ H' hP => ?_)
    · obtain ⟨y2, rfl, sm, hp, st⟩ := hP
      have hS' := sm.seq hS
      rw [Int.zero_add]
      have iv : atI (vi s) (i : Int) = some (.int (Rm.g s i)) := vi_at hi rfl
      have bad : ¬ Rm.OkAt s i → Q (.bl false) H' := fun h => q false H' sm ⟨fun z => (nomatch z), fun G => absurd (G.2.1 i hi) h⟩
      -- 0 <= some[k] < len(some)
      refine ⟨.ref a, rfl, .int i, rfl, a, _, _, _, rfl, rfl, hS', iv, _, _, rfl, rfl, _, rfl, ite2 (fun e1 => ?_) (fun e1 => ?_)⟩
      case refine_2 =>
        exact ⟨_, rfl, iteT (bad fun ok => e1 (decide_eq_true ok.1))⟩
      have e1 := of_decide_eq_true e1
      refine ⟨.ref a, rfl, a, _, rfl, .inl hS', _, _, rfl, rfl, _, rfl, ?_⟩
      show if (!decide (Rm.g s i < ((vi s).length : Int))) = true then _ else _
      rw [List.length_map]
      refine ite2 (fun e2 => ?_) (fun e2 => ?_)
      · refine iteT (bad fun ok => ?_)
        have := ok.2.1
        rw [decide_eq_true this] at e2
        exact nomatch e2
      have e2 : Rm.g s i < (s.length : Int) := by
        rcases Bool.eq_false_or_eq_true (decide (Rm.g s i < (s.length : Int))) with z | z
        · exact of_decide_eq_true z
        · rw [z] at e2; exact absurd rfl e2
      -- some[k] == k
      refine ⟨.ref a, rfl, .int i, rfl, a, _, _, _, rfl, rfl, hS', iv, .int i, rfl, rfl, _, rfl, ite2 (fun e3 => ?_) (fun e3 => ?_)⟩
      · exact iteT (bad fun ok => ok.2.2.1 (V.int.inj (of_decide_eq_true e3)))
      have e3 : Rm.g s i ≠ (i : Int) := fun z => e3 (decide_eq_true (congrArg V.int z))
      -- some[some[k]] != k
      have iv2 : atI (vi s) (Rm.g s i) = some (.int (Rm.g s (Rm.g s i).toNat)) := vi_at (by omega) (by omega)
      refine ⟨.ref a, rfl, .ref a, rfl, .int i, rfl, a, _, _, _, rfl, rfl, hS', iv, a, _, _, _, rfl, rfl, hS', iv2, .int i, rfl, rfl, _, rfl, ite2 (fun e4 => ?_) (fun e4 => ?_)⟩
      · refine bad fun ok => ?_
        rw [ok.2.2.2, decide_eq_true rfl] at e4
        exact nomatch e4
      have e4 : Rm.g s (Rm.g s i).toNat = (i : Int) := by
        rcases Bool.eq_false_or_eq_true (decide (V.int (Rm.g s (Rm.g s i).toNat) = V.int (i : Int))) with z | z
        · exact V.int.inj (of_decide_eq_true z)
        · rw [z] at e4; exact absurd rfl e4
      have ok : Rm.OkAt s i := ⟨e1, e2, e3, e4⟩
      -- some[k] > k
      refine ⟨.ref a, rfl, .int i, rfl, a, _, _, _, rfl, rfl, hS', iv, .int i, rfl, _, _, rfl, rfl, _, rfl, ite2 (fun e5 => ?_) (fun e5 => ?_)⟩
      · have e5 := of_decide_eq_true e5
        refine ⟨.ref p, rfl, .inl ⟨rfl, _, sqL hp⟩, .int i, rfl, p, _, _, rfl, rfl, hp, ?_, ?_⟩
        · rw [vn_len]
          exact small63 (by have := Rm.opens_len s i; omega)
        · refine ⟨_, rfl, same_upd sm np, ?_, Rm.stage_push st ok e5⟩
          rw [upd_same, vn_push, Rm.opens_push st e5]
      · have e5 : Rm.g s i < (i : Int) := by
          have : ¬ (i : Int) < Rm.g s i := fun z => e5 (decide_eq_true z)
          omega
        obtain ⟨l, t, eo⟩ := Rm.opens_ne ok e5
        rw [eo] at hp
        refine ⟨.ref p, rfl, .inl ⟨rfl, _, sqL hp⟩, p, _, _, rfl, rfl, hp, vn_last l t, ?_⟩
        have sm2 := same_upd (o := .lst (vn l)) sm np
        rw [vn_drop]
        refine ⟨.ref a, rfl, .int i, rfl, a, _, _, _, rfl, rfl, sm2.seq hS, iv, rfl, _, rfl, ite2 (fun e6 => ?_) (fun e6 => ?_)⟩
        · have e6 : (t : Int) ≠ Rm.g s i := fun z => by
            rw [z, decide_eq_true rfl] at e6
            exact nomatch e6
          exact q false _ sm2 ⟨fun z => (nomatch z), fun G => absurd G.2.2 (Rm.stage_cross st ok e5 hi eo e6)⟩
        · have e6 : (t : Int) = Rm.g s i := by
            rcases Bool.eq_false_or_eq_true (decide (V.int (t : Int) = V.int (Rm.g s i))) with z | z
            · exact V.int.inj (of_decide_eq_true z)
            · rw [z] at e6; exact absurd rfl e6
          refine ⟨_, rfl, sm2, ?_, Rm.stage_pop st ok eo e6⟩
          rw [upd_same, Rm.opens_pop st ok e5 eo e6]
    · obtain ⟨y2, rfl, sm, hp, st⟩ := hP
      exact q true H' sm ⟨fun _ => Rm.stage_good hL st, fun _ => rfl⟩
end

end Rv

namespace Rv
open PySem PySem.Spec PyProof.Rows L2
open Rm (zs at')
/-! ### _law_cell_at -/
abbrev s_law_cell_at : Stmt := topS 40
theorem sc_law_cell_at : FnScope ["script", "k"] ["script", "k"] (defScope s_law_cell_at) := ⟨rfl, rfl, rfl, by decide +kernel, rfl, by decide +kernel, by decide +kernel⟩
def spCell (K : PySem.W.Frag) : Sp := fun vs H Q _ => ∃ (a : Addr) (ns : List Int) (k : Int), vs = [.ref a, .int k] ∧ SqL K H a (vi ns) ∧ 0 ≤ k ∧ ∀ c : Int, Q (.int c) H
section
variable {P : Program} {w : World} {K : PySem.W.Frag} {mg : Str → Option Value} {base : Heap}
theorem ok_law_cell_at (D : Dfn K mg "_law_cell_at" s_law_cell_at ["script", "k"]) (B : Blt mg) : Cal P w K mg base 1 "_law_cell_at" (spCell K) := by
  refine D.cal sc_law_cell_at (fun vs H Q E h => ?_) (fun f cdv A outer s0 H vs Q E hr h => ?_)
  · obtain ⟨a, ns, k, rfl, _⟩ := h
    rfl
  · obtain ⟨a, ns, k, rfl, hS, h0, q⟩ := h
    refine ⟨_, (pss_cons (ps_if (pt_cmpR op_lt (pv 1) (pe_callB call_len_seq (by rfl) B.len_ PySem.boot_len (pa_cons (pv 0) pa_nil)) (nomark _))
        (pss_one (ps_ret (pe_ix ix_list (pv 0) (pv 1) (fun _ _ => rfl))))
        pss_nil)
      (pss_one (ps_ret pe_int))), ?_⟩
    refine ⟨.int k, rfl, .ref a, rfl, a, _, rfl, .inl hS, _, _, rfl, rfl, _, rfl, ite2 (fun e => ?_) (fun e => ?_)⟩
    · have e := of_decide_eq_true e
      rw [List.length_map] at e
      exact ⟨.ref a, rfl, .int k, rfl, a, _, _, _, rfl, rfl, hS, vi_at (k := k.toNat) (by omega) (by omega), q _⟩
    · exact q 0
end

end Rv

namespace Rv
open PySem PySem.Spec PyProof.Rows L2
open Rm (zs at')
/-! ### _law_which: of which class the error is -/
abbrev s_law_which : Stmt := topS 41
theorem sc_law_which : FnScope ["e", "first"] ["e"] (defScope s_law_which) := ⟨rfl, rfl, rfl, by decide +kernel, rfl, by decide +kernel, by decide +kernel⟩
def spW (K : PySem.W.Frag) (CA CN CU CT CR : Addr) (a : Addr) (cls : Value) (d : Option Addr) : Sp := fun vs H Q _ => ∃ (D : Addr) (b0 b1 b2 b3 b4 : Bool), cls = .ref D ∧ d = none ∧ ExcC K D ∧ vs = [.ref a] ∧
  PySem.W.kitOne K (.ref D) (.ref CA) = some b0 ∧ PySem.W.kitOne K (.ref D) (.ref CN) = some b1 ∧ PySem.W.kitOne K (.ref D) (.ref CU) = some b2 ∧ PySem.W.kitOne K (.ref D) (.ref CT) = some b3 ∧ PySem.W.kitOne K (.ref D) (.ref CR) = some b4 ∧
  PySem.W.kitOne K (.ref D) (.type "ValueError") = some true ∧ ∀ l H', H' l = some (.lst [.bl b0, .bl b1, .bl b2, .bl b3, .bl b4, .bl true]) → Q (.ref l) H'
def spWhich (K : PySem.W.Frag) (CA CN CU CT CR : Addr) (p : Addr × Obj) : Sp := fun vs H Q E => ∃ cls d, Zc cls d p.2 ∧ (∃ vs, p.2.data = .fields vs) ∧ spW K CA CN CU CT CR p.1 cls d vs H Q E
section
variable {P : Program} {w : World} {K : PySem.W.Frag} {mg : Str → Option Value} {base : Heap}
theorem ok_law_which {C_NoArcs C_NoNumber C_Unlike C_TooMany C_NotRead : Addr} (D : Dfn K mg "_law_which" s_law_which ["e"]) (B : Blt mg) (g_NoArcs : mg "NoArcs" = some (.ref C_NoArcs)) (g_NoNumber : mg "NoNumber" = some (.ref C_NoNumber)) (g_Unlike : mg "Unlike" = some (.ref C_Unlike)) (g_TooMany : mg "TooMany" = some (.ref C_TooMany)) (g_NotRead : mg "NotRead" = some (.ref C_NotRead)) :
    CalP P w K mg base 1 "_law_which" (spWhich K C_NoArcs C_NoNumber C_Unlike C_TooMany C_NotRead) := by
  refine D.calP sc_law_which (fun p vs H Q E h => ?_) (fun f cdv A outer s0 H vs Q E p hr h => ?_)
  · obtain ⟨cls, d, _, _, D, b0, b1, b2, b3, b4, _, _, _, rfl, _⟩ := h
    rfl
  · obtain ⟨cls, d, hz, hf, D, b0, b1, b2, b3, b4, rfl, rfl, hC, rfl, k0, k1, k2, k3, k4, k5, q⟩ := h
    refine ⟨_, (pss_cons (ps_set (i := 1) sc_law_which.nd rfl (.inl rfl) (pe_lst (pa_cons (pe_callB (call_isP hC (List.mem_singleton.mpr rfl) hz hf) (by rfl) B.isinstance_ (by decide +kernel) (pa_cons (pv 0) (pa_cons (pe_glob (v := .ref C_NoArcs) (by rfl) g_NoArcs rfl) pa_nil))) (pa_cons (pe_callB (call_isP hC (List.mem_singleton.mpr rfl) hz hf) (by rfl) B.isinstance_ (by decide +kernel) (pa_cons (pv 0) (pa_cons (pe_glob (v := .ref C_NoNumber) (by rfl) g_NoNumber rfl) pa_nil))) (pa_cons (pe_callB (call_isP hC (List.mem_singleton.mpr rfl) hz hf) (by rfl) B.isinstance_ (by decide +kernel) (pa_cons (pv 0) (pa_cons (pe_glob (v := .ref C_Unlike) (by rfl) g_Unlike rfl) pa_nil))) pa_nil)))))
      (pss_one (ps_ret (pe_op op_cat (pv 1) (pe_lst (pa_cons (pe_callB (call_isP hC (List.mem_singleton.mpr rfl) hz hf) (by rfl) B.isinstance_ (by decide +kernel) (pa_cons (pv 0) (pa_cons (pe_glob (v := .ref C_TooMany) (by rfl) g_TooMany rfl) pa_nil))) (pa_cons (pe_callB (call_isP hC (List.mem_singleton.mpr rfl) hz hf) (by rfl) B.isinstance_ (by decide +kernel) (pa_cons (pv 0) (pa_cons (pe_glob (v := .ref C_NotRead) (by rfl) g_NotRead rfl) pa_nil))) (pa_cons (pe_callB (call_isP hC (List.mem_singleton.mpr rfl) hz hf) (by rfl) B.isinstance_ (by decide +kernel) (pa_cons (pv 0) (pa_cons (pe_bltn (v := .ty "ValueError") (by rfl) B.ValueError_ (by decide +kernel) rfl) pa_nil))) pa_nil)))))))), ?_⟩
    refine ⟨.ref p.1, rfl, .ref C_NoArcs, .ref C_NoArcs, b0, rfl, fun u hu => by cases hu; rfl, k0, .ref p.1, rfl, .ref C_NoNumber, .ref C_NoNumber, b1, rfl, fun u hu => by cases hu; rfl, k1, .ref p.1, rfl, .ref C_Unlike, .ref C_Unlike, b2, rfl, fun u hu => by cases hu; rfl, k2, by show 3 ≤ sizeLine; decide, fun x nx => ?_⟩
    have hx : upd H x (.lst [V.bl b0, V.bl b1, V.bl b2]) x = some (.lst [V.bl b0, V.bl b1, V.bl b2]) := upd_same
    generalize upd H x (.lst [V.bl b0, V.bl b1, V.bl b2]) = H1 at hx
    refine ⟨.ref x, rfl, .ref p.1, rfl, .ref C_TooMany, .ref C_TooMany, b3, rfl, fun u hu => by cases hu; rfl, k3, .ref p.1, rfl, .ref C_NotRead, .ref C_NotRead, b4, rfl, fun u hu => by cases hu; rfl, k4, .ref p.1, rfl, .ty "ValueError", .type "ValueError", true, rfl, fun u hu => by cases hu; rfl, k5, by show 3 ≤ sizeLine; decide, fun y ny => ?_⟩
    refine ⟨x, y, _, _, rfl, rfl, same_new ny _ _ hx, upd_same, by show 3 + 3 ≤ sizeLine; decide, fun l nl => ?_⟩
    exact q l _ upd_same
end

end Rv

namespace Rv
open PySem PySem.Spec PyProof.Rows L2
open Rm (zs at')
/-! ### what refuses -/
abbrev s_ask : Stmt := topS 10
theorem sc_ask : FnScope ["arcs"] ["arcs"] (defScope s_ask) := ⟨rfl, rfl, rfl, by decide +kernel, rfl, by decide +kernel, by decide +kernel⟩
abbrev s_ask_both : Stmt := topS 25
theorem sc_ask_both : FnScope ["one", "other"] ["one", "other"] (defScope s_ask_both) := ⟨rfl, rfl, rfl, by decide +kernel, rfl, by decide +kernel, by decide +kernel⟩
abbrev s_roads : Stmt := topS 27
theorem sc_roads : FnScope ["above", "below"] ["above", "below"] (defScope s_roads) := ⟨rfl, rfl, rfl, by decide +kernel, rfl, by decide +kernel, by decide +kernel⟩
abbrev s_many_roads : Stmt := topS 28
theorem sc_many_roads : FnScope ["above", "below"] ["above", "below"] (defScope s_many_roads) := ⟨rfl, rfl, rfl, by decide +kernel, rfl, by decide +kernel, by decide +kernel⟩
abbrev s_laid : Stmt := topS 37
theorem sc_laid : FnScope ["one", "other", "many", "found", "met", "k", "told", "end", "rings", "start", "lower"] ["one", "other"] (defScope s_laid) := ⟨rfl, rfl, rfl, by decide +kernel, rfl, by decide +kernel, by decide +kernel⟩
abbrev s_beside : Stmt := topS 15
theorem sc_beside : FnScope ["one", "other", "end"] ["one", "other"] (defScope s_beside) := ⟨rfl, rfl, rfl, by decide +kernel, rfl, by decide +kernel, by decide +kernel⟩
abbrev s_covered : Stmt := topS 16
theorem sc_covered : FnScope ["arcs", "end"] ["arcs"] (defScope s_covered) := ⟨rfl, rfl, rfl, by decide +kernel, rfl, by decide +kernel, by decide +kernel⟩
abbrev s_word_of : Stmt := topS 11
theorem sc_word_of : FnScope ["arcs", "k"] ["arcs"] (defScope s_word_of) := ⟨rfl, rfl, rfl, by decide +kernel, rfl, by decide +kernel, by decide +kernel⟩
abbrev s_turned : Stmt := topS 13
theorem sc_turned : FnScope ["arcs", "by", "many", "k"] ["arcs", "by"] (defScope s_turned) := ⟨rfl, rfl, rfl, by decide +kernel, rfl, by decide +kernel, by decide +kernel⟩
abbrev s_mirrored : Stmt := topS 14
theorem sc_mirrored : FnScope ["arcs", "other"] ["arcs"] (defScope s_mirrored) := ⟨rfl, rfl, rfl, by decide +kernel, rfl, by decide +kernel, by decide +kernel⟩
abbrev s_number_of : Stmt := topS 22
theorem sc_number_of : FnScope ["arcs", "rows", "number", "depth", "k"] ["arcs"] (defScope s_number_of) := ⟨rfl, rfl, rfl, by decide +kernel, rfl, by decide +kernel, by decide +kernel⟩
abbrev s_one_road : Stmt := topS 31
theorem sc_one_road : FnScope ["above", "k", "at", "rest", "below", "first", "last", "found", "ends", "near", "end"] ["above"] (defScope s_one_road) := ⟨rfl, rfl, rfl, by decide +kernel, rfl, by decide +kernel, by decide +kernel⟩
abbrev s_closed : Stmt := topS 38
theorem sc_closed : FnScope ["arcs"] ["arcs"] (defScope s_closed) := ⟨rfl, rfl, rfl, by decide +kernel, rfl, by decide +kernel, by decide +kernel⟩
def spAskX (K : PySem.W.Frag) (CA : Addr) : Sp := fun vs H Q E => ∃ (a : Addr) (s : List Int), vs = [.ref a] ∧ SqL K H a (vi s) ∧ s.length ≤ 200 ∧ (Rm.Good s → ∀ H', Same H H' → Q .non H') ∧ (¬ Rm.Good s → ∀ H', E (.ref CA) none H')
/-- of two rows, one tells no arcs, or else they are refused otherwise -/
def spTwoX (K : PySem.W.Frag) (CA C : Addr) (R : List Int → List Int → Prop) : Sp := fun vs H Q E => ∃ (a b : Addr) (s t : List Int), vs = [.ref a, .ref b] ∧ SqL K H a (vi s) ∧ SqL K H b (vi t) ∧ s.length ≤ 200 ∧ t.length ≤ 200 ∧
  (¬ Rm.Good s ∨ ¬ Rm.Good t → ∀ H', E (.ref CA) none H') ∧ (Rm.Good s → Rm.Good t → R s t ∧ ∀ H', E (.ref C) none H')
def spOneX (K : PySem.W.Frag) (CA : Addr) : Sp := fun vs H Q E => ∃ (a : Addr) (s : List Int), vs = [.ref a] ∧ SqL K H a (vi s) ∧ s.length ≤ 200 ∧ ¬ Rm.Good s ∧ ∀ H', E (.ref CA) none H'
def spTurnX (K : PySem.W.Frag) (CA : Addr) : Sp := fun vs H Q E => ∃ (a : Addr) (s : List Int) (z : Int), vs = [.ref a, .int z] ∧ SqL K H a (vi s) ∧ s.length ≤ 200 ∧ ¬ Rm.Good s ∧ ∀ H', E (.ref CA) none H'
def spCoverX (K : PySem.W.Frag) (CA C : Addr) : Sp := fun vs H Q E => ∃ (a : Addr) (s : List Int), vs = [.ref a] ∧ SqL K H a (vi s) ∧ s.length ≤ 200 ∧ (¬ Rm.Good s → ∀ H', E (.ref CA) none H') ∧ (Rm.Good s → s.length = 40 ∧ ∀ H', E (.ref C) none H')
section
variable {P : Program} {w : World} {K : PySem.W.Frag} {mg : Str → Option Value} {base : Heap} {C_NoArcs C_Unlike C_TooMany : Addr}
theorem ok_ask (D : Dfn K mg "ask" s_ask ["arcs"]) (B : Blt mg) (c_is_arcs : Cal P w K mg base 1 "is_arcs" (spIsArcs K)) (x_NoArcs : ExcF K mg "NoArcs" C_NoArcs) : CalX P w K mg base 2 "ask" (spAskX K C_NoArcs) := by
  refine D.calX sc_ask (fun vs H Q E h => ?_) (fun f cdv A outer s0 H vs Q E hr h => ?_)
  · obtain ⟨a, s, rfl, _⟩ := h
    rfl
  · obtain ⟨a, s, rfl, hS, hl, q1, q2⟩ := h
    refine ⟨_, (pss_one (ps_if (pt_not (pt_val (pe_c c_is_arcs hr (by omega) (by rfl) (pa_cons (pv 0) pa_nil))))
        (pss_one (ps_raise rfl (takes_of rfl rfl rfl rfl) (pmk_own PySem.F.excBase_ValueError x_NoArcs.x x_NoArcs.g x_NoArcs.k (raises_own x_NoArcs.b x_NoArcs.t) (by exact rfl))))
        pss_nil)), ?_⟩
    refine ⟨.ref a, rfl, a, s, rfl, hS, by omega, fun b H1 s1 hb => ⟨b, rfl, ?_⟩⟩
    cases b with
    | true => exact iteF (q1 (hb.mp rfl) H1 s1)
    | false => exact iteT (q2 (fun g => nomatch hb.mpr g) H1)
theorem ok_ask_both (D : Dfn K mg "ask_both" s_ask_both ["one", "other"]) (B : Blt mg) (c_ask : CalX P w K mg base 2 "ask" (spAskX K C_NoArcs)) (x_Unlike : ExcF K mg "Unlike" C_Unlike) : CalX P w K mg base 3 "ask_both" (spTwoX K C_NoArcs C_Unlike fun s t => s.length ≠ t.length) := by
  refine D.calX sc_ask_both (fun vs H Q E h => ?_) (fun f cdv A outer s0 H vs Q E hr h => ?_)
  · obtain ⟨a, b, s, t, rfl, _⟩ := h
    rfl
  · obtain ⟨a, b, s, t, rfl, hS, hT, hl, hl2, q1, q2⟩ := h
    refine ⟨_, (pss_cons (ps_expr (pe_cX c_ask (takes_of rfl rfl rfl rfl) hr (by omega) (by rfl) (pa_cons (pv 0) pa_nil)))
      (pss_cons (ps_expr (pe_cX c_ask (takes_of rfl rfl rfl rfl) hr (by omega) (by rfl) (pa_cons (pv 1) pa_nil)))
      (pss_one (ps_if (pt_cmpR op_ne (pe_callB call_len_seq (by rfl) B.len_ PySem.boot_len (pa_cons (pv 0) pa_nil)) (pe_callB call_len_seq (by rfl) B.len_ PySem.boot_len (pa_cons (pv 1) pa_nil)) (nomark _))
        (pss_one (ps_raise rfl (takes_of rfl rfl rfl rfl) (pmk_own PySem.F.excBase_ValueError x_Unlike.x x_Unlike.g x_Unlike.k (raises_own x_Unlike.b x_Unlike.t) (by exact rfl))))
        pss_nil)))), ?_⟩
    refine ⟨.ref a, rfl, a, s, rfl, hS, hl, fun g1 H1 s1 => ?_, fun g1 H1 => q1 (.inl g1) H1⟩
    refine ⟨.ref b, rfl, b, t, rfl, s1.seq hT, hl2, fun g2 H2 s2 => ?_, fun g2 H2 => q1 (.inr g2) H2⟩
    obtain ⟨r, q⟩ := q2 g1 g2
    refine ⟨.ref a, rfl, a, _, rfl, .inl (s2.seq (s1.seq hS)), .ref b, rfl, b, _, rfl, .inl (s2.seq (s1.seq hT)), rfl, _, rfl, ?_⟩
    rw [decide_eq_false (fun z => r (by have := V.int.inj z; simp at this; omega))]
    exact iteT (q H2)
theorem ok_roads (D : Dfn K mg "roads" s_roads ["above", "below"]) (B : Blt mg) (c_ask_both : CalX P w K mg base 3 "ask_both" (spTwoX K C_NoArcs C_Unlike fun s t => s.length ≠ t.length)) : CalX P w K mg base 4 "roads" (spTwoX K C_NoArcs C_Unlike fun s t => s.length ≠ t.length) := by
  refine D.calX sc_roads (fun vs H Q E h => ?_) (fun f cdv A outer s0 H vs Q E hr h => ?_)
  · obtain ⟨a, b, s, t, rfl, _⟩ := h
    rfl
  · obtain ⟨a, b, s, t, rfl, h⟩ := h
    refine ⟨_, (pss_cons (ps_expr (pe_cX c_ask_both (takes_of rfl rfl rfl rfl) hr (by omega) (by rfl) (pa_cons (pv 0) (pa_cons (pv 1) pa_nil))))
      pss_dead), ?_⟩
    exact ⟨.ref a, rfl, .ref b, rfl, a, b, s, t, rfl, h⟩
theorem ok_many_roads (D : Dfn K mg "many_roads" s_many_roads ["above", "below"]) (B : Blt mg) (c_ask_both : CalX P w K mg base 3 "ask_both" (spTwoX K C_NoArcs C_Unlike fun s t => s.length ≠ t.length)) : CalX P w K mg base 4 "many_roads" (spTwoX K C_NoArcs C_Unlike fun s t => s.length ≠ t.length) := by
  refine D.calX sc_many_roads (fun vs H Q E h => ?_) (fun f cdv A outer s0 H vs Q E hr h => ?_)
  · obtain ⟨a, b, s, t, rfl, _⟩ := h
    rfl
  · obtain ⟨a, b, s, t, rfl, h⟩ := h
    refine ⟨_, (pss_cons (ps_expr (pe_cX c_ask_both (takes_of rfl rfl rfl rfl) hr (by omega) (by rfl) (pa_cons (pv 0) (pa_cons (pv 1) pa_nil))))
      pss_dead), ?_⟩
    exact ⟨.ref a, rfl, .ref b, rfl, a, b, s, t, rfl, h⟩
theorem ok_laid (D : Dfn K mg "laid" s_laid ["one", "other"]) (B : Blt mg) (c_ask_both : CalX P w K mg base 3 "ask_both" (spTwoX K C_NoArcs C_Unlike fun s t => s.length ≠ t.length)) : CalX P w K mg base 4 "laid" (spTwoX K C_NoArcs C_Unlike fun s t => s.length ≠ t.length) := by
  refine D.calX sc_laid (fun vs H Q E h => ?_) (fun f cdv A outer s0 H vs Q E hr h => ?_)
  · obtain ⟨a, b, s, t, rfl, _⟩ := h
    rfl
  · obtain ⟨a, b, s, t, rfl, h⟩ := h
    refine ⟨_, (pss_cons (ps_expr (pe_cX c_ask_both (takes_of rfl rfl rfl rfl) hr (by omega) (by rfl) (pa_cons (pv 0) (pa_cons (pv 1) pa_nil))))
      pss_dead), ?_⟩
    exact ⟨.ref a, rfl, .ref b, rfl, a, b, s, t, rfl, h⟩
theorem ok_beside {tM : Tok} (D : Dfn K mg "beside" s_beside ["one", "other"]) (B : Blt mg) (g_MOST : mg "MOST" = some (.int 20 tM)) (c_ask : CalX P w K mg base 2 "ask" (spAskX K C_NoArcs)) (x_TooMany : ExcF K mg "TooMany" C_TooMany) : CalX P w K mg base 3 "beside" (spTwoX K C_NoArcs C_TooMany fun s t => 40 < s.length + t.length) := by
  refine D.calX sc_beside (fun vs H Q E h => ?_) (fun f cdv A outer s0 H vs Q E hr h => ?_)
  · obtain ⟨a, b, s, t, rfl, _⟩ := h
    rfl
  · obtain ⟨a, b, s, t, rfl, hS, hT, hl, hl2, q1, q2⟩ := h
    refine ⟨_, (pss_cons (ps_expr (pe_cX c_ask (takes_of rfl rfl rfl rfl) hr (by omega) (by rfl) (pa_cons (pv 0) pa_nil)))
      (pss_cons (ps_expr (pe_cX c_ask (takes_of rfl rfl rfl rfl) hr (by omega) (by rfl) (pa_cons (pv 1) pa_nil)))
      (pss_cons (ps_if (pt_cmpR op_gt (pe_op op_add (pe_callB call_len_seq (by rfl) B.len_ PySem.boot_len (pa_cons (pv 0) pa_nil)) (pe_callB call_len_seq (by rfl) B.len_ PySem.boot_len (pa_cons (pv 1) pa_nil))) (pe_op op_mul pe_int (pe_glob (v := .int 20) (by rfl) g_MOST ⟨_, rfl⟩)) (nomark _))
        (pss_one (ps_raise rfl (takes_of rfl rfl rfl rfl) (pmk_own PySem.F.excBase_ValueError x_TooMany.x x_TooMany.g x_TooMany.k (raises_own x_TooMany.b x_TooMany.t) (by exact rfl))))
        pss_nil)
      pss_dead))), ?_⟩
    refine ⟨.ref a, rfl, a, s, rfl, hS, hl, fun g1 H1 s1 => ?_, fun g1 H1 => q1 (.inl g1) H1⟩
    refine ⟨.ref b, rfl, b, t, rfl, s1.seq hT, hl2, fun g2 H2 s2 => ?_, fun g2 H2 => q1 (.inr g2) H2⟩
    obtain ⟨r, q⟩ := q2 g1 g2
    refine ⟨.ref a, rfl, a, _, rfl, .inl (s2.seq (s1.seq hS)), .ref b, rfl, b, _, rfl, .inl (s2.seq (s1.seq hT)), _, _, rfl, rfl, _, _, rfl, rfl, .inl ⟨by decide, by decide⟩, _, _, rfl, rfl, _, rfl, ?_⟩
    rw [decide_eq_true (by rw [List.length_map, List.length_map]; omega)]
    exact iteT (q H2)
theorem ok_covered {tM : Tok} (D : Dfn K mg "covered" s_covered ["arcs"]) (B : Blt mg) (g_MOST : mg "MOST" = some (.int 20 tM)) (c_ask : CalX P w K mg base 2 "ask" (spAskX K C_NoArcs)) (x_TooMany : ExcF K mg "TooMany" C_TooMany) : CalX P w K mg base 3 "covered" (spCoverX K C_NoArcs C_TooMany) := by
  refine D.calX sc_covered (fun vs H Q E h => ?_) (fun f cdv A outer s0 H vs Q E hr h => ?_)
  · obtain ⟨a, s, rfl, _⟩ := h
    rfl
  · obtain ⟨a, s, rfl, hS, hl, q1, q2⟩ := h
    refine ⟨_, (pss_cons (ps_expr (pe_cX c_ask (takes_of rfl rfl rfl rfl) hr (by omega) (by rfl) (pa_cons (pv 0) pa_nil)))
      (pss_cons (ps_if (pt_cmpR op_eq (pe_callB call_len_seq (by rfl) B.len_ PySem.boot_len (pa_cons (pv 0) pa_nil)) (pe_op op_mul pe_int (pe_glob (v := .int 20) (by rfl) g_MOST ⟨_, rfl⟩)) (nomark _))
        (pss_one (ps_raise rfl (takes_of rfl rfl rfl rfl) (pmk_own PySem.F.excBase_ValueError x_TooMany.x x_TooMany.g x_TooMany.k (raises_own x_TooMany.b x_TooMany.t) (by exact rfl))))
        pss_nil)
      pss_dead)), ?_⟩
    refine ⟨.ref a, rfl, a, s, rfl, hS, hl, fun g1 H1 s1 => ?_, fun g1 H1 => q1 g1 H1⟩
    obtain ⟨r, q⟩ := q2 g1
    refine ⟨.ref a, rfl, a, _, rfl, .inl (s1.seq hS), _, _, rfl, rfl, .inl ⟨by decide, by decide⟩, rfl, _, rfl, ?_⟩
    rw [decide_eq_true (by rw [List.length_map, r]; rfl)]
    exact iteT (q H1)
theorem ok_word_of (D : Dfn K mg "word_of" s_word_of ["arcs"]) (B : Blt mg) (c_ask : CalX P w K mg base 2 "ask" (spAskX K C_NoArcs)) : CalX P w K mg base 3 "word_of" (spOneX K C_NoArcs) := by
  refine D.calX sc_word_of (fun vs H Q E h => ?_) (fun f cdv A outer s0 H vs Q E hr h => ?_)
  · obtain ⟨a, s, rfl, _⟩ := h
    rfl
  · obtain ⟨a, s, rfl, hS, hl, g, q⟩ := h
    refine ⟨_, (pss_cons (ps_expr (pe_cX c_ask (takes_of rfl rfl rfl rfl) hr (by omega) (by rfl) (pa_cons (pv 0) pa_nil)))
      pss_dead), ?_⟩
    exact ⟨.ref a, rfl, a, s, rfl, hS, hl, fun z => absurd z g, fun _ H1 => q H1⟩
theorem ok_mirrored (D : Dfn K mg "mirrored" s_mirrored ["arcs"]) (B : Blt mg) (c_ask : CalX P w K mg base 2 "ask" (spAskX K C_NoArcs)) : CalX P w K mg base 3 "mirrored" (spOneX K C_NoArcs) := by
  refine D.calX sc_mirrored (fun vs H Q E h => ?_) (fun f cdv A outer s0 H vs Q E hr h => ?_)
  · obtain ⟨a, s, rfl, _⟩ := h
    rfl
  · obtain ⟨a, s, rfl, hS, hl, g, q⟩ := h
    refine ⟨_, (pss_cons (ps_expr (pe_cX c_ask (takes_of rfl rfl rfl rfl) hr (by omega) (by rfl) (pa_cons (pv 0) pa_nil)))
      pss_dead), ?_⟩
    exact ⟨.ref a, rfl, a, s, rfl, hS, hl, fun z => absurd z g, fun _ H1 => q H1⟩
theorem ok_number_of (D : Dfn K mg "number_of" s_number_of ["arcs"]) (B : Blt mg) (c_ask : CalX P w K mg base 2 "ask" (spAskX K C_NoArcs)) : CalX P w K mg base 3 "number_of" (spOneX K C_NoArcs) := by
  refine D.calX sc_number_of (fun vs H Q E h => ?_) (fun f cdv A outer s0 H vs Q E hr h => ?_)
  · obtain ⟨a, s, rfl, _⟩ := h
    rfl
  · obtain ⟨a, s, rfl, hS, hl, g, q⟩ := h
    refine ⟨_, (pss_cons (ps_expr (pe_cX c_ask (takes_of rfl rfl rfl rfl) hr (by omega) (by rfl) (pa_cons (pv 0) pa_nil)))
      pss_dead), ?_⟩
    exact ⟨.ref a, rfl, a, s, rfl, hS, hl, fun z => absurd z g, fun _ H1 => q H1⟩
theorem ok_one_road (D : Dfn K mg "one_road" s_one_road ["above"]) (B : Blt mg) (c_ask : CalX P w K mg base 2 "ask" (spAskX K C_NoArcs)) : CalX P w K mg base 3 "one_road" (spOneX K C_NoArcs) := by
  refine D.calX sc_one_road (fun vs H Q E h => ?_) (fun f cdv A outer s0 H vs Q E hr h => ?_)
  · obtain ⟨a, s, rfl, _⟩ := h
    rfl
  · obtain ⟨a, s, rfl, hS, hl, g, q⟩ := h
    refine ⟨_, (pss_cons (ps_expr (pe_cX c_ask (takes_of rfl rfl rfl rfl) hr (by omega) (by rfl) (pa_cons (pv 0) pa_nil)))
      pss_dead), ?_⟩
    exact ⟨.ref a, rfl, a, s, rfl, hS, hl, fun z => absurd z g, fun _ H1 => q H1⟩
theorem ok_closed (D : Dfn K mg "closed" s_closed ["arcs"]) (B : Blt mg) (c_ask : CalX P w K mg base 2 "ask" (spAskX K C_NoArcs)) : CalX P w K mg base 3 "closed" (spOneX K C_NoArcs) := by
  refine D.calX sc_closed (fun vs H Q E h => ?_) (fun f cdv A outer s0 H vs Q E hr h => ?_)
  · obtain ⟨a, s, rfl, _⟩ := h
    rfl
  · obtain ⟨a, s, rfl, hS, hl, g, q⟩ := h
    refine ⟨_, (pss_cons (ps_expr (pe_cX c_ask (takes_of rfl rfl rfl rfl) hr (by omega) (by rfl) (pa_cons (pv 0) pa_nil)))
      pss_dead), ?_⟩
    exact ⟨.ref a, rfl, a, s, rfl, hS, hl, fun z => absurd z g, fun _ H1 => q H1⟩
theorem ok_turned (D : Dfn K mg "turned" s_turned ["arcs", "by"]) (B : Blt mg) (c_ask : CalX P w K mg base 2 "ask" (spAskX K C_NoArcs)) : CalX P w K mg base 3 "turned" (spTurnX K C_NoArcs) := by
  refine D.calX sc_turned (fun vs H Q E h => ?_) (fun f cdv A outer s0 H vs Q E hr h => ?_)
  · obtain ⟨a, s, z, rfl, _⟩ := h
    rfl
  · obtain ⟨a, s, z, rfl, hS, hl, g, q⟩ := h
    refine ⟨_, (pss_cons (ps_expr (pe_cX c_ask (takes_of rfl rfl rfl rfl) hr (by omega) (by rfl) (pa_cons (pv 0) pa_nil)))
      pss_dead), ?_⟩
    exact ⟨.ref a, rfl, a, s, rfl, hS, hl, fun z => absurd z g, fun _ H1 => q H1⟩
end

end Rv

namespace Rv
open PySem PySem.Spec PyProof.Rows L2
open Rm (zs at')
/-! ### ways, many, arcs_at -/
abbrev s_ways : Stmt := topS 19
theorem sc_ways : FnScope ["size", "rows", "left", "row", "depth"] ["size"] (defScope s_ways) := ⟨rfl, rfl, rfl, by decide +kernel, rfl, by decide +kernel, by decide +kernel⟩
def waysL (n : Nat) : List (List Nat) := (List.range (2 * n + 1)).map (Rm.rowW (2 * n + 2))
def spWays : Sp := fun vs H Q _ => ∃ n : Nat, vs = [.int (n : Int)] ∧ n ≤ 20 ∧ NewLL H Q (waysL n)
theorem waysL_get {n l : Nat} (h : l < 2 * n + 1) : (waysL n)[l]? = some (Rm.rowW (2 * n + 2) l) := by
  unfold waysL
  rw [List.getElem?_map, List.getElem?_range h]
  rfl
theorem waysL_len (n : Nat) : (waysL n).length = 2 * n + 1 := by simp [waysL]
/-- a cell of the rows -/
theorem ways_cell {H : Hp} {n l d : Nat} {rs : List Addr} (h : HL H rs (waysL n)) (hl : l < 2 * n + 1) (hd : d < 2 * n + 2) : ∃ r, (∀ z : Int, z = (l : Int) → atI (vr rs) z = some (.ref r)) ∧ H r = some (.lst (vn (Rm.rowW (2 * n + 2) l))) ∧ ∀ z : Int, z = (d : Int) → atI (vn (Rm.rowW (2 * n + 2) l)) z = some (.int ((Rm.w l d : Nat) : Int)) := by
  have hrl : l < rs.length := by rw [h.1, waysL_len]; exact hl
  refine ⟨rs[l], fun z e => at_of e (by simp [vr, hrl]), h.2 l _ _ (List.getElem?_eq_getElem hrl) (waysL_get hl), fun z e => ?_⟩
  rw [vn_at (k := d) (by rw [Rm.rowW_len]; exact hd) e, Rm.rowW_at hd]
section
variable {P : Program} {w : World} {K : PySem.W.Frag} {mg : Str → Option Value} {base : Heap}
theorem ok_ways (D : Dfn K mg "ways" s_ways ["size"]) (B : Blt mg) : Cal P w K mg base 1 "ways" spWays := by
  refine D.cal sc_ways (fun vs H Q E h => ?_) (fun f cdv A outer s0 H vs Q E hr h => ?_)
  · obtain ⟨n, rfl, _⟩ := h
    rfl
  · obtain ⟨n, rfl, h20, q⟩ := h
    refine ⟨_, (pss_cons (ps_set (i := 1) sc_ways.nd rfl (.inl rfl) (pe_lst (pa_cons (pe_op op_cat (pe_lst (pa_cons pe_int pa_nil)) (pe_op op_rep (pe_lst (pa_cons pe_int pa_nil)) (pe_op op_add (pe_op op_mul pe_int (pv 0)) pe_int))) pa_nil)))
      (pss_cons (ps_for PassesOwn.never rfl (pi_range2 (by rfl) B.range_ (pa_cons pe_int (pa_cons (pe_op op_add (pe_op op_mul pe_int (pv 0)) pe_int) pa_nil))) (pg_name (i := 2) sc_ways.nd rfl (.inl rfl))
        (pss_cons (ps_set (i := 3) sc_ways.nd rfl (.inl rfl) (pe_lst pa_nil))
        (pss_cons (ps_for PassesOwn.never rfl (pi_range1 (by rfl) B.range_ (pa_cons (pe_op op_add (pe_op op_mul pe_int (pv 0)) pe_int) pa_nil)) (pg_name (i := 4) sc_ways.nd rfl (.inl rfl))
          (pss_one (ps_expr (pe_bm PySem.F.plainAttrs_list PySem.F.slot_list_append PySem.F.type_list_append mt_append (pv 3) (pa_cons (pe_op op_add (pe_ix ix_list (pe_ix ix_list (pv 1) (pe_un un_neg pe_int) (fun _ _ => rfl)) (pe_op op_add (pv 4) pe_int) (fun _ _ => rfl)) (pe_ifExp (pt_cmpR op_gt (pv 4) pe_int (nomark _)) (pe_ix ix_list (pe_ix ix_list (pv 1) (pe_un un_neg pe_int) (fun _ _ => rfl)) (pe_op op_sub (pv 4) pe_int) (fun _ _ => rfl)) pe_int)) pa_nil)))))
        (pss_one (ps_expr (pe_bm PySem.F.plainAttrs_list PySem.F.slot_list_append PySem.F.type_list_append mt_append (pv 1) (pa_cons (pe_op op_cat (pv 3) (pe_lst (pa_cons pe_int pa_nil))) pa_nil)))))))
      (pss_one (ps_ret (pv 1))))), ?_⟩
    -- rows
    refine ⟨by show 1 ≤ sizeLine; decide, fun x nx => ⟨by show 1 ≤ sizeLine; decide, fun y ny => ⟨.int n, rfl, 2, n, rfl, rfl, .inl ⟨by decide, by decide⟩, _, _, rfl, rfl, y, _, _, rfl, rfl, upd_same, by omega, by omega, ?_, fun z nz => ?_⟩⟩⟩
    · rw [show (2 * (n : Int) + 1).toNat = 2 * n + 1 by omega]
      exact small63' (by show 1 * (2 * n + 1) ≤ _; omega)
    rw [show (2 * (n : Int) + 1).toNat = 2 * n + 1 by omega, rep1, vn_rep]
    have sx := same_new (o := .lst [V.int 1]) nx
    have sy := same_new (o := .lst [V.int 0]) ny
    have sz := same_new (o := .lst (vn (List.replicate (2 * n + 1) 0))) nz
    refine ⟨x, z, _, _, rfl, rfl, sz _ _ (sy _ _ upd_same), upd_same, ?_, fun t nt => ?_⟩
    · rw [vn_len, List.length_replicate]
      exact small63' (by show 1 + _ ≤ _; omega)
    have e0 : [V.int 1] ++ vn (List.replicate (2 * n + 1) 0) = vn (Rm.rowW (2 * n + 2) 0) := by
      have : Rm.rowW (2 * n + 2) 0 = 1 :: List.replicate (2 * n + 1) 0 := by
        apply List.ext_getElem
        · simp [Rm.rowW]
        · intro i h1 h2
          simp [Rm.rowW]
          show (if i = 0 then 1 else 0) = _
          cases i with
          | zero => rfl
          | succ i => simp
      rw [this]
      simp [vn, vi, zs]
    rw [e0]
    have st := same_new (o := .lst (vn (Rm.rowW (2 * n + 2) 0))) nt
    refine ⟨by show 1 ≤ sizeLine; decide, fun p np => ?_⟩
    have sp := same_new (o := .lst [V.ref t]) np
    have ht := sp _ _ (upd_same (H := (upd (upd (upd H x (.lst [V.int 1])) y (.lst [V.int 0])) z (.lst (vn (List.replicate (2 * n + 1) 0))))) (a := t) (o := .lst (vn (Rm.rowW (2 * n + 2) 0))))
    have S1 := (((sx.trans sy).trans sz).trans st).trans sp
    have n1 : H t = none := sx.free (sy.free (sz.free nt))
    have n2 : H p = none := sx.free (sy.free (sz.free (st.free np)))
    have hpt : p ∉ [t] := by
      have : t ≠ p := ne_of_none upd_same np
      simp [this.symm]
    have hp := upd_same (H := upd (upd (upd (upd H x (.lst [V.int 1])) y (.lst [V.int 0])) z (.lst (vn (List.replicate (2 * n + 1) 0)))) t (.lst (vn (Rm.rowW (2 * n + 2) 0)))) (a := p) (o := .lst [V.ref t])
    generalize upd (upd (upd (upd (upd H x (.lst [V.int 1])) y (.lst [V.int 0])) z (.lst (vn (List.replicate (2 * n + 1) 0)))) t (.lst (vn (Rm.rowW (2 * n + 2) 0)))) p (.lst [V.ref t]) = H1 at S1 ht hp
    -- for left in range(1, 2 * size + 1)
    refine ⟨.int n, rfl, 2, n, rfl, rfl, .inl ⟨by decide, by decide⟩, _, _, rfl, rfl, 1, _, rfl, ⟨by decide, by decide, by omega, by omega⟩, ?_⟩
    rw [show (2 * (n : Int) + 1 - 1).toNat = 2 * n by omega]
    refine for_range (lo := 1) (n := 2 * n) (fun i σ H' => ∃ y2 y3 y4 rs, σ = [some (.int (n : Int)), some (.ref p), y2, y3, y4] ∧ Same H H' ∧ H' p = some (.lst (vr rs)) ∧ HL H' rs ((List.range (i + 1)).map (Rm.rowW (2 * n + 2))) ∧ rs.Nodup ∧ p ∉ rs ∧ (∀ r, r ∈ rs → H r = none) ∧ i ≤ 2 * n)
      ⟨none, none, none, [t], rfl, S1, hp, ⟨rfl, fun i r l h1 h2 => ?_⟩, by simp, hpt, by simp [n1], Nat.zero_le _⟩ (fun i σ H' hi hP => ?_) (fun σ H' hP => ?_)
    · cases i with
      | zero =>
        cases h1
        cases h2
        exact ht
      | succ i => simp at h1
    · obtain ⟨y2, y3, y4, rs, rfl, sm, hp, hl, hnd, hpr, hfr, _⟩ := hP
      refine ⟨Nat.zero_le _, fun r nr => ?_⟩
      have sr := same_new (o := .lst []) nr
      have r0 : H r = none := sm.free nr
      have hrp : r ≠ p := (ne_of_none hp nr).symm
      have hl1 := hl.1
      rw [List.length_map, List.length_range] at hl1
      -- the last row
      obtain ⟨l, rl, rfl⟩ : ∃ l rl, rs = l ++ [rl] := by
        rcases List.eq_nil_or_concat rs with e | ⟨l, t, e⟩
        · rw [e] at hl1; simp at hl1
        · exact ⟨l, t, by rw [e, List.concat_eq_append]⟩
      have hll : l.length = i := by rw [List.length_append, List.length_singleton] at hl1; omega
      have hrl : H' rl = some (.lst (vn (Rm.rowW (2 * n + 2) i))) := hl.2 i rl _ (by rw [List.getElem?_append_right (by omega), hll]; simp) (by rw [List.getElem?_map, List.getElem?_range (by omega)]; rfl)
      have hrs : r ∉ l ++ [rl] := fun h => by
        obtain ⟨j, hj⟩ := List.mem_iff_getElem?.mp h
        have hj2 := (List.getElem?_eq_some_iff.mp hj).1
        have := hl.2 j r _ hj (by rw [List.getElem?_map, List.getElem?_range (by omega)]; rfl)
        rw [nr] at this
        cases this
      have S0 : ∀ x, x ∈ [r] → H x = none := fun x hx => by simp at hx; rw [hx]; exact r0
      have hrlr : rl ≠ r := fun e => hrs (by rw [← e]; simp)
      refine ⟨.int n, rfl, 2, n, rfl, rfl, .inl ⟨by decide, by decide⟩, _, _, rfl, rfl, _, rfl, by omega, by omega, ?_⟩
      rw [show (2 * (n : Int) + 1).toNat = 2 * n + 1 by omega]
      refine for_range (lo := 0) (n := 2 * n + 1) (fun j σ H'' => ∃ y4, σ = [some (.int (n : Int)), some (.ref p), some (.int (1 + (i : Int))), some (.ref r), y4] ∧ Sx [r] H' H'' ∧ H'' r = some (.lst (vn (Rm.rowW j (i + 1)))))
        ⟨_, rfl, Sx.of sr, upd_same⟩ (fun j σ H'' hj hP2 => ?_) (fun σ H'' hP2 => ?_)
      · obtain ⟨y4, rfl, sx, hr2⟩ := hP2
        rw [Int.zero_add]
        have hp2 : H'' p = some (.lst (vr (l ++ [rl]))) := sx _ _ (by simp [hrp.symm]) hp
        have hrl2 : H'' rl = some (.lst (vn (Rm.rowW (2 * n + 2) i))) := sx _ _ (by simp [hrlr]) hrl
        have hat : atI (vr (l ++ [rl])) (-1) = some (.ref rl) := by
          unfold vr
          rw [List.map_append]
          exact atI_last _ _
        have hv : ∀ d : Nat, ∀ z : Int, z = (d : Int) → d < 2 * n + 2 → atI (vn (Rm.rowW (2 * n + 2) i)) z = some (.int ((Rm.w i d : Nat) : Int)) := fun d z e h => by
          rw [vn_at (k := d) (by rw [Rm.rowW_len]; exact h) e, Rm.rowW_at h]
        have hnext : Rm.rowW (j + 1) (i + 1) = Rm.rowW j (i + 1) ++ [Rm.w (i + 1) j] := by
          unfold Rm.rowW
          rw [List.range_succ, List.map_append]
          rfl
        refine ⟨.ref r, rfl, .inl ⟨rfl, _, sqL hr2⟩, .ref p, rfl, 1, rfl, p, _, -1, _, rfl, rfl, sqL hp2, hat, .int j, rfl, _, _, rfl, rfl, rl, _, _, _, rfl, rfl, sqL hrl2, hv (j + 1) _ (by omega) (by omega), .int j, rfl, _, _, rfl, rfl, _, rfl, ite2 (fun e => ?_) (fun e => ?_)⟩
        · have e := of_decide_eq_true e
          refine ⟨.ref p, rfl, 1, rfl, p, _, -1, _, rfl, rfl, sqL hp2, hat, .int j, rfl, _, _, rfl, rfl, rl, _, _, _, rfl, rfl, sqL hrl2, hv (j - 1) _ (by omega) (by omega), _, _, rfl, rfl, r, _, _, rfl, rfl, hr2, by rw [vn_len, Rm.rowW_len]; exact small63 (by omega), ?_⟩
          refine ⟨_, rfl, sx.upd (by simp), ?_⟩
          rw [upd_same, hnext]
          dsimp only
          have ev : ((Rm.w i (j + 1) : Nat) : Int) + ((Rm.w i (j - 1) : Nat) : Int) = ((Rm.w (i + 1) j : Nat) : Int) := by
            rw [Rm.w_succ, if_pos (by omega)]
            omega
          rw [ev, vn_push]
        · have e : j = 0 := by have := dn e; omega
          subst e
          refine ⟨_, _, rfl, rfl, r, _, _, rfl, rfl, hr2, by rw [vn_len, Rm.rowW_len]; exact small63 (by omega), ?_⟩
          refine ⟨_, rfl, sx.upd (by simp), ?_⟩
          rw [upd_same, hnext]
          dsimp only
          have ev : ((Rm.w i (0 + 1) : Nat) : Int) + 0 = ((Rm.w (i + 1) 0 : Nat) : Int) := by
            rw [Rm.w_succ, if_neg (by omega)]
            omega
          rw [ev, vn_push]
      · obtain ⟨y4, rfl, sx, hr2⟩ := hP2
        have hSm : Same H H'' := Sx.same sx sm S0
        have hp2 : H'' p = some (.lst (vr (l ++ [rl]))) := sx _ _ (by simp [hrp.symm]) hp
        have hl2 : HL H'' (l ++ [rl]) ((List.range (i + 1)).map (Rm.rowW (2 * n + 2))) := hl.sx sx (fun x hx => by simp at hx; rw [hx]; exact hrs)
        refine ⟨.ref p, rfl, .inl ⟨rfl, _, sqL hp2⟩, .ref r, rfl, by show 1 ≤ sizeLine; decide, fun z nz => ?_⟩
        have sz := same_new (o := .lst [V.int 0]) nz
        refine ⟨r, z, _, _, rfl, rfl, sz _ _ hr2, upd_same, by rw [vn_len, Rm.rowW_len]; exact small63' (by show _ + 1 ≤ _; omega), fun r2 nr2 => ?_⟩
        have e1 : vn (Rm.rowW (2 * n + 1) (i + 1)) ++ [V.int 0] = vn (Rm.rowW (2 * n + 2) (i + 1)) := by
          have : Rm.rowW (2 * n + 2) (i + 1) = Rm.rowW (2 * n + 1) (i + 1) ++ [Rm.w (i + 1) (2 * n + 1)] := by
            unfold Rm.rowW
            rw [List.range_succ, List.map_append]
            rfl
          rw [this, Rm.w_zero (i + 1) (2 * n + 1) (by omega)]
          exact vn_push _ 0
        rw [e1]
        have sr2 := same_new (o := .lst (vn (Rm.rowW (2 * n + 2) (i + 1)))) nr2
        have hp3 := sr2 _ _ (sz _ _ hp2)
        have hl3 := (hl2.same sz).same sr2
        have hr3 : (upd (upd H'' z (.lst [V.int 0])) r2 (.lst (vn (Rm.rowW (2 * n + 2) (i + 1))))) r2 = some (.lst (vn (Rm.rowW (2 * n + 2) (i + 1)))) := upd_same
        have n0 : H r2 = none := hSm.free (sz.free nr2)
        have np2 : r2 ≠ p := (ne_of_none (sz _ _ hp2) nr2).symm
        have nrs2 : r2 ∉ l ++ [rl] := fun h => by
          obtain ⟨j, hj⟩ := List.mem_iff_getElem?.mp h
          have hj2 := (List.getElem?_eq_some_iff.mp hj).1
          have := (hl2.same sz).2 j r2 _ hj (by rw [List.getElem?_map, List.getElem?_range (by omega)]; rfl)
          rw [nr2] at this
          cases this
        have S4 := (hSm.trans sz).trans sr2
        generalize upd (upd H'' z (.lst [V.int 0])) r2 (.lst (vn (Rm.rowW (2 * n + 2) (i + 1)))) = H4 at S4 hp3 hl3 hr3
        refine ⟨p, _, _, rfl, rfl, hp3, by rw [List.length_map]; exact small63 (by omega), ?_⟩
        refine ⟨_, _, _, l ++ [rl] ++ [r2], rfl, same_upd S4 n2, by rw [upd_same]; simp [vr], ?_, ?_, ?_, ?_, by omega⟩
        · rw [List.range_succ (n := i + 1), List.map_append]
          refine HL.sx (X := [p]) (HL.snoc hl3 hr3) ((Sx.refl _ _).upd (by simp)) (fun y hy => ?_)
          simp only [List.mem_singleton] at hy
          subst hy
          intro h
          rcases List.mem_append.mp h with h | h
          · exact hpr h
          · simp at h; exact np2 h.symm
        · rw [List.nodup_append]
          exact ⟨hnd, by simp, fun y hy z hz => by simp only [List.mem_singleton] at hz; rw [hz]; exact fun e => nrs2 (e ▸ hy)⟩
        · intro h
          rcases List.mem_append.mp h with h | h
          · exact hpr h
          · simp at h; exact np2 h.symm
        · intro y hy
          rcases List.mem_append.mp hy with hy | hy
          · exact hfr y hy
          · simp at hy; rw [hy]; exact n0
    · obtain ⟨y2, y3, y4, rs, rfl, sm, hp, hl, hnd, hpr, hfr, _⟩ := hP
      exact ⟨.ref p, rfl, q H' p rs sm n2 hp hl hnd hpr hfr⟩
end

end Rv

namespace Rv
open PySem PySem.Spec PyProof.Rows L2
open Rm (zs at')
/-! ### what refuses numbers -/
abbrev s_ask_size : Stmt := topS 18
theorem sc_ask_size : FnScope ["size"] ["size"] (defScope s_ask_size) := ⟨rfl, rfl, rfl, by decide +kernel, rfl, by decide +kernel, by decide +kernel⟩
abbrev s_many : Stmt := topS 20
theorem sc_many : FnScope ["size"] ["size"] (defScope s_many) := ⟨rfl, rfl, rfl, by decide +kernel, rfl, by decide +kernel, by decide +kernel⟩
abbrev s_arcs_at : Stmt := topS 21
theorem sc_arcs_at : FnScope ["size", "number", "rows", "word", "depth", "left"] ["size", "number"] (defScope s_arcs_at) := ⟨rfl, rfl, rfl, by decide +kernel, rfl, by decide +kernel, by decide +kernel⟩
abbrev s_straight : Stmt := topS 34
theorem sc_straight : FnScope ["size", "k"] ["size"] (defScope s_straight) := ⟨rfl, rfl, rfl, by decide +kernel, rfl, by decide +kernel, by decide +kernel⟩
abbrev s_hook : Stmt := topS 35
theorem sc_hook : FnScope ["size", "j", "found", "one"] ["size", "j"] (defScope s_hook) := ⟨rfl, rfl, rfl, by decide +kernel, rfl, by decide +kernel, by decide +kernel⟩
abbrev s_rows_with : Stmt := topS 32
theorem sc_rows_with : FnScope ["size", "roads_wanted", "some", "found", "above", "number", "below"] ["size", "roads_wanted"] (defScope s_rows_with) := ⟨rfl, rfl, rfl, by decide +kernel, rfl, by decide +kernel, by decide +kernel⟩
def Sz (z : Int) : Prop := 1 ≤ z ∧ z ≤ 20
def spSizeX (C : Addr) : Sp := fun vs H Q E => ∃ z : Int, vs = [.int z] ∧ (Sz z → Q .non H) ∧ (¬ Sz z → E (.ref C) none H)
def spManyX (C : Addr) : Sp := fun vs H Q E => ∃ z : Int, vs = [.int z] ∧ ¬ Sz z ∧ ∀ H', E (.ref C) none H'
def spPairX (C : Addr) (R : Int → Int → Prop) : Sp := fun vs H Q E => ∃ z j : Int, vs = [.int z, .int j] ∧ R z j ∧ ∀ H', E (.ref C) none H'
section
variable {P : Program} {w : World} {K : PySem.W.Frag} {mg : Str → Option Value} {base : Heap} {C_NoNumber : Addr}
theorem ok_ask_size {tM : Tok} (D : Dfn K mg "ask_size" s_ask_size ["size"]) (g_MOST : mg "MOST" = some (.int 20 tM)) (x_NoNumber : ExcF K mg "NoNumber" C_NoNumber) : CalX P w K mg base 1 "ask_size" (spSizeX C_NoNumber) := by
  refine D.calX sc_ask_size (fun vs H Q E h => ?_) (fun f cdv A outer s0 H vs Q E hr h => ?_)
  · obtain ⟨z, rfl, _⟩ := h
    rfl
  · obtain ⟨z, rfl, q1, q2⟩ := h
    refine ⟨_, (pss_one (ps_if (pt_not (pt_chain op_le op_le pe_int (pv 0) (pe_glob (v := .int 20) (by rfl) g_MOST ⟨_, rfl⟩)))
        (pss_one (ps_raise rfl (takes_of rfl rfl rfl rfl) (pmk_own PySem.F.excBase_ValueError x_NoNumber.x x_NoNumber.g x_NoNumber.k (raises_own x_NoNumber.b x_NoNumber.t) (by exact rfl))))
        pss_nil)), ?_⟩
    refine ⟨.int z, rfl, _, _, rfl, rfl, _, rfl, ite2 (fun e => ?_) (fun e => ?_)⟩
    · have e := of_decide_eq_true e
      refine ⟨_, _, rfl, rfl, _, rfl, ite2 (fun e2 => ?_) (fun e2 => ?_)⟩
      · exact q2 fun h => nt e2 h.2
      · exact q1 ⟨e, nd e2⟩
    · exact ⟨_, rfl, iteT (q2 fun h => dn e h.1)⟩
theorem ok_many (D : Dfn K mg "many" s_many ["size"]) (B : Blt mg) (c_ask_size : CalX P w K mg base 1 "ask_size" (spSizeX C_NoNumber)) : CalX P w K mg base 2 "many" (spManyX C_NoNumber) := by
  refine D.calX sc_many (fun vs H Q E h => ?_) (fun f cdv A outer s0 H vs Q E hr h => ?_)
  · obtain ⟨z, rfl, _⟩ := h
    rfl
  · obtain ⟨z, rfl, hb, q⟩ := h
    refine ⟨_, (pss_cons (ps_expr (pe_cX c_ask_size (takes_of rfl rfl rfl rfl) hr (by omega) (by rfl) (pa_cons (pv 0) pa_nil)))
      pss_dead), ?_⟩
    exact ⟨.int z, rfl, z, rfl, fun h => absurd h hb, fun _ => q H⟩
theorem ok_straight (D : Dfn K mg "straight" s_straight ["size"]) (B : Blt mg) (c_ask_size : CalX P w K mg base 1 "ask_size" (spSizeX C_NoNumber)) : CalX P w K mg base 2 "straight" (spManyX C_NoNumber) := by
  refine D.calX sc_straight (fun vs H Q E h => ?_) (fun f cdv A outer s0 H vs Q E hr h => ?_)
  · obtain ⟨z, rfl, _⟩ := h
    rfl
  · obtain ⟨z, rfl, hb, q⟩ := h
    refine ⟨_, (pss_cons (ps_expr (pe_cX c_ask_size (takes_of rfl rfl rfl rfl) hr (by omega) (by rfl) (pa_cons (pv 0) pa_nil)))
      pss_dead), ?_⟩
    exact ⟨.int z, rfl, z, rfl, fun h => absurd h hb, fun _ => q H⟩
theorem ok_hook (D : Dfn K mg "hook" s_hook ["size", "j"]) (B : Blt mg) (c_ask_size : CalX P w K mg base 1 "ask_size" (spSizeX C_NoNumber)) (x_NoNumber : ExcF K mg "NoNumber" C_NoNumber) : CalX P w K mg base 2 "hook" (spPairX C_NoNumber fun z j => ¬ Sz z ∨ ¬ (0 ≤ j ∧ j ≤ z - 2)) := by
  refine D.calX sc_hook (fun vs H Q E h => ?_) (fun f cdv A outer s0 H vs Q E hr h => ?_)
  · obtain ⟨z, j, rfl, _⟩ := h
    rfl
  · obtain ⟨z, j, rfl, hb, q⟩ := h
    refine ⟨_, (pss_cons (ps_expr (pe_cX c_ask_size (takes_of rfl rfl rfl rfl) hr (by omega) (by rfl) (pa_cons (pv 0) pa_nil)))
      (pss_cons (ps_if (pt_not (pt_chain op_le op_le pe_int (pv 1) (pe_op op_sub (pv 0) pe_int)))
        (pss_one (ps_raise rfl (takes_of rfl rfl rfl rfl) (pmk_own PySem.F.excBase_ValueError x_NoNumber.x x_NoNumber.g x_NoNumber.k (raises_own x_NoNumber.b x_NoNumber.t) (by exact rfl))))
        pss_nil)
      pss_dead)), ?_⟩
    refine ⟨.int z, rfl, z, rfl, fun h => ?_, fun _ => q H⟩
    have hb : ¬ (0 ≤ j ∧ j ≤ z - 2) := by
      rcases hb with hb | hb
      · exact absurd h hb
      · exact hb
    refine ⟨.int j, rfl, _, _, rfl, rfl, _, rfl, ite2 (fun e => ?_) (fun e => ?_)⟩
    · have e := of_decide_eq_true e
      refine ⟨.int z, rfl, _, _, rfl, rfl, _, _, rfl, rfl, _, rfl, ?_⟩
      rw [decide_eq_false (fun h => hb ⟨e, h⟩)]
      exact iteT (q H)
    · exact ⟨_, rfl, iteT (q H)⟩
theorem ok_arcs_at (D : Dfn K mg "arcs_at" s_arcs_at ["size", "number"]) (B : Blt mg) (c_ask_size : CalX P w K mg base 1 "ask_size" (spSizeX C_NoNumber)) (c_ways : Cal P w K mg base 1 "ways" spWays) (x_NoNumber : ExcF K mg "NoNumber" C_NoNumber) : CalX P w K mg base 2 "arcs_at" (spPairX C_NoNumber fun z j => ¬ Sz z ∨ (z = 3 ∧ ¬ (0 ≤ j ∧ j < 5))) := by
  refine D.calX sc_arcs_at (fun vs H Q E h => ?_) (fun f cdv A outer s0 H vs Q E hr h => ?_)
  · obtain ⟨z, j, rfl, _⟩ := h
    rfl
  · obtain ⟨z, j, rfl, hb, q⟩ := h
    refine ⟨_, (pss_cons (ps_expr (pe_cX c_ask_size (takes_of rfl rfl rfl rfl) hr (by omega) (by rfl) (pa_cons (pv 0) pa_nil)))
      (pss_cons (ps_set (i := 2) sc_arcs_at.nd rfl (.inl rfl) (pe_c c_ways hr (by omega) (by rfl) (pa_cons (pv 0) pa_nil)))
      (pss_cons (ps_if (pt_not (pt_chain op_le op_lt pe_int (pv 1) (pe_ix ix_list (pe_ix ix_list (pv 2) (pe_op op_mul pe_int (pv 0)) (fun _ _ => rfl)) pe_int (fun _ _ => rfl))))
        (pss_one (ps_raise rfl (takes_of rfl rfl rfl rfl) (pmk_own PySem.F.excBase_ValueError x_NoNumber.x x_NoNumber.g x_NoNumber.k (raises_own x_NoNumber.b x_NoNumber.t) (by exact rfl))))
        pss_nil)
      pss_dead))), ?_⟩
    refine ⟨.int z, rfl, z, rfl, fun h => ?_, fun _ => q H⟩
    have hb : z = 3 ∧ ¬ (0 ≤ j ∧ j < 5) := by
      rcases hb with hb | hb
      · exact absurd h hb
      · exact hb
    obtain ⟨rfl, hb2⟩ := hb
    refine ⟨_, rfl, 3, rfl, by decide, fun H1 p rs s1 np hp hl _ _ _ => ?_⟩
    obtain ⟨r, h1, hr', h2⟩ := ways_cell (n := 3) (l := 6) (d := 0) hl (by decide) (by decide)
    have hw5 : Rm.w 6 0 = 5 := by decide
    refine ⟨.int j, rfl, _, _, rfl, rfl, _, rfl, ite2 (fun e => ?_) (fun e => ?_)⟩
    · have e := of_decide_eq_true e
      refine ⟨.ref p, rfl, _, rfl, _, _, rfl, rfl, .inl ⟨by decide, by decide⟩, p, _, _, _, rfl, rfl, sqL hp, h1 _ rfl, r, _, _, _, rfl, rfl, sqL hr', h2 _ rfl, _, _, rfl, rfl, _, rfl, ?_⟩
      rw [decide_eq_false (fun h => hb2 ⟨e, by rw [hw5] at h; exact h⟩)]
      exact iteT (q H1)
    · exact ⟨_, rfl, iteT (q H1)⟩
theorem ok_rows_with {tM : Tok} (D : Dfn K mg "rows_with" s_rows_with ["size", "roads_wanted"]) (B : Blt mg) (g_MOST_HERE : mg "MOST_HERE" = some (.int 5 tM)) (x_NoNumber : ExcF K mg "NoNumber" C_NoNumber) : CalX P w K mg base 1 "rows_with" (spPairX C_NoNumber fun z j => ¬ (1 ≤ z ∧ z ≤ 5) ∨ ¬ (1 ≤ j ∧ j ≤ z)) := by
  refine D.calX sc_rows_with (fun vs H Q E h => ?_) (fun f cdv A outer s0 H vs Q E hr h => ?_)
  · obtain ⟨z, j, rfl, _⟩ := h
    rfl
  · obtain ⟨z, j, rfl, hb, q⟩ := h
    refine ⟨_, (pss_cons (ps_if (PW.pt (pw_or (pt_not (pt_chain op_le op_le pe_int (pv 0) (pe_glob (v := .int 5) (by rfl) g_MOST_HERE ⟨_, rfl⟩))) (pw_or1 (pt_not (pt_chain op_le op_le pe_int (pv 1) (pv 0))))))
        (pss_one (ps_raise rfl (takes_of rfl rfl rfl rfl) (pmk_own PySem.F.excBase_ValueError x_NoNumber.x x_NoNumber.g x_NoNumber.k (raises_own x_NoNumber.b x_NoNumber.t) (by exact rfl))))
        pss_nil)
      pss_dead), ?_⟩
    refine ⟨.int z, rfl, _, _, rfl, rfl, _, rfl, ite2 (fun e => ?_) (fun e => ?_)⟩
    · have e := of_decide_eq_true e
      refine ⟨_, _, rfl, rfl, _, rfl, ite2 (fun e2 => ?_) (fun e2 => ?_)⟩
      · exact q H
      · have e2 := nd e2
        have hb : ¬ (1 ≤ j ∧ j ≤ z) := by
          rcases hb with hb | hb
          · exact absurd ⟨e, e2⟩ hb
          · exact hb
        refine ⟨.int j, rfl, _, _, rfl, rfl, _, rfl, ite2 (fun e3 => ?_) (fun e3 => ?_)⟩
        · have e3 := of_decide_eq_true e3
          refine ⟨.int z, rfl, _, _, rfl, rfl, _, rfl, ?_⟩
          rw [decide_eq_false (fun h => hb ⟨e3, h⟩)]
          exact iteT (q H)
        · exact ⟨_, rfl, iteT (q H)⟩
    · exact ⟨_, rfl, iteT (q H)⟩
end

end Rv

namespace Rv
open PySem PySem.Spec PyProof.Rows L2
open Rm (zs at')
/-! ### the menus -/
abbrev s_law_of_two : Stmt := topS 42
theorem sc_law_of_two : FnScope ["way", "one", "other"] ["way", "one", "other"] (defScope s_law_of_two) := ⟨rfl, rfl, rfl, by decide +kernel, rfl, by decide +kernel, by decide +kernel⟩
abbrev s_law_no_arcs : Stmt := topS 43
theorem sc_law_no_arcs : FnScope ["cell", "far", "some", "bad", "way", "k"] ["cell", "far"] (defScope s_law_no_arcs) := ⟨rfl, rfl, rfl, by decide +kernel, rfl, by decide +kernel, by decide +kernel⟩
abbrev s_law_unlike : Stmt := topS 44
theorem sc_law_unlike : FnScope ["cell", "rows"] ["cell"] (defScope s_law_unlike) := ⟨rfl, rfl, rfl, by decide +kernel, rfl, by decide +kernel, by decide +kernel⟩
abbrev s_law_no_number : Stmt := topS 45
theorem sc_law_no_number : FnScope ["cell", "far", "size", "way"] ["cell", "far"] (defScope s_law_no_number) := ⟨rfl, rfl, rfl, by decide +kernel, rfl, by decide +kernel, by decide +kernel⟩
theorem pickL {xs : List V} {p : V → Prop} (h : ∀ x, x ∈ xs → p x) (h0 : 0 < xs.length) {n : Int} (hn : n = (xs.length : Int)) (c : Int) : ∃ v, atI xs (c.fmod n) = some v ∧ p v := by
  subst hn
  have h1 := Int.fmod_nonneg_of_pos c (show (0 : Int) < xs.length by omega)
  have h2 := Int.fmod_lt_of_pos c (show (0 : Int) < xs.length by omega)
  obtain ⟨k, hk⟩ : ∃ k : Nat, c.fmod (xs.length : Int) = (k : Int) := ⟨(c.fmod xs.length).toNat, by omega⟩
  have hl : k < xs.length := by omega
  exact ⟨xs[k], at_of hk (List.getElem?_eq_getElem hl), h _ (List.getElem_mem hl)⟩
theorem vi_snoc' (s : List Int) (z : Int) : vi s ++ [V.int z] = vi (s ++ [z]) := by simp [vi]
theorem good_of {s : List Int} (h0 : 2 ≤ s.length ∧ s.length ≤ 40) (h1 : (List.range s.length).all (fun k => decide (0 ≤ Rm.g s k ∧ Rm.g s k < s.length ∧ Rm.g s k ≠ k ∧ Rm.g s (Rm.g s k).toNat = k)) = true)
    (h2 : (List.range s.length).all (fun k => (List.range s.length).all fun j => decide (¬ (j < k ∧ (k : Int) < Rm.g s j ∧ Rm.g s j < Rm.g s k))) = true) : Rm.Good s := by
  refine ⟨h0, fun k hk => ?_, fun j k hjk hk g1 g2 => ?_⟩
  · have := of_decide_eq_true (List.all_eq_true.mp h1 k (List.mem_range.mpr hk))
    exact this
  · have := of_decide_eq_true (List.all_eq_true.mp (List.all_eq_true.mp h2 k (List.mem_range.mpr hk)) j (List.mem_range.mpr (by omega)))
    exact this ⟨hjk, g1, g2⟩
theorem good_a : Rm.Good [1, 0] := good_of (by decide) (by decide) (by decide)
theorem good_b : Rm.Good [3, 2, 1, 0] := good_of (by decide) (by decide) (by decide)
theorem good_c : Rm.Good [1, 0, 3, 2, 5, 4] := good_of (by decide) (by decide) (by decide)
theorem bad_len {s : List Int} (h : ¬ (2 ≤ s.length ∧ s.length ≤ 40)) : ¬ Rm.Good s := fun G => h G.1
theorem bad_at {s : List Int} (k : Nat) (hk : k < s.length) (h : ¬ (0 ≤ Rm.g s k ∧ Rm.g s k < s.length ∧ Rm.g s k ≠ k)) : ¬ Rm.Good s := fun G => h ⟨(G.2.1 k hk).1, (G.2.1 k hk).2.1, (G.2.1 k hk).2.2.1⟩
def spOf2 (K : PySem.W.Frag) (CA CU CT : Addr) : Sp := fun vs H Q E => ∃ (z : Int) (a b : Addr) (s t : List Int), vs = [.int z, .ref a, .ref b] ∧ SqL K H a (vi s) ∧ SqL K H b (vi t) ∧ s.length ≤ 200 ∧ t.length ≤ 200 ∧
  (¬ Rm.Good s ∨ ¬ Rm.Good t → ∀ H', E (.ref CA) none H') ∧ (Rm.Good s → Rm.Good t → (z = 0 ∧ 40 < s.length + t.length ∧ ∀ H', E (.ref CT) none H') ∨ (z ≠ 0 ∧ s.length ≠ t.length ∧ ∀ H', E (.ref CU) none H'))
def spNoArcs (CA : Addr) : Sp := fun vs H Q E => ∃ c far : Int, vs = [.int c, .int far] ∧ 1 ≤ far ∧ ∀ H', E (.ref CA) none H'
def spNoNum (C : Addr) : Sp := fun vs H Q E => ∃ c far : Int, vs = [.int c, .int far] ∧ 0 ≤ far ∧ ∀ H', E (.ref C) none H'
def spUnl (C : Addr) : Sp := fun vs H Q E => ∃ c : Int, vs = [.int c] ∧ ∀ H', E (.ref C) none H'
section
variable {P : Program} {w : World} {K : PySem.W.Frag} {mg : Str → Option Value} {base : Heap} {C_NoArcs C_Unlike C_TooMany C_NoNumber : Addr}
theorem ok_law_of_two (D : Dfn K mg "_law_of_two" s_law_of_two ["way", "one", "other"]) (B : Blt mg) (c_beside : CalX P w K mg base 3 "beside" (spTwoX K C_NoArcs C_TooMany fun s t => 40 < s.length + t.length)) (c_roads : CalX P w K mg base 4 "roads" (spTwoX K C_NoArcs C_Unlike fun s t => s.length ≠ t.length))
    (c_many_roads : CalX P w K mg base 4 "many_roads" (spTwoX K C_NoArcs C_Unlike fun s t => s.length ≠ t.length)) (c_laid : CalX P w K mg base 4 "laid" (spTwoX K C_NoArcs C_Unlike fun s t => s.length ≠ t.length)) : CalX P w K mg base 5 "_law_of_two" (spOf2 K C_NoArcs C_Unlike C_TooMany) := by
  refine D.calX sc_law_of_two (fun vs H Q E h => ?_) (fun f cdv A outer s0 H vs Q E hr h => ?_)
  · obtain ⟨z, a, b, s, t, rfl, _⟩ := h
    rfl
  · obtain ⟨z, a, b, s, t, rfl, hS, hT, l1, l2, q1, q2⟩ := h
    refine ⟨_, (pss_one (ps_if (pt_cmpR op_eq (pv 0) pe_int (nomark _))
        (pss_one (ps_expr (pe_cX c_beside (takes_of rfl rfl rfl rfl) hr (by omega) (by rfl) (pa_cons (pv 1) (pa_cons (pv 2) pa_nil)))))
        (pss_one (ps_if (pt_cmpR op_eq (pv 0) pe_int (nomark _))
          (pss_one (ps_expr (pe_cX c_roads (takes_of rfl rfl rfl rfl) hr (by omega) (by rfl) (pa_cons (pv 1) (pa_cons (pv 2) pa_nil)))))
          (pss_one (ps_if (pt_cmpR op_eq (pv 0) pe_int (nomark _))
            (pss_one (ps_expr (pe_cX c_many_roads (takes_of rfl rfl rfl rfl) hr (by omega) (by rfl) (pa_cons (pv 1) (pa_cons (pv 2) pa_nil)))))
            (pss_one (ps_expr (pe_cX c_laid (takes_of rfl rfl rfl rfl) hr (by omega) (by rfl) (pa_cons (pv 1) (pa_cons (pv 2) pa_nil))))))))))), ?_⟩
    have unl : z ≠ 0 → Rm.Good s → Rm.Good t → s.length ≠ t.length ∧ ∀ H', E (.ref C_Unlike) none H' := fun hz g1 g2 => by
      rcases q2 g1 g2 with ⟨h, _⟩ | ⟨_, h⟩
      · exact absurd h hz
      · exact h
    refine ⟨.int z, rfl, rfl, _, rfl, ite2 (fun e => ?_) (fun e => ?_)⟩
    · have e := V.int.inj (of_decide_eq_true e)
      refine ⟨.ref a, rfl, .ref b, rfl, a, b, s, t, rfl, hS, hT, l1, l2, q1, fun g1 g2 => ?_⟩
      rcases q2 g1 g2 with ⟨_, h⟩ | ⟨h, _⟩
      · exact h
      · exact absurd e h
    · have hz : z ≠ 0 := fun h => dn e (by rw [h])
      refine ⟨.int z, rfl, rfl, _, rfl, ite2 (fun e => ?_) (fun e => ?_)⟩
      · exact ⟨.ref a, rfl, .ref b, rfl, a, b, s, t, rfl, hS, hT, l1, l2, q1, unl hz⟩
      · refine ⟨.int z, rfl, rfl, _, rfl, ite2 (fun e => ?_) (fun e => ?_)⟩
        · exact ⟨.ref a, rfl, .ref b, rfl, a, b, s, t, rfl, hS, hT, l1, l2, q1, unl hz⟩
        · exact ⟨.ref a, rfl, .ref b, rfl, a, b, s, t, rfl, hS, hT, l1, l2, q1, unl hz⟩
theorem ok_law_no_number (D : Dfn K mg "_law_no_number" s_law_no_number ["cell", "far"]) (B : Blt mg) (c_many : CalX P w K mg base 2 "many" (spManyX C_NoNumber)) (c_arcs_at : CalX P w K mg base 2 "arcs_at" (spPairX C_NoNumber fun z j => ¬ Sz z ∨ (z = 3 ∧ ¬ (0 ≤ j ∧ j < 5)))) (c_straight : CalX P w K mg base 2 "straight" (spManyX C_NoNumber))
    (c_hook : CalX P w K mg base 2 "hook" (spPairX C_NoNumber fun z j => ¬ Sz z ∨ ¬ (0 ≤ j ∧ j ≤ z - 2))) (c_rows_with : CalX P w K mg base 1 "rows_with" (spPairX C_NoNumber fun z j => ¬ (1 ≤ z ∧ z ≤ 5) ∨ ¬ (1 ≤ j ∧ j ≤ z))) : CalX P w K mg base 3 "_law_no_number" (spNoNum C_NoNumber) := by
  refine D.calX sc_law_no_number (fun vs H Q E h => ?_) (fun f cdv A outer s0 H vs Q E hr h => ?_)
  · obtain ⟨c, far, rfl, _⟩ := h
    rfl
  · obtain ⟨c, far, rfl, hf, q⟩ := h
    refine ⟨_, (pss_cons (ps_set (i := 2) sc_law_no_number.nd rfl (.inl rfl) (pe_ix ix_list (pe_lst (pa_cons pe_int (pa_cons pe_int (pa_cons (pe_op op_sub (pe_un un_neg pe_int) (pv 1)) (pa_cons (pe_op op_add pe_int (pv 1)) pa_nil))))) (pe_op op_modN (pv 0) pe_int) (fun _ _ => rfl)))
      (pss_cons (ps_set (i := 3) sc_law_no_number.nd rfl (.inl rfl) (pe_op op_modN (pe_op op_fdivN (pv 0) pe_int) pe_int))
      (pss_one (ps_if (pt_cmpR op_eq (pv 3) pe_int (nomark _))
        (pss_one (ps_expr (pe_cX c_many (takes_of rfl rfl rfl rfl) hr (by omega) (by rfl) (pa_cons (pv 2) pa_nil))))
        (pss_one (ps_if (pt_cmpR op_eq (pv 3) pe_int (nomark _))
          (pss_one (ps_expr (pe_cX c_arcs_at (takes_of rfl rfl rfl rfl) hr (by omega) (by rfl) (pa_cons (pv 2) (pa_cons (pe_un un_neg pe_int) pa_nil)))))
          (pss_one (ps_if (pt_cmpR op_eq (pv 3) pe_int (nomark _))
            (pss_one (ps_expr (pe_cX c_arcs_at (takes_of rfl rfl rfl rfl) hr (by omega) (by rfl) (pa_cons pe_int (pa_cons (pe_ix ix_list (pe_lst (pa_cons (pe_un un_neg pe_int) (pa_cons pe_int (pa_cons (pe_op op_sub (pe_un un_neg pe_int) (pv 1)) (pa_cons (pe_op op_add pe_int (pv 1)) pa_nil))))) (pe_op op_modN (pe_op op_fdivN (pv 0) pe_int) pe_int) (fun _ _ => rfl)) pa_nil)))))
            (pss_one (ps_if (pt_cmpR op_eq (pv 3) pe_int (nomark _))
              (pss_one (ps_expr (pe_cX c_straight (takes_of rfl rfl rfl rfl) hr (by omega) (by rfl) (pa_cons (pv 2) pa_nil))))
              (pss_one (ps_if (pt_cmpR op_eq (pv 3) pe_int (nomark _))
                (pss_one (ps_expr (pe_cX c_hook (takes_of rfl rfl rfl rfl) hr (by omega) (by rfl) (pa_cons (pv 2) (pa_cons pe_int pa_nil)))))
                (pss_one (ps_if (pt_cmpR op_eq (pv 3) pe_int (nomark _))
                  (pss_cons (ps_set (i := 2) sc_law_no_number.nd rfl (.inl rfl) (pe_ix ix_list (pe_lst (pa_cons pe_int (pa_cons pe_int (pa_cons pe_int pa_nil)))) (pe_op op_modN (pe_op op_fdivN (pv 0) pe_int) pe_int) (fun _ _ => rfl)))
                  (pss_one (ps_expr (pe_cX c_hook (takes_of rfl rfl rfl rfl) hr (by omega) (by rfl) (pa_cons (pv 2) (pa_cons (pe_ix ix_list (pe_lst (pa_cons (pe_un un_neg pe_int) (pa_cons (pe_op op_sub (pv 2) pe_int) (pa_cons (pe_op op_add (pv 2) (pv 1)) (pa_cons (pe_op op_sub (pe_un un_neg pe_int) (pv 1)) pa_nil))))) (pe_op op_modN (pe_op op_fdivN (pv 0) pe_int) pe_int) (fun _ _ => rfl)) pa_nil))))))
                  (pss_one (ps_if (pt_cmpR op_eq (pv 3) pe_int (nomark _))
                    (pss_one (ps_expr (pe_cX c_rows_with (takes_of rfl rfl rfl rfl) hr (by omega) (by rfl) (pa_cons (pe_ix ix_list (pe_lst (pa_cons (pv 2) (pa_cons pe_int pa_nil))) (pe_op op_modN (pe_op op_fdivN (pv 0) pe_int) pe_int) (fun _ _ => rfl)) (pa_cons pe_int pa_nil)))))
                    (pss_one (ps_expr (pe_cX c_rows_with (takes_of rfl rfl rfl rfl) hr (by omega) (by rfl) (pa_cons pe_int (pa_cons (pe_ix ix_list (pe_lst (pa_cons pe_int (pa_cons pe_int (pa_cons (pe_op op_sub (pe_un un_neg pe_int) (pv 1)) (pa_cons (pe_op op_add pe_int (pv 1)) pa_nil))))) (pe_op op_modN (pe_op op_fdivN (pv 0) pe_int) pe_int) (fun _ _ => rfl)) pa_nil))))))))))))))))))))), ?_⟩
    have int4 : ∀ (p : Int → Prop) (x0 x1 x2 x3 : Int), p x0 → p x1 → p x2 → p x3 → ∀ c : Int, ∃ z : Int, atI [V.int x0, V.int x1, V.int x2, V.int x3] (c.fmod 4) = some (.int z) ∧ p z := fun p x0 x1 x2 x3 h0 h1 h2 h3 c => by
      obtain ⟨v, hv, z, rfl, hz⟩ := pickL (xs := [V.int x0, V.int x1, V.int x2, V.int x3]) (p := fun v => ∃ z : Int, v = .int z ∧ p z) (fun x hx => by
        simp only [List.mem_cons, List.not_mem_nil, or_false] at hx
        rcases hx with rfl | rfl | rfl | rfl
        · exact ⟨_, rfl, h0⟩
        · exact ⟨_, rfl, h1⟩
        · exact ⟨_, rfl, h2⟩
        · exact ⟨_, rfl, h3⟩) (Nat.zero_lt_succ _) (n := 4) rfl c
      exact ⟨z, hv, hz⟩
    refine ⟨_, rfl, .int far, rfl, _, _, rfl, rfl, .int far, rfl, _, _, rfl, rfl, by show 4 ≤ sizeLine; decide, fun x nx => ?_⟩
    dsimp only
    have hx : upd H x (.lst [V.int 0, V.int 21, V.int (-1 - far), V.int (21 + far)]) x = some (.lst [V.int 0, V.int 21, V.int (-1 - far), V.int (21 + far)]) := upd_same
    generalize upd H x (.lst [V.int 0, V.int 21, V.int (-1 - far), V.int (21 + far)]) = H1 at hx
    obtain ⟨z, hz, hb⟩ := int4 (fun z => ¬ Sz z) 0 21 (-1 - far) (21 + far) (by unfold Sz; omega) (by unfold Sz; omega) (by unfold Sz; omega) (by unfold Sz; omega) c
    refine ⟨.int c, rfl, _, _, rfl, rfl, (show (4 : Int) ≠ 0 by decide), x, _, _, _, rfl, rfl, sqL hx, hz, ?_⟩
    refine ⟨.int c, rfl, _, _, rfl, rfl, ⟨by decide, by decide⟩, _, _, rfl, rfl, (show (8 : Int) ≠ 0 by decide), ?_⟩
    dsimp only
    generalize (c.fdiv 4).fmod 8 = way
    refine ⟨.int way, rfl, rfl, _, rfl, ite2 (fun e => ?_) (fun e => ?_)⟩
    · exact ⟨.int z, rfl, z, rfl, hb, q⟩
    clear e
    refine ⟨.int way, rfl, rfl, _, rfl, ite2 (fun e => ?_) (fun e => ?_)⟩
    · exact ⟨.int z, rfl, _, rfl, z, -1, rfl, .inl hb, q⟩
    clear e
    refine ⟨.int way, rfl, rfl, _, rfl, ite2 (fun e => ?_) (fun e => ?_)⟩
    · refine ⟨_, rfl, _, rfl, .int far, rfl, _, _, rfl, rfl, .int far, rfl, _, _, rfl, rfl, by show 4 ≤ sizeLine; decide, fun y ny => ?_⟩
      obtain ⟨j, hj, hb2⟩ := int4 (fun z => ¬ (0 ≤ z ∧ z < 5)) (-1) 5 (-1 - far) (5 + far) (by omega) (by omega) (by omega) (by omega) (c.fdiv 32)
      exact ⟨.int c, rfl, _, _, rfl, rfl, ⟨by decide, by decide⟩, _, _, rfl, rfl, (show (4 : Int) ≠ 0 by decide), y, _, _, _, rfl, rfl, sqL upd_same, hj, 3, j, rfl, .inr ⟨rfl, hb2⟩, q⟩
    clear e
    refine ⟨.int way, rfl, rfl, _, rfl, ite2 (fun e => ?_) (fun e => ?_)⟩
    · exact ⟨.int z, rfl, z, rfl, hb, q⟩
    clear e
    refine ⟨.int way, rfl, rfl, _, rfl, ite2 (fun e => ?_) (fun e => ?_)⟩
    · exact ⟨.int z, rfl, z, 0, rfl, .inl hb, q⟩
    clear e
    refine ⟨.int way, rfl, rfl, _, rfl, ite2 (fun e => ?_) (fun e => ?_)⟩
    · refine ⟨by show 3 ≤ sizeLine; decide, fun y ny => ?_⟩
      obtain ⟨v, hv, n, rfl, hn⟩ := pickL (xs := [V.int 1, V.int 3, V.int 2]) (p := fun v => ∃ z : Int, v = .int z ∧ 1 ≤ z ∧ z ≤ 3) (fun x hx => by
        simp only [List.mem_cons, List.not_mem_nil, or_false] at hx
        rcases hx with rfl | rfl | rfl
        · exact ⟨_, rfl, by decide⟩
        · exact ⟨_, rfl, by decide⟩
        · exact ⟨_, rfl, by decide⟩) (Nat.zero_lt_succ _) (n := 3) rfl (c.fdiv 32)
      refine ⟨.int c, rfl, _, _, rfl, rfl, ⟨by decide, by decide⟩, _, _, rfl, rfl, (show (3 : Int) ≠ 0 by decide), y, _, _, _, rfl, rfl, sqL upd_same, hv, ?_⟩
      obtain ⟨j, hj, hb2⟩ := int4 (fun j => ¬ (0 ≤ j ∧ j ≤ n - 2)) (-1) (n - 1) (n + far) (-1 - far) (by omega) (by omega) (by omega) (by omega) (c.fdiv 96)
      refine ⟨.int n, rfl, _, rfl, .int n, rfl, _, _, rfl, rfl, .int n, rfl, .int far, rfl, _, _, rfl, rfl, _, rfl, .int far, rfl, _, _, rfl, rfl, by show 4 ≤ sizeLine; decide, fun y2 ny2 => ?_⟩
      exact ⟨.int c, rfl, _, _, rfl, rfl, ⟨by decide, by decide⟩, _, _, rfl, rfl, (show (4 : Int) ≠ 0 by decide), y2, _, _, _, rfl, rfl, sqL upd_same, hj, n, j, rfl, .inr hb2, q⟩
    clear e
    refine ⟨.int way, rfl, rfl, _, rfl, ite2 (fun e => ?_) (fun e => ?_)⟩
    · refine ⟨.int z, rfl, by show 2 ≤ sizeLine; decide, fun y ny => ?_⟩
      obtain ⟨v, hv, n, rfl, hn⟩ := pickL (xs := [V.int z, V.int 6]) (p := fun v => ∃ z : Int, v = .int z ∧ ¬ (1 ≤ z ∧ z ≤ 5)) (fun x hx => by
        simp only [List.mem_cons, List.not_mem_nil, or_false] at hx
        rcases hx with rfl | rfl
        · exact ⟨_, rfl, by unfold Sz at hb; omega⟩
        · exact ⟨_, rfl, by decide⟩) (Nat.zero_lt_succ _) (n := 2) rfl (c.fdiv 32)
      exact ⟨.int c, rfl, _, _, rfl, rfl, ⟨by decide, by decide⟩, _, _, rfl, rfl, (show (2 : Int) ≠ 0 by decide), y, _, _, _, rfl, rfl, sqL upd_same, hv, n, 1, rfl, .inl hn, q⟩
    · refine ⟨_, rfl, .int far, rfl, _, _, rfl, rfl, .int far, rfl, _, _, rfl, rfl, by show 4 ≤ sizeLine; decide, fun y ny => ?_⟩
      obtain ⟨j, hj, hb2⟩ := int4 (fun z => ¬ (1 ≤ z ∧ z ≤ 3)) 0 4 (-1 - far) (4 + far) (by omega) (by omega) (by omega) (by omega) (c.fdiv 32)
      exact ⟨.int c, rfl, _, _, rfl, rfl, ⟨by decide, by decide⟩, _, _, rfl, rfl, (show (4 : Int) ≠ 0 by decide), y, _, _, _, rfl, rfl, sqL upd_same, hj, 3, j, rfl, .inr hb2, q⟩
theorem ok_law_unlike (D : Dfn K mg "_law_unlike" s_law_unlike ["cell"]) (B : Blt mg) (c_law_of_two : CalX P w K mg base 5 "_law_of_two" (spOf2 K C_NoArcs C_Unlike C_TooMany)) : CalX P w K mg base 6 "_law_unlike" (spUnl C_Unlike) := by
  refine D.calX sc_law_unlike (fun vs H Q E h => ?_) (fun f cdv A outer s0 H vs Q E hr h => ?_)
  · obtain ⟨c, rfl, _⟩ := h
    rfl
  · obtain ⟨c, rfl, q⟩ := h
    refine ⟨_, (pss_cons (ps_set (i := 1) sc_law_unlike.nd rfl (.inl rfl) (pe_lst (pa_cons (pe_ix ix_list (pe_lst (pa_cons (pe_lst (pa_cons pe_int (pa_cons pe_int pa_nil))) (pa_cons (pe_lst (pa_cons pe_int (pa_cons pe_int (pa_cons pe_int (pa_cons pe_int pa_nil))))) pa_nil))) (pe_op op_modN (pe_op op_fdivN (pv 0) pe_int) pe_int) (fun _ _ => rfl)) (pa_cons (pe_lst (pa_cons pe_int (pa_cons pe_int (pa_cons pe_int (pa_cons pe_int (pa_cons pe_int (pa_cons pe_int pa_nil))))))) pa_nil))))
      (C8.pss_cut (ps_if (pt_cmpR op_eq (pe_op op_modN (pe_op op_fdivN (pv 0) pe_int) pe_int) pe_int (nomark _))
        (pss_one (ps_expr (pe_bm0 PySem.F.plainAttrs_list PySem.F.slot_list_reverse PySem.F.type_list_reverse mt_reverse (pv 1))))
        pss_nil)
      (pss_one (ps_expr (pe_cX c_law_of_two (takes_of rfl rfl rfl rfl) hr (by omega) (by rfl) (pa_cons (pe_op op_add pe_int (pe_op op_modN (pv 0) pe_int)) (pa_cons (pe_ix ix_list (pv 1) pe_int (fun _ _ => rfl)) (pa_cons (pe_ix ix_list (pv 1) pe_int (fun _ _ => rfl)) pa_nil)))))))), ?_⟩
    refine ⟨by show 2 ≤ sizeLine; decide, fun x0 n_x0 => ?_⟩
    have h_x0 : upd H x0 (.lst [V.int 1, V.int 0]) x0 = some (.lst [V.int 1, V.int 0]) := upd_same
    generalize upd H x0 (.lst [V.int 1, V.int 0]) = H1 at h_x0
    refine ⟨by show 4 ≤ sizeLine; decide, fun x1 n_x1 => ?_⟩
    have h_x1 : upd H1 x1 (.lst [V.int 3, V.int 2, V.int 1, V.int 0]) x1 = some (.lst [V.int 3, V.int 2, V.int 1, V.int 0]) := upd_same
    have h_x0 := same_new (o := .lst [V.int 3, V.int 2, V.int 1, V.int 0]) n_x1 _ _ h_x0
    generalize upd H1 x1 (.lst [V.int 3, V.int 2, V.int 1, V.int 0]) = H2 at h_x1 h_x0
    refine ⟨by show 2 ≤ sizeLine; decide, fun x2 n_x2 => ?_⟩
    have h_x2 : upd H2 x2 (.lst [V.ref x0, V.ref x1]) x2 = some (.lst [V.ref x0, V.ref x1]) := upd_same
    have h_x0 := same_new (o := .lst [V.ref x0, V.ref x1]) n_x2 _ _ h_x0
    have h_x1 := same_new (o := .lst [V.ref x0, V.ref x1]) n_x2 _ _ h_x1
    generalize upd H2 x2 (.lst [V.ref x0, V.ref x1]) = H3 at h_x2 h_x0 h_x1
    obtain ⟨v, hv, y, s, rfl, h_y, g1, hl1⟩ := pickL (xs := [V.ref x0, V.ref x1]) (p := fun v => ∃ (y : Addr) (s : List Int), v = .ref y ∧ H3 y = some (.lst (vi s)) ∧ Rm.Good s ∧ s.length ≤ 4) (fun x hx => by
      simp only [List.mem_cons, List.not_mem_nil, or_false] at hx
      rcases hx with rfl | rfl
      · exact ⟨x0, [1, 0], rfl, h_x0, good_a, by decide⟩
      · exact ⟨x1, [3, 2, 1, 0], rfl, h_x1, good_b, by decide⟩) (Nat.zero_lt_succ _) (n := 2) rfl (c.fdiv 3)
    refine ⟨.int c, rfl, _, _, rfl, rfl, ⟨by decide, by decide⟩, _, _, rfl, rfl, (show (2 : Int) ≠ 0 by decide), x2, _, _, _, rfl, rfl, sqL h_x2, hv, by show 6 ≤ sizeLine; decide, fun x3 n_x3 => ?_⟩
    have h_x3 : upd H3 x3 (.lst [V.int 1, V.int 0, V.int 3, V.int 2, V.int 5, V.int 4]) x3 = some (.lst [V.int 1, V.int 0, V.int 3, V.int 2, V.int 5, V.int 4]) := upd_same
    have h_y := same_new (o := .lst [V.int 1, V.int 0, V.int 3, V.int 2, V.int 5, V.int 4]) n_x3 _ _ h_y
    generalize upd H3 x3 (.lst [V.int 1, V.int 0, V.int 3, V.int 2, V.int 5, V.int 4]) = H4 at h_x3 h_y
    refine ⟨by show 2 ≤ sizeLine; decide, fun p n_p => ?_⟩
    have h_p : upd H4 p (.lst [V.ref y, V.ref x3]) p = some (.lst [V.ref y, V.ref x3]) := upd_same
    have h_y := same_new (o := .lst [V.ref y, V.ref x3]) n_p _ _ h_y
    have h_x3 := same_new (o := .lst [V.ref y, V.ref x3]) n_p _ _ h_x3
    generalize upd H4 p (.lst [V.ref y, V.ref x3]) = H5 at h_p h_y h_x3
    have ne_y : y ≠ p := fun z => by rw [z, h_p] at h_y; cases s with | nil => cases h_y | cons a r => cases h_y
    have ne_x : x3 ≠ p := fun z => by rw [z, h_p] at h_x3; cases h_x3
    refine ⟨fun σ H' => ∃ (a b : Addr) (s t : List Int), σ = [some (.int c), some (.ref p)] ∧ H' p = some (.lst [V.ref a, V.ref b]) ∧ H' a = some (.lst (vi s)) ∧ H' b = some (.lst (vi t)) ∧ Rm.Good s ∧ Rm.Good t ∧ s.length ≠ t.length ∧ s.length ≤ 6 ∧ t.length ≤ 6, ?_, ?_⟩
    · refine ⟨.int c, rfl, _, _, rfl, rfl, ⟨by decide, by decide⟩, _, _, rfl, rfl, (show (2 : Int) ≠ 0 by decide), rfl, _, rfl, ite2 (fun e => ?_) (fun e => ?_)⟩
      · refine ⟨.ref p, rfl, .inl ⟨rfl, _, sqL h_p⟩, p, _, rfl, rfl, h_p, ?_⟩
        exact ⟨x3, y, [1, 0, 3, 2, 5, 4], s, rfl, upd_same, by rw [upd_ne ne_x]; exact h_x3, by rw [upd_ne ne_y]; exact h_y, good_c, g1, by show 6 ≠ _; omega, by decide, by omega⟩
      · exact ⟨y, x3, s, [1, 0, 3, 2, 5, 4], rfl, h_p, h_y, h_x3, g1, good_c, by show _ ≠ 6; omega, by omega, by decide⟩
    rintro σ' H' ⟨a, b, s, t, rfl, hp, ha, hb, gs, gt, hne, l1, l2⟩
    have h0 := Int.fmod_nonneg_of_pos c (show (0 : Int) < 3 by decide)
    refine ⟨.int c, rfl, _, _, rfl, rfl, (show (3 : Int) ≠ 0 by decide), _, _, rfl, rfl, .ref p, rfl, p, _, _, _, rfl, rfl, sqL hp, rfl, .ref p, rfl, p, _, _, _, rfl, rfl, sqL hp, rfl, ?_⟩
    refine ⟨_, a, b, s, t, rfl, sqL ha, sqL hb, by omega, by omega, fun z => ?_, fun _ _ => .inr ⟨by omega, hne, q⟩⟩
    rcases z with z | z
    · exact absurd gs z
    · exact absurd gt z
theorem ok_law_no_arcs (D : Dfn K mg "_law_no_arcs" s_law_no_arcs ["cell", "far"]) (B : Blt mg) (c_law_of_two : CalX P w K mg base 5 "_law_of_two" (spOf2 K C_NoArcs C_Unlike C_TooMany)) (c_word_of : CalX P w K mg base 3 "word_of" (spOneX K C_NoArcs)) (c_turned : CalX P w K mg base 3 "turned" (spTurnX K C_NoArcs))
    (c_mirrored : CalX P w K mg base 3 "mirrored" (spOneX K C_NoArcs)) (c_covered : CalX P w K mg base 3 "covered" (spCoverX K C_NoArcs C_TooMany)) (c_number_of : CalX P w K mg base 3 "number_of" (spOneX K C_NoArcs)) (c_one_road : CalX P w K mg base 3 "one_road" (spOneX K C_NoArcs))
    (c_closed : CalX P w K mg base 3 "closed" (spOneX K C_NoArcs)) : CalX P w K mg base 6 "_law_no_arcs" (spNoArcs C_NoArcs) := by
  refine D.calX sc_law_no_arcs (fun vs H Q E h => ?_) (fun f cdv A outer s0 H vs Q E hr h => ?_)
  · obtain ⟨c, far, rfl, _⟩ := h
    rfl
  · obtain ⟨c, far, rfl, hf, q⟩ := h
    refine ⟨_, (pss_cons (ps_set (i := 2) sc_law_no_arcs.nd rfl (.inl rfl) (pe_lst (pa_cons (pe_lst pa_nil) (pa_cons (pe_lst (pa_cons pe_int pa_nil)) (pa_cons (pe_lst (pa_cons pe_int (pa_cons pe_int (pa_cons pe_int pa_nil)))) (pa_cons (pe_lst (pa_cons pe_int (pa_cons pe_int (pa_cons pe_int (pa_cons pe_int pa_nil))))) (pa_cons (pe_lst (pa_cons pe_int (pa_cons pe_int (pa_cons pe_int (pa_cons pe_int pa_nil))))) (pa_cons (pe_lst (pa_cons (pe_op op_add pe_int (pv 1)) (pa_cons pe_int pa_nil))) (pa_cons (pe_lst (pa_cons (pe_un un_neg pe_int) (pa_cons pe_int pa_nil))) (pa_cons (pe_lst (pa_cons pe_int (pa_cons pe_int pa_nil))) (pa_cons (pe_lc (own := [("k", 5)]) (g := gName 5) (tt := tYes) rfl sc_law_no_arcs.nd (pi_range1 (by rfl) B.range_ (pa_cons pe_int pa_nil)) (blkOk_by (N := ["cell", "far", "some", "bad", "way", "k"]) (sc := defScope s_law_no_arcs) (by decide +kernel)) (fun _ _ _ _ _ => pg_name (i := 5) sc_law_no_arcs.nd rfl (Or.inl rfl)) (fun _ _ _ _ _ => pts_nil) (fun _ _ _ _ _ => (pe_op op_sub pe_int (pv 5)))) pa_nil)))))))))))
      (pss_cons (ps_set (i := 3) sc_law_no_arcs.nd rfl (.inl rfl) (pe_ix ix_list (pv 2) (pe_op op_modN (pv 0) pe_int) (fun _ _ => rfl)))
      (pss_cons (ps_set (i := 4) sc_law_no_arcs.nd rfl (.inl rfl) (pe_op op_modN (pe_op op_fdivN (pv 0) pe_int) pe_int))
      (pss_one (ps_if (pt_cmpR op_lt (pv 4) pe_int (nomark _))
        (pss_one (ps_expr (pe_cX c_law_of_two (takes_of rfl rfl rfl rfl) hr (by omega) (by rfl) (pa_cons (pv 4) (pa_cons (pv 3) (pa_cons (pe_lst (pa_cons pe_int (pa_cons pe_int (pa_cons pe_int (pa_cons pe_int pa_nil))))) pa_nil))))))
        (pss_one (ps_if (pt_cmpR op_lt (pv 4) pe_int (nomark _))
          (pss_one (ps_expr (pe_cX c_law_of_two (takes_of rfl rfl rfl rfl) hr (by omega) (by rfl) (pa_cons (pe_op op_sub (pv 4) pe_int) (pa_cons (pe_lst (pa_cons pe_int (pa_cons pe_int pa_nil))) (pa_cons (pv 3) pa_nil))))))
          (pss_one (ps_if (pt_cmpR op_eq (pv 4) pe_int (nomark _))
            (pss_one (ps_expr (pe_cX c_word_of (takes_of rfl rfl rfl rfl) hr (by omega) (by rfl) (pa_cons (pv 3) pa_nil))))
            (pss_one (ps_if (pt_cmpR op_eq (pv 4) pe_int (nomark _))
              (pss_one (ps_expr (pe_cX c_turned (takes_of rfl rfl rfl rfl) hr (by omega) (by rfl) (pa_cons (pv 3) (pa_cons pe_int pa_nil)))))
              (pss_one (ps_if (pt_cmpR op_eq (pv 4) pe_int (nomark _))
                (pss_one (ps_expr (pe_cX c_mirrored (takes_of rfl rfl rfl rfl) hr (by omega) (by rfl) (pa_cons (pv 3) pa_nil))))
                (pss_one (ps_if (pt_cmpR op_eq (pv 4) pe_int (nomark _))
                  (pss_one (ps_expr (pe_cX c_covered (takes_of rfl rfl rfl rfl) hr (by omega) (by rfl) (pa_cons (pv 3) pa_nil))))
                  (pss_one (ps_if (pt_cmpR op_eq (pv 4) pe_int (nomark _))
                    (pss_one (ps_expr (pe_cX c_number_of (takes_of rfl rfl rfl rfl) hr (by omega) (by rfl) (pa_cons (pv 3) pa_nil))))
                    (pss_one (ps_if (pt_cmpR op_eq (pv 4) pe_int (nomark _))
                      (pss_one (ps_expr (pe_cX c_one_road (takes_of rfl rfl rfl rfl) hr (by omega) (by rfl) (pa_cons (pv 3) pa_nil))))
                      (pss_one (ps_expr (pe_cX c_closed (takes_of rfl rfl rfl rfl) hr (by omega) (by rfl) (pa_cons (pv 3) pa_nil))))))))))))))))))))))), ?_⟩
    refine ⟨Nat.zero_le _, fun x0 n_x0 => ?_⟩
    have h_x0 : upd H x0 (.lst []) x0 = some (.lst []) := upd_same
    generalize upd H x0 (.lst []) = H1 at h_x0
    refine ⟨by show 1 ≤ sizeLine; decide, fun x1 n_x1 => ?_⟩
    have h_x1 : upd H1 x1 (.lst [V.int 0]) x1 = some (.lst [V.int 0]) := upd_same
    have h_x0 := same_new (o := .lst [V.int 0]) n_x1 _ _ h_x0
    generalize upd H1 x1 (.lst [V.int 0]) = H2 at h_x1 h_x0
    refine ⟨by show 3 ≤ sizeLine; decide, fun x2 n_x2 => ?_⟩
    have h_x2 : upd H2 x2 (.lst [V.int 1, V.int 0, V.int 2]) x2 = some (.lst [V.int 1, V.int 0, V.int 2]) := upd_same
    have h_x0 := same_new (o := .lst [V.int 1, V.int 0, V.int 2]) n_x2 _ _ h_x0
    have h_x1 := same_new (o := .lst [V.int 1, V.int 0, V.int 2]) n_x2 _ _ h_x1
    generalize upd H2 x2 (.lst [V.int 1, V.int 0, V.int 2]) = H3 at h_x2 h_x0 h_x1
    refine ⟨by show 4 ≤ sizeLine; decide, fun x3 n_x3 => ?_⟩
    have h_x3 : upd H3 x3 (.lst [V.int 2, V.int 3, V.int 0, V.int 1]) x3 = some (.lst [V.int 2, V.int 3, V.int 0, V.int 1]) := upd_same
    have h_x0 := same_new (o := .lst [V.int 2, V.int 3, V.int 0, V.int 1]) n_x3 _ _ h_x0
    have h_x1 := same_new (o := .lst [V.int 2, V.int 3, V.int 0, V.int 1]) n_x3 _ _ h_x1
    have h_x2 := same_new (o := .lst [V.int 2, V.int 3, V.int 0, V.int 1]) n_x3 _ _ h_x2
    generalize upd H3 x3 (.lst [V.int 2, V.int 3, V.int 0, V.int 1]) = H4 at h_x3 h_x0 h_x1 h_x2
    refine ⟨by show 4 ≤ sizeLine; decide, fun x4 n_x4 => ?_⟩
    have h_x4 : upd H4 x4 (.lst [V.int 1, V.int 0, V.int 3, V.int 4]) x4 = some (.lst [V.int 1, V.int 0, V.int 3, V.int 4]) := upd_same
    have h_x0 := same_new (o := .lst [V.int 1, V.int 0, V.int 3, V.int 4]) n_x4 _ _ h_x0
    have h_x1 := same_new (o := .lst [V.int 1, V.int 0, V.int 3, V.int 4]) n_x4 _ _ h_x1
    have h_x2 := same_new (o := .lst [V.int 1, V.int 0, V.int 3, V.int 4]) n_x4 _ _ h_x2
    have h_x3 := same_new (o := .lst [V.int 1, V.int 0, V.int 3, V.int 4]) n_x4 _ _ h_x3
    generalize upd H4 x4 (.lst [V.int 1, V.int 0, V.int 3, V.int 4]) = H5 at h_x4 h_x0 h_x1 h_x2 h_x3
    refine ⟨.int far, rfl, _, _, rfl, rfl, by show 2 ≤ sizeLine; decide, fun x5 n_x5 => ?_⟩
    dsimp only
    have h_x5 : upd H5 x5 (.lst [V.int (1 + far), V.int 0]) x5 = some (.lst [V.int (1 + far), V.int 0]) := upd_same
    have h_x0 := same_new (o := .lst [V.int (1 + far), V.int 0]) n_x5 _ _ h_x0
    have h_x1 := same_new (o := .lst [V.int (1 + far), V.int 0]) n_x5 _ _ h_x1
    have h_x2 := same_new (o := .lst [V.int (1 + far), V.int 0]) n_x5 _ _ h_x2
    have h_x3 := same_new (o := .lst [V.int (1 + far), V.int 0]) n_x5 _ _ h_x3
    have h_x4 := same_new (o := .lst [V.int (1 + far), V.int 0]) n_x5 _ _ h_x4
    generalize upd H5 x5 (.lst [V.int (1 + far), V.int 0]) = H6 at h_x5 h_x0 h_x1 h_x2 h_x3 h_x4
    refine ⟨_, rfl, by show 2 ≤ sizeLine; decide, fun x6 n_x6 => ?_⟩
    dsimp only
    have h_x6 : upd H6 x6 (.lst [V.int (-1), V.int 0]) x6 = some (.lst [V.int (-1), V.int 0]) := upd_same
    have h_x0 := same_new (o := .lst [V.int (-1), V.int 0]) n_x6 _ _ h_x0
    have h_x1 := same_new (o := .lst [V.int (-1), V.int 0]) n_x6 _ _ h_x1
    have h_x2 := same_new (o := .lst [V.int (-1), V.int 0]) n_x6 _ _ h_x2
    have h_x3 := same_new (o := .lst [V.int (-1), V.int 0]) n_x6 _ _ h_x3
    have h_x4 := same_new (o := .lst [V.int (-1), V.int 0]) n_x6 _ _ h_x4
    have h_x5 := same_new (o := .lst [V.int (-1), V.int 0]) n_x6 _ _ h_x5
    generalize upd H6 x6 (.lst [V.int (-1), V.int 0]) = H7 at h_x6 h_x0 h_x1 h_x2 h_x3 h_x4 h_x5
    refine ⟨by show 2 ≤ sizeLine; decide, fun x7 n_x7 => ?_⟩
    have h_x7 : upd H7 x7 (.lst [V.int 0, V.int 1]) x7 = some (.lst [V.int 0, V.int 1]) := upd_same
    have h_x0 := same_new (o := .lst [V.int 0, V.int 1]) n_x7 _ _ h_x0
    have h_x1 := same_new (o := .lst [V.int 0, V.int 1]) n_x7 _ _ h_x1
    have h_x2 := same_new (o := .lst [V.int 0, V.int 1]) n_x7 _ _ h_x2
    have h_x3 := same_new (o := .lst [V.int 0, V.int 1]) n_x7 _ _ h_x3
    have h_x4 := same_new (o := .lst [V.int 0, V.int 1]) n_x7 _ _ h_x4
    have h_x5 := same_new (o := .lst [V.int 0, V.int 1]) n_x7 _ _ h_x5
    have h_x6 := same_new (o := .lst [V.int 0, V.int 1]) n_x7 _ _ h_x6
    generalize upd H7 x7 (.lst [V.int 0, V.int 1]) = H8 at h_x7 h_x0 h_x1 h_x2 h_x3 h_x4 h_x5 h_x6
    refine ⟨_, rfl, by decide, by decide, fun x8 n_x8 => ?_⟩
    refine lc_range (lo := 0) (n := 42) (fun i H' => Same H8 H' ∧ ∃ s, H' x8 = some (.lst (vi s)) ∧ s.length = i) ⟨same_new n_x8, [], upd_same, rfl⟩ (fun i H' hi hP => ?_) (fun H9 hP => ?_)
    · obtain ⟨sm, s, hD, hl⟩ := hP
      refine ⟨rfl, ?_⟩
      unfold tYes
      refine iteT ⟨_, rfl, _, _, rfl, rfl, _, hD, ?_, same_upd sm n_x8, ?_⟩
      · rw [List.length_map, hl]
        exact small63 (by omega)
      · exact ⟨_, by rw [upd_same, vi_snoc'], by rw [List.length_append, hl]; rfl⟩
    obtain ⟨sm, s8, h_x8, hl8⟩ := hP
    have h_x0 := sm _ _ h_x0
    have h_x1 := sm _ _ h_x1
    have h_x2 := sm _ _ h_x2
    have h_x3 := sm _ _ h_x3
    have h_x4 := sm _ _ h_x4
    have h_x5 := sm _ _ h_x5
    have h_x6 := sm _ _ h_x6
    have h_x7 := sm _ _ h_x7
    refine ⟨by show 9 ≤ sizeLine; decide, fun p n_p => ?_⟩
    have h_p : upd H9 p (.lst [V.ref x0, V.ref x1, V.ref x2, V.ref x3, V.ref x4, V.ref x5, V.ref x6, V.ref x7, V.ref x8]) p = some (.lst [V.ref x0, V.ref x1, V.ref x2, V.ref x3, V.ref x4, V.ref x5, V.ref x6, V.ref x7, V.ref x8]) := upd_same
    have h_x0 := same_new (o := .lst [V.ref x0, V.ref x1, V.ref x2, V.ref x3, V.ref x4, V.ref x5, V.ref x6, V.ref x7, V.ref x8]) n_p _ _ h_x0
    have h_x1 := same_new (o := .lst [V.ref x0, V.ref x1, V.ref x2, V.ref x3, V.ref x4, V.ref x5, V.ref x6, V.ref x7, V.ref x8]) n_p _ _ h_x1
    have h_x2 := same_new (o := .lst [V.ref x0, V.ref x1, V.ref x2, V.ref x3, V.ref x4, V.ref x5, V.ref x6, V.ref x7, V.ref x8]) n_p _ _ h_x2
    have h_x3 := same_new (o := .lst [V.ref x0, V.ref x1, V.ref x2, V.ref x3, V.ref x4, V.ref x5, V.ref x6, V.ref x7, V.ref x8]) n_p _ _ h_x3
    have h_x4 := same_new (o := .lst [V.ref x0, V.ref x1, V.ref x2, V.ref x3, V.ref x4, V.ref x5, V.ref x6, V.ref x7, V.ref x8]) n_p _ _ h_x4
    have h_x5 := same_new (o := .lst [V.ref x0, V.ref x1, V.ref x2, V.ref x3, V.ref x4, V.ref x5, V.ref x6, V.ref x7, V.ref x8]) n_p _ _ h_x5
    have h_x6 := same_new (o := .lst [V.ref x0, V.ref x1, V.ref x2, V.ref x3, V.ref x4, V.ref x5, V.ref x6, V.ref x7, V.ref x8]) n_p _ _ h_x6
    have h_x7 := same_new (o := .lst [V.ref x0, V.ref x1, V.ref x2, V.ref x3, V.ref x4, V.ref x5, V.ref x6, V.ref x7, V.ref x8]) n_p _ _ h_x7
    have h_x8 := same_new (o := .lst [V.ref x0, V.ref x1, V.ref x2, V.ref x3, V.ref x4, V.ref x5, V.ref x6, V.ref x7, V.ref x8]) n_p _ _ h_x8
    generalize upd H9 p (.lst [V.ref x0, V.ref x1, V.ref x2, V.ref x3, V.ref x4, V.ref x5, V.ref x6, V.ref x7, V.ref x8]) = H10 at h_p h_x0 h_x1 h_x2 h_x3 h_x4 h_x5 h_x6 h_x7 h_x8
    obtain ⟨v, hv, y, s, rfl, hy, hb, hl⟩ := pickL (xs := [V.ref x0, V.ref x1, V.ref x2, V.ref x3, V.ref x4, V.ref x5, V.ref x6, V.ref x7, V.ref x8]) (p := fun v => ∃ (y : Addr) (s : List Int), v = .ref y ∧ H10 y = some (.lst (vi s)) ∧ ¬ Rm.Good s ∧ s.length ≤ 42) (fun x hx => by
      simp only [List.mem_cons, List.not_mem_nil, or_false] at hx
      rcases hx with rfl | rfl | rfl | rfl | rfl | rfl | rfl | rfl | rfl
      · exact ⟨x0, [], rfl, h_x0, bad_len (by decide), by show 0 ≤ 42; decide⟩
      · exact ⟨x1, [0], rfl, h_x1, bad_len (by decide), by show 1 ≤ 42; decide⟩
      · exact ⟨x2, [1, 0, 2], rfl, h_x2, bad_at 2 (by decide) (by decide), by show 3 ≤ 42; decide⟩
      · exact ⟨x3, [2, 3, 0, 1], rfl, h_x3, fun G => G.2.2 0 1 (by decide) (by decide) (by decide) (by decide), by show 4 ≤ 42; decide⟩
      · exact ⟨x4, [1, 0, 3, 4], rfl, h_x4, bad_at 3 (by decide) (by decide), by show 4 ≤ 42; decide⟩
      · exact ⟨x5, [1 + far, 0], rfl, h_x5, bad_at 0 (Nat.zero_lt_succ _) (fun z => by have h1 : Rm.g [1 + far, 0] 0 = 1 + far := rfl; rw [h1] at z; have h2 : (([1 + far, 0] : List Int).length : Int) = 2 := rfl; omega), by show 2 ≤ 42; decide⟩
      · exact ⟨x6, [-1, 0], rfl, h_x6, bad_at 0 (by decide) (by decide), by show 2 ≤ 42; decide⟩
      · exact ⟨x7, [0, 1], rfl, h_x7, bad_at 0 (by decide) (by decide), by show 2 ≤ 42; decide⟩
      · exact ⟨x8, s8, rfl, h_x8, bad_len (by omega), by omega⟩) (Nat.zero_lt_succ _) (n := 9) rfl c
    refine ⟨.ref p, rfl, .int c, rfl, _, _, rfl, rfl, (show (9 : Int) ≠ 0 by decide), p, _, _, _, rfl, rfl, sqL h_p, hv, ?_⟩
    refine ⟨.int c, rfl, _, _, rfl, rfl, ⟨by decide, by decide⟩, _, _, rfl, rfl, (show (15 : Int) ≠ 0 by decide), ?_⟩
    dsimp only
    generalize (c.fdiv 9).fmod 15 = way
    refine ⟨.int way, rfl, _, _, rfl, rfl, _, rfl, ite2 (fun e => ?_) (fun e => ?_)⟩
    · refine ⟨.int way, rfl, .ref y, rfl, by show 4 ≤ sizeLine; decide, fun z nz => ?_⟩
      exact ⟨way, y, z, s, [1, 0, 3, 2], rfl, sqL (same_new nz _ _ hy), sqL upd_same, by omega, by decide, fun _ => q, fun g => absurd g hb⟩
    refine ⟨.int way, rfl, _, _, rfl, rfl, _, rfl, ite2 (fun e => ?_) (fun e => ?_)⟩
    · refine ⟨.int way, rfl, _, _, rfl, rfl, by show 2 ≤ sizeLine; decide, fun z nz => ?_⟩
      exact ⟨.ref y, rfl, _, z, y, [1, 0], s, rfl, sqL upd_same, sqL (same_new nz _ _ hy), by decide, by omega, fun _ => q, fun _ g => absurd g hb⟩
    refine ⟨.int way, rfl, rfl, _, rfl, ite2 (fun e => ?_) (fun e => ?_)⟩
    · exact ⟨.ref y, rfl, y, s, rfl, sqL hy, by omega, hb, q⟩
    refine ⟨.int way, rfl, rfl, _, rfl, ite2 (fun e => ?_) (fun e => ?_)⟩
    · exact ⟨.ref y, rfl, _, s, 1, rfl, sqL hy, by omega, hb, q⟩
    refine ⟨.int way, rfl, rfl, _, rfl, ite2 (fun e => ?_) (fun e => ?_)⟩
    · exact ⟨.ref y, rfl, y, s, rfl, sqL hy, by omega, hb, q⟩
    refine ⟨.int way, rfl, rfl, _, rfl, ite2 (fun e => ?_) (fun e => ?_)⟩
    · exact ⟨.ref y, rfl, y, s, rfl, sqL hy, by omega, fun _ => q, fun g => absurd g hb⟩
    refine ⟨.int way, rfl, rfl, _, rfl, ite2 (fun e => ?_) (fun e => ?_)⟩
    · exact ⟨.ref y, rfl, y, s, rfl, sqL hy, by omega, hb, q⟩
    refine ⟨.int way, rfl, rfl, _, rfl, ite2 (fun e => ?_) (fun e => ?_)⟩
    · exact ⟨.ref y, rfl, y, s, rfl, sqL hy, by omega, hb, q⟩
    exact ⟨.ref y, rfl, y, s, rfl, sqL hy, by omega, hb, q⟩
end

end Rv

namespace Rv
open PySem PySem.Spec PyProof.Rows L2
open Rm (zs at')
/-! ### arcs_of, of any text -/
abbrev s_arcs_of : Stmt := topS 12
theorem sc_arcs_of : FnScope ["word", "found", "open_ones", "k", "other"] ["word"] (defScope s_arcs_of) := ⟨rfl, rfl, rfl, by decide +kernel, rfl, by decide +kernel, by decide +kernel⟩
theorem sgL (c : Nat) : decide (V.str ⟨#[c]⟩ = V.str (("(" : String) : Str)) = decide (c = 40) := by
  rw [tx_lp]
  by_cases h : c = 40
  · subst h; rfl
  · rw [decide_eq_false h]
    refine decide_eq_false fun z => h ?_
    have := tx_inj (a := [c]) (b := [40]) (V.str.inj z)
    exact (List.cons.inj this).1
theorem sgR (c : Nat) : decide (V.str ⟨#[c]⟩ = V.str ((")" : String) : Str)) = decide (c = 41) := by
  rw [tx_rp]
  by_cases h : c = 41
  · subst h; rfl
  · rw [decide_eq_false h]
    refine decide_eq_false fun z => h ?_
    have := tx_inj (a := [c]) (b := [41]) (V.str.inj z)
    exact (List.cons.inj this).1
theorem cs_get {cs : List Nat} {i : Nat} (h : i < cs.length) : cs[i]? = some (cs.getD i 0) := by
  rw [List.getD_eq_getElem?_getD, List.getElem?_eq_getElem h]
  rfl
theorem last_of {p : List Nat} (h : p ≠ []) : ∃ l t, p = l ++ [t] ∧ p.getLastD 0 = t ∧ p.dropLast = l := by
  rcases List.eq_nil_or_concat p with e | ⟨l, t, e⟩
  · exact absurd e h
  · exact ⟨l, t, by rw [e, List.concat_eq_append], by rw [e]; simp, by rw [e]; simp⟩
def spArcsX (C : Addr) : Sp := fun vs H Q E => ∃ cs : List Nat, vs = [.str (tx cs)] ∧ cs.length ≤ 200 ∧ (∀ f, Rm.rdt cs = some f → NewL H Q f) ∧ (Rm.rdt cs = none → ∀ H', Same H H' → E (.ref C) none H')
section
variable {P : Program} {w : World} {K : PySem.W.Frag} {mg : Str → Option Value} {base : Heap}
theorem ok_arcs_of {C_NotRead : Addr} {tM : Tok} (D : Dfn K mg "arcs_of" s_arcs_of ["word"]) (B : Blt mg) (g_MOST : mg "MOST" = some (.int 20 tM)) (x_NotRead : ExcF K mg "NotRead" C_NotRead) : CalX P w K mg base 1 "arcs_of" (spArcsX C_NotRead) := by
  refine D.calX sc_arcs_of (fun vs H Q E h => ?_) (fun f cdv A outer s0 H vs Q E hr h => ?_)
  · obtain ⟨cs, rfl, _⟩ := h
    rfl
  · obtain ⟨cs, rfl, hm, q1, q2⟩ := h
    refine ⟨_, (pss_cons (ps_set (i := 1) sc_arcs_of.nd rfl (.inl rfl) (pe_op op_rep (pe_lst (pa_cons pe_int pa_nil)) (pe_callB call_len_str (by rfl) B.len_ PySem.boot_len (pa_cons (pv 0) pa_nil))))
      (pss_cons (ps_set (i := 2) sc_arcs_of.nd rfl (.inl rfl) (pe_lst pa_nil))
      (pss_cons (ps_for (passes_of rfl) rfl (pi_range1 (by rfl) B.range_ (pa_cons (pe_callB call_len_str (by rfl) B.len_ PySem.boot_len (pa_cons (pv 0) pa_nil)) pa_nil)) (pg_name (i := 3) sc_arcs_of.nd rfl (.inl rfl))
        (pss_one (ps_if (pt_cmpR op_eq (pe_item_str (pv 0) (pv 3) (fun _ _ => rfl)) pe_str (nomark _))
          (pss_one (ps_expr (pe_bm PySem.F.plainAttrs_list PySem.F.slot_list_append PySem.F.type_list_append mt_append (pv 2) (pa_cons (pv 3) pa_nil))))
          (pss_one (ps_if (PW.pt (pw_and (pt_cmpR op_eq (pe_item_str (pv 0) (pv 3) (fun _ _ => rfl)) pe_str (nomark _)) (pw_and1 (pt_cmpR op_gt (pe_callB call_len_seq (by rfl) B.len_ PySem.boot_len (pa_cons (pv 2) pa_nil)) pe_int (nomark _)))))
            (pss_cons (ps_set (i := 4) sc_arcs_of.nd rfl (.inl rfl) (pe_bm0 PySem.F.plainAttrs_list PySem.F.slot_list_pop PySem.F.type_list_pop mt_pop (pv 2)))
            (pss_cons (ps_asg (pv 4) (pg_sub (pv 1) (pv 3) set_list))
            (pss_one (ps_asg (pv 3) (pg_sub (pv 1) (pv 4) set_list)))))
            (pss_one (ps_raise rfl (takes_of rfl rfl rfl rfl) (pmk_own PySem.F.excBase_ValueError x_NotRead.x x_NotRead.g x_NotRead.k (raises_own x_NotRead.b x_NotRead.t) (by exact rfl)))))))))
      (pss_cons (ps_if (PW.pt (pw_or (pt_cmpR op_gt (pe_callB call_len_seq (by rfl) B.len_ PySem.boot_len (pa_cons (pv 2) pa_nil)) pe_int (nomark _)) (pw_or1 (pt_not (pt_chain op_le op_le pe_int (pe_callB call_len_str (by rfl) B.len_ PySem.boot_len (pa_cons (pv 0) pa_nil)) (pe_op op_mul pe_int (pe_glob (v := .int 20) (by rfl) g_MOST ⟨_, rfl⟩)))))))
        (pss_one (ps_raise rfl (takes_of rfl rfl rfl rfl) (pmk_own PySem.F.excBase_ValueError x_NotRead.x x_NotRead.g x_NotRead.k (raises_own x_NotRead.b x_NotRead.t) (by exact rfl))))
        pss_nil)
      (pss_one (ps_ret (pv 1))))))), ?_⟩
    have hwl : (tx cs).length = cs.length := tx_len cs
    have hline : (tx cs).length ≤ sizeLine := by rw [hwl]; exact small63' (by omega)
    refine ⟨by show 1 ≤ sizeLine; decide, fun x nx => ?_⟩
    refine ⟨_, rfl, _, rfl, hline, x, _, _, rfl, rfl, upd_same, by omega, by rw [hwl]; omega, ?_, fun p np => ?_⟩
    · rw [hwl]
      exact small63' (by show 1 * _ ≤ _; omega)
    rw [show (((tx cs).length : Nat) : Int).toNat = cs.length by rw [hwl]; omega, rep1]
    have sx : Same H (upd H x (.lst [V.int 0])) := same_new nx
    have np0 : H p = none := sx.free np
    refine ⟨Nat.zero_le _, fun o no => ?_⟩
    have sp' := same_new (o := .lst (List.replicate cs.length (V.int 0))) np
    have no0 : H o = none := sx.free (sp'.free no)
    have hpo : p ≠ o := ne_of_none upd_same no
    refine ⟨_, rfl, _, rfl, hline, _, rfl, by omega, by rw [hwl]; omega, ?_⟩
    rw [show (((tx cs).length : Nat) : Int).toNat = cs.length by rw [hwl]; omega]
    refine for_range (lo := 0) (n := cs.length) (fun i σ H' => ∃ y3 y4 fd pl, σ = [some (.str (tx cs)), some (.ref p), some (.ref o), y3, y4] ∧ Same H H' ∧ H' p = some (.lst (vn fd)) ∧ H' o = some (.lst (vn pl)) ∧ Rm.rst cs cs.length i = some (fd, pl))
      ⟨none, none, List.replicate cs.length 0, [], rfl, (sx.trans sp').trans (same_new no), by rw [upd_ne hpo, upd_same, vn_rep], upd_same, rfl⟩ (fun i σ H' hi hP => ?_) (fun σ H' hP => ?_)
    · obtain ⟨y3, y4, fd, pl, rfl, sm, hp, ho, hst⟩ := hP
      rw [Int.zero_add]
      have hget := cs_get hi
      obtain ⟨hfl, hpl⟩ := Rm.rst_ok hst
      have hpll := Rm.rst_len hst
      have nxt : Rm.rst cs cs.length (i + 1) = if cs.getD i 0 = 40 then some (fd, pl ++ [i]) else if cs.getD i 0 = 41 ∧ pl ≠ [] then some ((fd.set i (pl.getLastD 0)).set (pl.getLastD 0) i, pl.dropLast) else none := by
        show (match Rm.rst cs cs.length i with
          | none => none
          | some (f, p) => if cs.getD i 0 = 40 then some (f, p ++ [i]) else if cs.getD i 0 = 41 ∧ p ≠ [] then some ((f.set i (p.getLastD 0)).set (p.getLastD 0) i, p.dropLast) else none) = _
        rw [hst]
      refine ⟨_, rfl, .int i, rfl, _, _, _, rfl, rfl, by omega, by omega, by rw [hwl]; omega, tx_get (by rw [Int.toNat_natCast]; exact hget), rfl, _, rfl, ?_⟩
      rw [sgL]
      refine ite2 (fun e => ?_) (fun e => ?_)
      · rw [if_pos (of_decide_eq_true e)] at nxt
        refine ⟨.ref o, rfl, .inl ⟨rfl, _, sqL ho⟩, .int i, rfl, o, _, _, rfl, rfl, ho, ?_, ?_⟩
        · rw [vn_len]
          exact small63 (by omega)
        · exact ⟨_, _, fd, _, rfl, same_upd sm no0, by rw [upd_ne hpo]; exact hp, by rw [upd_same, vn_push], nxt⟩
      · rw [if_neg (dn e)] at nxt
        have out : ¬ (cs.getD i 0 = 41 ∧ pl ≠ []) → E (.ref C_NotRead) none H' := fun z => by
          rw [if_neg z] at nxt
          exact q2 (Rm.rdt_none (by omega) nxt) _ sm
        refine ⟨_, rfl, .int i, rfl, _, _, _, rfl, rfl, by omega, by omega, by rw [hwl]; omega, tx_get (by rw [Int.toNat_natCast]; exact hget), rfl, _, rfl, ?_⟩
        rw [sgR]
        refine ite2 (fun e2 => ?_) (fun e2 => out fun z => dn e2 z.1)
        have e2 := of_decide_eq_true e2
        refine ⟨.ref o, rfl, o, _, rfl, .inl (sqL ho), _, _, rfl, rfl, _, rfl, ite2 (fun e3 => ?_) (fun e3 => out fun z => dn e3 ?_)⟩
        · have e3 := of_decide_eq_true e3
          rw [vn_len] at e3
          have hne : pl ≠ [] := fun z => by rw [z] at e3; exact absurd e3 (by decide)
          rw [if_pos ⟨e2, hne⟩] at nxt
          obtain ⟨l, t, rfl, el, ed⟩ := last_of hne
          rw [el, ed] at nxt
          have ht : t < i := hpl t (by simp)
          refine ⟨.ref o, rfl, .inl ⟨rfl, _, sqL ho⟩, o, _, _, rfl, rfl, ho, vn_last l t, ?_⟩
          rw [vn_drop]
          have sm2 : Same H (upd H' o (.lst (vn l))) := same_upd sm no0
          have hp2 : (upd H' o (.lst (vn l))) p = some (.lst (vn fd)) := by rw [upd_ne hpo]; exact hp
          have ho2 : (upd H' o (.lst (vn l))) o = some (.lst (vn l)) := upd_same
          generalize upd H' o (.lst (vn l)) = H2 at sm2 hp2 ho2
          refine ⟨.int t, rfl, .ref p, rfl, .int i, rfl, p, _, _, i, rfl, rfl, hp2, ixN_nat (by rw [vn_len, hfl]; exact hi), ?_⟩
          rw [vn_set]
          have sm3 : Same H (upd H2 p (.lst (vn (fd.set i t)))) := same_upd sm2 np0
          have hp3 : (upd H2 p (.lst (vn (fd.set i t)))) p = some (.lst (vn (fd.set i t))) := upd_same
          have ho3 : (upd H2 p (.lst (vn (fd.set i t)))) o = some (.lst (vn l)) := by rw [upd_ne hpo.symm]; exact ho2
          generalize upd H2 p (.lst (vn (fd.set i t))) = H3 at sm3 hp3 ho3
          refine ⟨.int i, rfl, .ref p, rfl, .int t, rfl, p, _, _, t, rfl, rfl, hp3, ixN_nat (by rw [vn_len, List.length_set, hfl]; omega), ?_⟩
          rw [vn_set]
          exact ⟨_, _, _, _, rfl, same_upd sm3 np0, upd_same, by rw [upd_ne hpo.symm]; exact ho3, nxt⟩
        · rw [vn_len]
          have := List.length_pos_iff.mpr z.2
          omega
    · obtain ⟨y3, y4, fd, pl, rfl, sm, hp, ho, hst⟩ := hP
      have hrd : Rm.rdt cs = if pl = [] ∧ 2 ≤ cs.length ∧ cs.length ≤ 40 then some fd else none := by
        unfold Rm.rdt
        rw [hst]
      have out : ¬ (pl = [] ∧ 2 ≤ cs.length ∧ cs.length ≤ 40) → E (.ref C_NotRead) none H' := fun z => by
        rw [if_neg z] at hrd
        exact q2 hrd _ sm
      refine ⟨.ref o, rfl, o, _, rfl, .inl (sqL ho), _, _, rfl, rfl, _, rfl, ite2 (fun e => out fun z => ?_) (fun e => ?_)⟩
      · have e := of_decide_eq_true e
        rw [z.1] at e
        exact absurd e (by decide)
      · have e := dn e
        rw [vn_len] at e
        have hnil : pl = [] := List.length_eq_zero_iff.mp (by omega)
        refine ⟨_, rfl, _, rfl, hline, _, _, rfl, rfl, _, rfl, ite2 (fun e2 => ?_) (fun e2 => ?_)⟩
        · have e2 := of_decide_eq_true e2
          rw [hwl] at e2
          refine ⟨_, _, rfl, rfl, .inl ⟨by decide, by decide⟩, _, _, rfl, rfl, _, rfl, ite2 (fun e3 => ?_) (fun e3 => ?_)⟩
          · exact out fun z => nt e3 (by rw [hwl]; omega)
          · have e3 := nd e3
            rw [hwl] at e3
            rw [if_pos ⟨hnil, by omega, by omega⟩] at hrd
            exact ⟨_, rfl, q1 fd hrd H' p sm np0 hp⟩
        · have e2 := dn e2
          rw [hwl] at e2
          exact ⟨_, rfl, iteT (out fun z => by omega)⟩
end

end Rv

namespace Rv
open PySem PySem.Spec PyProof.Rows L2
open Rm (zs at')
/-! ### the law -/
abbrev s_law : Stmt := topS 46
theorem sc_law : FnScope ["script", "way", "cell", "far", "full", "told", "e", "k"] ["script"] (defScope s_law) := ⟨rfl, rfl, rfl, by decide +kernel, rfl, by decide +kernel, by decide +kernel⟩
theorem good_full : Rm.Good ((List.range 40).map fun k : Nat => 39 - (k : Int)) := good_of (by decide) (by decide +kernel) (by decide +kernel)
section
variable {P : Program} {w : World} {K : PySem.W.Frag} {mg : Str → Option Value} {base : Heap}
theorem ok_law {C_NoArcs C_NoNumber C_Unlike C_TooMany C_NotRead C_RiverError : Addr} {f : Addr} {fd : FuncData} (F : Fun K "law" "law" s_law f fd) (B : Blt mg) (c_law_cell_at : Cal P w K mg base 1 "_law_cell_at" (spCell K)) (c_law_no_arcs : CalX P w K mg base 6 "_law_no_arcs" (spNoArcs C_NoArcs)) (c_law_no_number : CalX P w K mg base 3 "_law_no_number" (spNoNum C_NoNumber))
    (c_law_unlike : CalX P w K mg base 6 "_law_unlike" (spUnl C_Unlike)) (c_covered : CalX P w K mg base 3 "covered" (spCoverX K C_NoArcs C_TooMany)) (c_law_of_two : CalX P w K mg base 5 "_law_of_two" (spOf2 K C_NoArcs C_Unlike C_TooMany)) (c_arcs_of : CalX P w K mg base 1 "arcs_of" (spArcsX C_NotRead))
    (c_law_which : CalP P w K mg base 1 "_law_which" (spWhich K C_NoArcs C_NoNumber C_Unlike C_TooMany C_NotRead)) (g_RiverError : mg "RiverError" = some (.ref C_RiverError))
    (x_NoArcs : ExcF K mg "NoArcs" C_NoArcs) (q_NoArcs_NoArcs : PySem.W.kitOne K (.ref C_NoArcs) (.ref C_NoArcs) = some true) (q_NoArcs_NoNumber : PySem.W.kitOne K (.ref C_NoArcs) (.ref C_NoNumber) = some false) (q_NoArcs_Unlike : PySem.W.kitOne K (.ref C_NoArcs) (.ref C_Unlike) = some false) (q_NoArcs_TooMany : PySem.W.kitOne K (.ref C_NoArcs) (.ref C_TooMany) = some false) (q_NoArcs_NotRead : PySem.W.kitOne K (.ref C_NoArcs) (.ref C_NotRead) = some false) (q_NoArcs_V : PySem.W.kitOne K (.ref C_NoArcs) (.type "ValueError") = some true) (m_NoArcs : PySem.W.exmOne K (.ref C_NoArcs) (.ref C_RiverError) = some true) (x_NoNumber : ExcF K mg "NoNumber" C_NoNumber) (q_NoNumber_NoArcs : PySem.W.kitOne K (.ref C_NoNumber) (.ref C_NoArcs) = some false) (q_NoNumber_NoNumber : PySem.W.kitOne K (.ref C_NoNumber) (.ref C_NoNumber) = some true) (q_NoNumber_Unlike : PySem.W.kitOne K (.ref C_NoNumber) (.ref C_Unlike) = some false) (q_NoNumber_TooMany : PySem.W.kitOne K (.ref C_NoNumber) (.ref C_TooMany) = some false) (q_NoNumber_NotRead : PySem.W.kitOne K (.ref C_NoNumber) (.ref C_NotRead) = some false) (q_NoNumber_V : PySem.W.kitOne K (.ref C_NoNumber) (.type "ValueError") = some true) (m_NoNumber : PySem.W.exmOne K (.ref C_NoNumber) (.ref C_RiverError) = some true) (x_Unlike : ExcF K mg "Unlike" C_Unlike) (q_Unlike_NoArcs : PySem.W.kitOne K (.ref C_Unlike) (.ref C_NoArcs) = some false) (q_Unlike_NoNumber : PySem.W.kitOne K (.ref C_Unlike) (.ref C_NoNumber) = some false) (q_Unlike_Unlike : PySem.W.kitOne K (.ref C_Unlike) (.ref C_Unlike) = some true) (q_Unlike_TooMany : PySem.W.kitOne K (.ref C_Unlike) (.ref C_TooMany) = some false) (q_Unlike_NotRead : PySem.W.kitOne K (.ref C_Unlike) (.ref C_NotRead) = some false) (q_Unlike_V : PySem.W.kitOne K (.ref C_Unlike) (.type "ValueError") = some true) (m_Unlike : PySem.W.exmOne K (.ref C_Unlike) (.ref C_RiverError) = some true) (x_TooMany : ExcF K mg "TooMany" C_TooMany) (q_TooMany_NoArcs : PySem.W.kitOne K (.ref C_TooMany) (.ref C_NoArcs) = some false) (q_TooMany_NoNumber : PySem.W.kitOne K (.ref C_TooMany) (.ref C_NoNumber) = some false) (q_TooMany_Unlike : PySem.W.kitOne K (.ref C_TooMany) (.ref C_Unlike) = some false) (q_TooMany_TooMany : PySem.W.kitOne K (.ref C_TooMany) (.ref C_TooMany) = some true) (q_TooMany_NotRead : PySem.W.kitOne K (.ref C_TooMany) (.ref C_NotRead) = some false) (q_TooMany_V : PySem.W.kitOne K (.ref C_TooMany) (.type "ValueError") = some true) (m_TooMany : PySem.W.exmOne K (.ref C_TooMany) (.ref C_RiverError) = some true) (x_NotRead : ExcF K mg "NotRead" C_NotRead) (q_NotRead_NoArcs : PySem.W.kitOne K (.ref C_NotRead) (.ref C_NoArcs) = some false) (q_NotRead_NoNumber : PySem.W.kitOne K (.ref C_NotRead) (.ref C_NoNumber) = some false) (q_NotRead_Unlike : PySem.W.kitOne K (.ref C_NotRead) (.ref C_Unlike) = some false) (q_NotRead_TooMany : PySem.W.kitOne K (.ref C_NotRead) (.ref C_TooMany) = some false) (q_NotRead_NotRead : PySem.W.kitOne K (.ref C_NotRead) (.ref C_NotRead) = some true) (q_NotRead_V : PySem.W.kitOne K (.ref C_NotRead) (.type "ValueError") = some true) (m_NotRead : PySem.W.exmOne K (.ref C_NotRead) (.ref C_RiverError) = some true) :
    FnOk P w K mg base CX0 7 f fd ["script"] (spLaw K) := by
  refine F.ok sc_law (fun vs H Q E h => ?_) (fun cdv A outer s0 H vs Q E hr h => ?_)
  · obtain ⟨a, ns, rfl, _⟩ := h
    rfl
  · obtain ⟨a, ns, rfl, hS, h63, q⟩ := h
    refine ⟨_, (pss_cons (ps_set (i := 1) sc_law.nd rfl (.inr rfl) (pe_op op_modN (pe_c c_law_cell_at hr (by omega) (by rfl) (pa_cons (pv 0) (pa_cons pe_int pa_nil))) pe_int))
      (pss_cons (ps_set (i := 2) sc_law.nd rfl (.inl rfl) (pe_c c_law_cell_at hr (by omega) (by rfl) (pa_cons (pv 0) (pa_cons pe_int pa_nil))))
      (pss_cons (ps_set (i := 3) sc_law.nd rfl (.inl rfl) (pe_op op_modN (pe_c c_law_cell_at hr (by omega) (by rfl) (pa_cons (pv 0) (pa_cons pe_int pa_nil))) (pe_op op_pow pe_int pe_int)))
      (pss_cons (ps_setLc (i := 4) (own := [("k", 7)]) (g := gName 7) (tt := tYes) rfl sc_law.nd rfl rfl (sw_true rfl rfl rfl (by decide +kernel)) (pi_range1 (by rfl) B.range_ (pa_cons pe_int pa_nil)) (blkOk_by (N := ["script", "way", "cell", "far", "full", "told", "e", "k"]) (sc := defScope s_law) (by decide +kernel)) (fun _ _ _ _ _ => pg_name (i := 7) sc_law.nd rfl (Or.inl rfl)) (fun _ _ _ _ _ => pts_nil) (fun _ _ _ _ _ => (pe_op op_sub pe_int (pv 7))))
      (pss_cons (ps_set (i := 5) sc_law.nd rfl (.inl rfl) (pe_lst pa_nil))
      (C8.pss_cut (ps_try_as (i := 6) (Wout := fun _ _ _ _ => False) rfl rfl sc_law.nd rfl rfl ⟨rfl, by decide, .inl g_RiverError⟩ takes0 (fun W pn xe tk _ => (pss_one (ps_if (pt_cmpR op_eq (pv 1) pe_int (nomark _))
          (pss_one (ps_expr (pe_cX c_law_no_arcs tk hr (by omega) (by rfl) (pa_cons (pv 2) (pa_cons (pe_op op_add (pv 3) pe_int) pa_nil)))))
          (pss_one (ps_if (pt_cmpR op_eq (pv 1) pe_int (nomark _))
            (pss_one (ps_expr (pe_cX c_law_no_number tk hr (by omega) (by rfl) (pa_cons (pv 2) (pa_cons (pv 3) pa_nil)))))
            (pss_one (ps_if (pt_cmpR op_eq (pv 1) pe_int (nomark _))
              (pss_one (ps_expr (pe_cX c_law_unlike tk hr (by omega) (by rfl) (pa_cons (pv 2) pa_nil))))
              (pss_one (ps_if (PW.pt (pw_and (pt_cmpR op_eq (pv 1) pe_int (nomark _)) (pw_and1 (pt_cmpR op_eq (pe_op op_modN (pv 2) pe_int) pe_int (nomark _)))))
                (pss_one (ps_expr (pe_cX c_covered tk hr (by omega) (by rfl) (pa_cons (pv 4) pa_nil))))
                (pss_one (ps_if (pt_cmpR op_eq (pv 1) pe_int (nomark _))
                  (pss_one (ps_expr (pe_cX c_law_of_two tk hr (by omega) (by rfl) (pa_cons pe_int (pa_cons (pe_ix (r := rIxL K) ix_list (pe_lst (pa_cons (pv 4) (pa_cons (pe_lst (pa_cons pe_int (pa_cons pe_int pa_nil))) pa_nil))) (pe_op op_sub (pe_op op_modN (pv 2) pe_int) pe_int) (fun _ _ => rfl)) (pa_cons (pe_ix (r := rIxL K) ix_list (pe_lst (pa_cons (pe_lst (pa_cons pe_int (pa_cons pe_int pa_nil))) (pa_cons (pv 4) pa_nil))) (pe_op op_sub (pe_op op_modN (pv 2) pe_int) pe_int) (fun _ _ => rfl)) pa_nil))))))
                  (pss_one (ps_expr (pe_cX c_arcs_of tk hr (by omega) (by rfl) (pa_cons (pe_ix (r := rIxL K) ix_list (pe_lst (pa_cons pe_str (pa_cons pe_str (pa_cons pe_str (pa_cons pe_str (pa_cons pe_str (pa_cons pe_str (pa_cons pe_str (pa_cons pe_str pa_nil))))))))) (pe_op op_modN (pv 2) pe_int) (fun _ _ => rfl)) pa_nil)))))))))))))))
        (fun a oe cls d pn hz hf => (pss_one (ps_set (i := 5) sc_law.nd rfl (.inl rfl) (pe_cP (j := 6) c_law_which (by exact ⟨hr.dp, hr.un⟩) (show 1 ≤ 6 by decide) (p := (a, oe)) List.mem_cons_self (fun vs H Q E h => ⟨cls, d, hz, hf, h⟩) (by rfl) (pa_cons (pv 6) pa_nil))))))
      (pss_one (ps_ret (pe_cmpR (op_eqD (hu64 hr)) (pv 5) (pe_lc (own := [("k", 7)]) (g := gName 7) (tt := tYes) rfl sc_law.nd (pi_range1 (by rfl) B.range_ (pa_cons pe_int pa_nil)) (blkOk_by (N := ["script", "way", "cell", "far", "full", "told", "e", "k"]) (sc := defScope s_law) (by decide +kernel)) (fun _ _ _ _ _ => pg_name (i := 7) sc_law.nd rfl (Or.inl rfl)) (fun _ _ _ _ _ => pts_nil) (fun _ _ _ _ _ => (pe_or (pe_cmpR op_eq (pv 7) (pv 1) (nomark _)) (pe_one (pe_cmpR op_eq (pv 7) pe_int (nomark _)))))) (nomark _)))))))))), ?_⟩
    refine ⟨.ref a, rfl, a, ns, 0, rfl, hS, by decide, fun c0 => ⟨_, _, rfl, rfl, (show (5 : Int) ≠ 0 by decide), ?_⟩⟩
    have w0 := Int.fmod_nonneg_of_pos c0 (show (0 : Int) < 5 by decide)
    have w1 := Int.fmod_lt_of_pos c0 (show (0 : Int) < 5 by decide)
    refine ⟨.ref a, rfl, a, ns, 1, rfl, hS, by decide, fun cell => ?_⟩
    refine ⟨.ref a, rfl, a, ns, 2, rfl, hS, by decide, fun c2 => ⟨_, _, rfl, rfl, ⟨by decide, by decide, by decide⟩, c2, _, rfl, rfl, (show (10 ^ (59 : Int).toNat : Int) ≠ 0 by decide), ?_⟩⟩
    have f0 := Int.fmod_nonneg_of_pos c2 (show (0 : Int) < 10 ^ (59 : Int).toNat by decide)
    dsimp only
    generalize hfar : c2.fmod (10 ^ (59 : Int).toNat) = far
    replace f0 : 0 ≤ far := by rw [← hfar]; exact f0
    clear hfar
    generalize c0.fmod 5 = way at w0 w1
    -- full
    refine ⟨_, rfl, by decide, by decide, fun pf n_pf => ?_⟩
    refine lc_range (lo := 0) (n := 40) (fun i H' => Same H H' ∧ H' pf = some (.lst (vi ((List.range i).map fun k : Nat => 39 - (k : Int))))) ⟨same_new n_pf, upd_same⟩ (fun i H' hi hP => ?_) (fun H1 hP => ?_)
    · obtain ⟨sm, hD⟩ := hP
      refine ⟨rfl, ?_⟩
      unfold tYes
      refine iteT ⟨_, rfl, _, _, rfl, rfl, _, hD, ?_, same_upd sm n_pf, ?_⟩
      · rw [List.length_map, List.length_map, List.length_range]
        exact small63 (by omega)
      · rw [upd_same, List.range_succ, List.map_append]
        dsimp only
        rw [vi_snoc', Int.zero_add]
        rfl
    obtain ⟨s1, h_pf⟩ := hP
    have gf := good_full
    have lf : ((List.range 40).map fun k : Nat => 39 - (k : Int)).length = 40 := by decide
    generalize ((List.range 40).map fun k : Nat => 39 - (k : Int)) = full at h_pf gf lf
    refine ⟨Nat.zero_le _, fun pt n_pt => ?_⟩
    have h_pf := same_new (o := .lst []) n_pt _ _ h_pf
    generalize upd H1 pt (.lst []) = H2 at h_pf
    refine ⟨fun σ H' => ∃ l, σ = [some (.ref a), some (.int way), some (.int cell), some (.int far), some (.ref pf), some (.ref l), none, none] ∧ H' l = some (.lst [.bl (decide ((0 : Int) = way)), .bl (decide ((1 : Int) = way)), .bl (decide ((2 : Int) = way)), .bl (decide ((3 : Int) = way)), .bl (decide ((4 : Int) = way)), .bl true]), ?_, ?_⟩
    · refine ⟨.int way, rfl, rfl, _, rfl, ite2 (fun e => ?_) (fun e => ?_)⟩
      · have e := V.int.inj (of_decide_eq_true e)
        subst e
        refine ⟨.int cell, rfl, .int far, rfl, _, _, rfl, rfl, cell, far + 1, rfl, by omega, fun H' => ⟨true, m_NoArcs, fun _ x nx => ⟨.ref x, rfl, C_NoArcs, true, false, false, false, false, rfl, rfl, x_NoArcs.c, rfl, q_NoArcs_NoArcs, q_NoArcs_NoNumber, q_NoArcs_Unlike, q_NoArcs_TooMany, q_NoArcs_NotRead, q_NoArcs_V, fun l H'' hl => ⟨l, rfl, hl⟩⟩, fun z => nomatch z⟩⟩
      have n0 : way ≠ 0 := fun z => dn e (by rw [z])
      refine ⟨.int way, rfl, rfl, _, rfl, ite2 (fun e => ?_) (fun e => ?_)⟩
      · have e := V.int.inj (of_decide_eq_true e)
        subst e
        refine ⟨.int cell, rfl, .int far, rfl, cell, far, rfl, f0, fun H' => ⟨true, m_NoNumber, fun _ x nx => ⟨.ref x, rfl, C_NoNumber, false, true, false, false, false, rfl, rfl, x_NoNumber.c, rfl, q_NoNumber_NoArcs, q_NoNumber_NoNumber, q_NoNumber_Unlike, q_NoNumber_TooMany, q_NoNumber_NotRead, q_NoNumber_V, fun l H'' hl => ⟨l, rfl, hl⟩⟩, fun z => nomatch z⟩⟩
      have n1 : way ≠ 1 := fun z => dn e (by rw [z])
      refine ⟨.int way, rfl, rfl, _, rfl, ite2 (fun e => ?_) (fun e => ?_)⟩
      · have e := V.int.inj (of_decide_eq_true e)
        subst e
        refine ⟨.int cell, rfl, cell, rfl, fun H' => ⟨true, m_Unlike, fun _ x nx => ⟨.ref x, rfl, C_Unlike, false, false, true, false, false, rfl, rfl, x_Unlike.c, rfl, q_Unlike_NoArcs, q_Unlike_NoNumber, q_Unlike_Unlike, q_Unlike_TooMany, q_Unlike_NotRead, q_Unlike_V, fun l H'' hl => ⟨l, rfl, hl⟩⟩, fun z => nomatch z⟩⟩
      have n2 : way ≠ 2 := fun z => dn e (by rw [z])
      have r0 := Int.fmod_nonneg_of_pos cell (show (0 : Int) < 3 by decide)
      have r1 := Int.fmod_lt_of_pos cell (show (0 : Int) < 3 by decide)
      refine ⟨.int way, rfl, rfl, _, rfl, ite2 (fun e => ?_) (fun e => ?_)⟩
      · have e := V.int.inj (of_decide_eq_true e)
        subst e
        refine ⟨.int cell, rfl, _, _, rfl, rfl, (show (3 : Int) ≠ 0 by decide), rfl, _, rfl, ite2 (fun e => ?_) (fun e => ?_)⟩
        · exact ⟨.ref pf, rfl, pf, full, rfl, sqL h_pf, by omega, fun g => absurd gf g, fun _ => ⟨lf, fun H' => ⟨true, m_TooMany, fun _ x nx => ⟨.ref x, rfl, C_TooMany, false, false, false, true, false, rfl, rfl, x_TooMany.c, rfl, q_TooMany_NoArcs, q_TooMany_NoNumber, q_TooMany_Unlike, q_TooMany_TooMany, q_TooMany_NotRead, q_TooMany_V, fun l H'' hl => ⟨l, rfl, hl⟩⟩, fun z => nomatch z⟩⟩⟩
        · have hne : cell.fmod 3 ≠ 0 := fun z => dn e (by dsimp only; rw [z])
          refine ⟨_, rfl, rfl, _, rfl, ?_⟩
          rw [decide_eq_true rfl]
          refine iteT ⟨.ref pf, rfl, by show 2 ≤ sizeLine; decide, fun x0 n_x0 => ?_⟩
          have h_x0 : upd H2 x0 (.lst [V.int 1, V.int 0]) x0 = some (.lst (vi [1, 0])) := upd_same
          have h_pf := same_new (o := .lst [V.int 1, V.int 0]) n_x0 _ _ h_pf
          generalize upd H2 x0 (.lst [V.int 1, V.int 0]) = H3 at h_x0 h_pf
          refine ⟨by show 2 ≤ sizeLine; decide, fun x1 n_x1 => ?_⟩
          have h_x1 : upd H3 x1 (.lst [V.ref pf, V.ref x0]) x1 = some (.lst [V.ref pf, V.ref x0]) := upd_same
          have h_pf := same_new (o := .lst [V.ref pf, V.ref x0]) n_x1 _ _ h_pf
          have h_x0 := same_new (o := .lst [V.ref pf, V.ref x0]) n_x1 _ _ h_x0
          generalize upd H3 x1 (.lst [V.ref pf, V.ref x0]) = H4 at h_x0 h_pf h_x1
          have hr12 : cell.fmod 3 = 1 ∨ cell.fmod 3 = 2 := by omega
          rcases hr12 with hr1 | hr2
          · refine ⟨.int cell, rfl, _, _, rfl, rfl, (show (3 : Int) ≠ 0 by decide), _, _, rfl, rfl, x1, _, _, .ref pf, rfl, rfl, sqL h_x1, by rw [hr1]; rfl, by show 2 ≤ sizeLine; decide, fun x2 n_x2 => ?_⟩
            have h_x2 : upd H4 x2 (.lst [V.int 1, V.int 0]) x2 = some (.lst (vi [1, 0])) := upd_same
            have h_pf := same_new (o := .lst [V.int 1, V.int 0]) n_x2 _ _ h_pf
            generalize upd H4 x2 (.lst [V.int 1, V.int 0]) = H5 at h_x2 h_pf
            refine ⟨.ref pf, rfl, by show 2 ≤ sizeLine; decide, fun x3 n_x3 => ?_⟩
            have h_x3 : upd H5 x3 (.lst [V.ref x2, V.ref pf]) x3 = some (.lst [V.ref x2, V.ref pf]) := upd_same
            have h_pf := same_new (o := .lst [V.ref x2, V.ref pf]) n_x3 _ _ h_pf
            have h_x2 := same_new (o := .lst [V.ref x2, V.ref pf]) n_x3 _ _ h_x2
            generalize upd H5 x3 (.lst [V.ref x2, V.ref pf]) = H6 at h_x2 h_pf h_x3
            refine ⟨.int cell, rfl, _, _, rfl, rfl, (show (3 : Int) ≠ 0 by decide), _, _, rfl, rfl, x3, _, _, .ref x2, rfl, rfl, sqL h_x3, by rw [hr1]; rfl, 0, pf, x2, full, [1, 0], rfl, sqL h_pf, sqL h_x2, by omega, by decide, fun z => ?_, fun _ _ => .inl ⟨rfl, by show 40 < _ + 2; omega, fun H' => ⟨true, m_TooMany, fun _ x nx => ⟨.ref x, rfl, C_TooMany, false, false, false, true, false, rfl, rfl, x_TooMany.c, rfl, q_TooMany_NoArcs, q_TooMany_NoNumber, q_TooMany_Unlike, q_TooMany_TooMany, q_TooMany_NotRead, q_TooMany_V, fun l H'' hl => ⟨l, rfl, hl⟩⟩, fun z => nomatch z⟩⟩⟩
            rcases z with z | z
            · exact absurd gf z
            · exact absurd good_a z
          · refine ⟨.int cell, rfl, _, _, rfl, rfl, (show (3 : Int) ≠ 0 by decide), _, _, rfl, rfl, x1, _, _, .ref x0, rfl, rfl, sqL h_x1, by rw [hr2]; rfl, by show 2 ≤ sizeLine; decide, fun x2 n_x2 => ?_⟩
            have h_x0 := same_new (o := .lst [V.int 1, V.int 0]) n_x2 _ _ h_x0
            have h_pf := same_new (o := .lst [V.int 1, V.int 0]) n_x2 _ _ h_pf
            generalize upd H4 x2 (.lst [V.int 1, V.int 0]) = H5 at h_x0 h_pf
            refine ⟨.ref pf, rfl, by show 2 ≤ sizeLine; decide, fun x3 n_x3 => ?_⟩
            have h_x3 : upd H5 x3 (.lst [V.ref x2, V.ref pf]) x3 = some (.lst [V.ref x2, V.ref pf]) := upd_same
            have h_pf := same_new (o := .lst [V.ref x2, V.ref pf]) n_x3 _ _ h_pf
            have h_x0 := same_new (o := .lst [V.ref x2, V.ref pf]) n_x3 _ _ h_x0
            generalize upd H5 x3 (.lst [V.ref x2, V.ref pf]) = H6 at h_x0 h_pf h_x3
            refine ⟨.int cell, rfl, _, _, rfl, rfl, (show (3 : Int) ≠ 0 by decide), _, _, rfl, rfl, x3, _, _, .ref pf, rfl, rfl, sqL h_x3, by rw [hr2]; rfl, 0, x0, pf, [1, 0], full, rfl, sqL h_x0, sqL h_pf, by decide, by omega, fun z => ?_, fun _ _ => .inl ⟨rfl, by show 40 < 2 + _; omega, fun H' => ⟨true, m_TooMany, fun _ x nx => ⟨.ref x, rfl, C_TooMany, false, false, false, true, false, rfl, rfl, x_TooMany.c, rfl, q_TooMany_NoArcs, q_TooMany_NoNumber, q_TooMany_Unlike, q_TooMany_TooMany, q_TooMany_NotRead, q_TooMany_V, fun l H'' hl => ⟨l, rfl, hl⟩⟩, fun z => nomatch z⟩⟩⟩
            rcases z with z | z
            · exact absurd good_a z
            · exact absurd gf z
      · have n3 : way ≠ 3 := fun z => dn e (by rw [z])
        have e4 : way = 4 := by omega
        subst e4
        refine ⟨_, rfl, rfl, _, rfl, iteF ?_⟩
        refine ⟨by show 8 ≤ sizeLine; decide, fun x0 n_x0 => ?_⟩
        obtain ⟨v, hv, cs, rfl, hcs, hno⟩ := pickL (xs := [V.str (("" : String) : Str), V.str (("(" : String) : Str), V.str ((")(" : String) : Str), V.str (("())(" : String) : Str), V.str (("((" : String) : Str), V.str (("(a)" : String) : Str), V.str (("( )" : String) : Str), V.str (("[]" : String) : Str)]) (p := fun v => ∃ cs : List Nat, v = .str (tx cs) ∧ cs.length ≤ 200 ∧ Rm.rdt cs = none) (fun x hx => by
          simp only [List.mem_cons, List.not_mem_nil, or_false] at hx
          rcases hx with rfl | rfl | rfl | rfl | rfl | rfl | rfl | rfl
          · exact ⟨[], by decide +kernel, by decide, by decide⟩
          · exact ⟨[40], by decide +kernel, by decide, by decide⟩
          · exact ⟨[41, 40], by decide +kernel, by decide, by decide⟩
          · exact ⟨[40, 41, 41, 40], by decide +kernel, by decide, by decide⟩
          · exact ⟨[40, 40], by decide +kernel, by decide, by decide⟩
          · exact ⟨[40, 97, 41], by decide +kernel, by decide, by decide⟩
          · exact ⟨[40, 32, 41], by decide +kernel, by decide, by decide⟩
          · exact ⟨[91, 93], by decide +kernel, by decide, by decide⟩) (Nat.zero_lt_succ _) (n := 8) rfl cell
        exact ⟨.int cell, rfl, _, _, rfl, rfl, (show (8 : Int) ≠ 0 by decide), x0, _, _, _, rfl, rfl, sqL upd_same, hv, cs, rfl, hcs, fun f hf => absurd (hno.symm.trans hf) (by simp), fun _ H' _ => ⟨true, m_NotRead, fun _ x nx => ⟨.ref x, rfl, C_NotRead, false, false, false, false, true, rfl, rfl, x_NotRead.c, rfl, q_NotRead_NoArcs, q_NotRead_NoNumber, q_NotRead_Unlike, q_NotRead_TooMany, q_NotRead_NotRead, q_NotRead_V, fun l H'' hl => ⟨l, rfl, hl⟩⟩, fun z => nomatch z⟩⟩
    rintro σ' H' ⟨l, rfl, hl⟩
    have hle : ∀ H'' : Hp, Same H' H'' → H'' l = H' l := fun H'' sm => by rw [hl]; exact sm _ _ hl
    refine ⟨.ref l, rfl, _, rfl, by decide, by decide, fun D nD => ?_⟩
    refine lc_range (lo := 0) (n := 6) (fun i H'' => Same H' H'' ∧ H'' D = some (.lst ((List.range i).map fun k : Nat => V.bl (decide ((k : Int) = way) || decide ((k : Int) = 5))))) ⟨same_new nD, upd_same⟩ (fun i H'' hi hP => ?_) (fun H'' hP => ?_)
    · obtain ⟨sm, hD⟩ := hP
      rw [Int.zero_add]
      refine ⟨rfl, ?_⟩
      unfold tYes
      have fin : ∀ b : Bool, b = (decide ((i : Int) = way) || decide ((i : Int) = 5)) → ∃ acc, H'' D = some (.lst acc) ∧ acc.length < sizeLine ∧ (Same H' (upd H'' D (.lst (acc ++ [V.bl b]))) ∧ (upd H'' D (.lst (acc ++ [V.bl b]))) D = some (.lst ((List.range (i + 1)).map fun k : Nat => V.bl (decide ((k : Int) = way) || decide ((k : Int) = 5))))) := fun b hb => by
        refine ⟨_, hD, ?_, same_upd sm nD, ?_⟩
        · rw [List.length_map, List.length_range]
          exact small63 (by omega)
        · rw [upd_same, List.range_succ, List.map_append, hb]
          rfl
      refine iteT ⟨_, rfl, .int way, rfl, rfl, _, rfl, ite2 (fun e => ?_) (fun e => ?_)⟩
      · have e := V.int.inj (of_decide_eq_true e)
        exact fin true (by rw [decide_eq_true e]; rfl)
      · have e : ¬ ((i : Int) = way) := fun z => dn e (by rw [z])
        refine ⟨_, rfl, rfl, fin _ ?_⟩
        rw [decide_eq_false e]
        by_cases h5 : (i : Int) = 5
        · rw [decide_eq_true h5, decide_eq_true (by rw [h5])]; rfl
        · rw [decide_eq_false h5, decide_eq_false (fun z => h5 (V.int.inj z))]; rfl
    · obtain ⟨sm, hD⟩ := hP
      have hl2 := sm _ _ hl
      have hw : way = 0 ∨ way = 1 ∨ way = 2 ∨ way = 3 ∨ way = 4 := by omega
      have go : ∀ b0 b1 b2 b3 b4 : Bool, H'' l = some (.lst [.bl b0, .bl b1, .bl b2, .bl b3, .bl b4, .bl true]) → H'' D = some (.lst [.bl b0, .bl b1, .bl b2, .bl b3, .bl b4, .bl true]) → rEqD K (.ref l) (.ref D) H'' Q := fun b0 b1 b2 b3 b4 g1 g2 => by
        have e1 : PyData.eqv (.list [.bool b0, .bool b1, .bool b2, .bool b3, .bool b4, .bool true]) (.list [.bool b0, .bool b1, .bool b2, .bool b3, .bool b4, .bool true]) = true := by
          cases b0 <;> cases b1 <;> cases b2 <;> cases b3 <;> cases b4 <;> decide
        have e2 : SeqAt.shaped (.list [.bool b0, .bool b1, .bool b2, .bool b3, .bool b4, .bool true]) = true := by
          cases b0 <;> cases b1 <;> cases b2 <;> cases b3 <;> cases b4 <;> decide
        have d : DpAll K H'' [.bl b0, .bl b1, .bl b2, .bl b3, .bl b4, .bl true] [.bool b0, .bool b1, .bool b2, .bool b3, .bool b4, .bool true] := .cons (.bl _) (.cons (.bl _) (.cons (.bl _) (.cons (.bl _) (.cons (.bl _) (.cons (.bl _) .nil)))))
        exact ⟨_, _, .lst (sqL g1) d, .lst (sqL g2) d, e2, e2, by rw [e1]; exact q _⟩
      rcases hw with rfl | rfl | rfl | rfl | rfl
      · exact go true false false false false hl2 hD
      · exact go false true false false false hl2 hD
      · exact go false false true false false hl2 hD
      · exact go false false false true false hl2 hD
      · exact go false false false false true hl2 hD
end

end Rv

namespace Rv
open PySem PySem.Spec PyProof.Rows L2
theorem all_mk {l : PySem.W.OpenLaw} {w : World} {K : PySem.W.Frag} {h : Heap} {mg : Str → Option Value} {fa : Addr} (X : K.In h) (G : h.Ns mainGlobals mg) (hfa : mg "law" = some (.ref fa))
    {f_is_arcs : Addr} {od_is_arcs an_is_arcs : Option Addr} {sl_is_arcs : Array (Option Value)} {oc_is_arcs kV_is_arcs dc_is_arcs pm_is_arcs cd_is_arcs ct_is_arcs : Value}
    {f_ask : Addr} {od_ask an_ask : Option Addr} {sl_ask : Array (Option Value)} {oc_ask kV_ask dc_ask pm_ask cd_ask ct_ask : Value}
    {f_word_of : Addr} {od_word_of an_word_of : Option Addr} {sl_word_of : Array (Option Value)} {oc_word_of kV_word_of dc_word_of pm_word_of cd_word_of ct_word_of : Value}
    {f_arcs_of : Addr} {od_arcs_of an_arcs_of : Option Addr} {sl_arcs_of : Array (Option Value)} {oc_arcs_of kV_arcs_of dc_arcs_of pm_arcs_of cd_arcs_of ct_arcs_of : Value}
    {f_turned : Addr} {od_turned an_turned : Option Addr} {sl_turned : Array (Option Value)} {oc_turned kV_turned dc_turned pm_turned cd_turned ct_turned : Value}
    {f_mirrored : Addr} {od_mirrored an_mirrored : Option Addr} {sl_mirrored : Array (Option Value)} {oc_mirrored kV_mirrored dc_mirrored pm_mirrored cd_mirrored ct_mirrored : Value}
    {f_beside : Addr} {od_beside an_beside : Option Addr} {sl_beside : Array (Option Value)} {oc_beside kV_beside dc_beside pm_beside cd_beside ct_beside : Value}
    {f_covered : Addr} {od_covered an_covered : Option Addr} {sl_covered : Array (Option Value)} {oc_covered kV_covered dc_covered pm_covered cd_covered ct_covered : Value}
    {f_ask_size : Addr} {od_ask_size an_ask_size : Option Addr} {sl_ask_size : Array (Option Value)} {oc_ask_size kV_ask_size dc_ask_size pm_ask_size cd_ask_size ct_ask_size : Value}
    {f_ways : Addr} {od_ways an_ways : Option Addr} {sl_ways : Array (Option Value)} {oc_ways kV_ways dc_ways pm_ways cd_ways ct_ways : Value}
    {f_many : Addr} {od_many an_many : Option Addr} {sl_many : Array (Option Value)} {oc_many kV_many dc_many pm_many cd_many ct_many : Value}
    {f_arcs_at : Addr} {od_arcs_at an_arcs_at : Option Addr} {sl_arcs_at : Array (Option Value)} {oc_arcs_at kV_arcs_at dc_arcs_at pm_arcs_at cd_arcs_at ct_arcs_at : Value}
    {f_number_of : Addr} {od_number_of an_number_of : Option Addr} {sl_number_of : Array (Option Value)} {oc_number_of kV_number_of dc_number_of pm_number_of cd_number_of ct_number_of : Value}
    {f_ask_both : Addr} {od_ask_both an_ask_both : Option Addr} {sl_ask_both : Array (Option Value)} {oc_ask_both kV_ask_both dc_ask_both pm_ask_both cd_ask_both ct_ask_both : Value}
    {f_roads : Addr} {od_roads an_roads : Option Addr} {sl_roads : Array (Option Value)} {oc_roads kV_roads dc_roads pm_roads cd_roads ct_roads : Value}
    {f_many_roads : Addr} {od_many_roads an_many_roads : Option Addr} {sl_many_roads : Array (Option Value)} {oc_many_roads kV_many_roads dc_many_roads pm_many_roads cd_many_roads ct_many_roads : Value}
    {f_one_road : Addr} {od_one_road an_one_road : Option Addr} {sl_one_road : Array (Option Value)} {oc_one_road kV_one_road dc_one_road pm_one_road cd_one_road ct_one_road : Value}
    {f_rows_with : Addr} {od_rows_with an_rows_with : Option Addr} {sl_rows_with : Array (Option Value)} {oc_rows_with kV_rows_with dc_rows_with pm_rows_with cd_rows_with ct_rows_with : Value}
    {f_straight : Addr} {od_straight an_straight : Option Addr} {sl_straight : Array (Option Value)} {oc_straight kV_straight dc_straight pm_straight cd_straight ct_straight : Value}
    {f_hook : Addr} {od_hook an_hook : Option Addr} {sl_hook : Array (Option Value)} {oc_hook kV_hook dc_hook pm_hook cd_hook ct_hook : Value}
    {f_laid : Addr} {od_laid an_laid : Option Addr} {sl_laid : Array (Option Value)} {oc_laid kV_laid dc_laid pm_laid cd_laid ct_laid : Value}
    {f_closed : Addr} {od_closed an_closed : Option Addr} {sl_closed : Array (Option Value)} {oc_closed kV_closed dc_closed pm_closed cd_closed ct_closed : Value}
    {f_law_cell_at : Addr} {od_law_cell_at an_law_cell_at : Option Addr} {sl_law_cell_at : Array (Option Value)} {oc_law_cell_at kV_law_cell_at dc_law_cell_at pm_law_cell_at cd_law_cell_at ct_law_cell_at : Value}
    {f_law_which : Addr} {od_law_which an_law_which : Option Addr} {sl_law_which : Array (Option Value)} {oc_law_which kV_law_which dc_law_which pm_law_which cd_law_which ct_law_which : Value}
    {f_law_of_two : Addr} {od_law_of_two an_law_of_two : Option Addr} {sl_law_of_two : Array (Option Value)} {oc_law_of_two kV_law_of_two dc_law_of_two pm_law_of_two cd_law_of_two ct_law_of_two : Value}
    {f_law_no_arcs : Addr} {od_law_no_arcs an_law_no_arcs : Option Addr} {sl_law_no_arcs : Array (Option Value)} {oc_law_no_arcs kV_law_no_arcs dc_law_no_arcs pm_law_no_arcs cd_law_no_arcs ct_law_no_arcs : Value}
    {f_law_unlike : Addr} {od_law_unlike an_law_unlike : Option Addr} {sl_law_unlike : Array (Option Value)} {oc_law_unlike kV_law_unlike dc_law_unlike pm_law_unlike cd_law_unlike ct_law_unlike : Value}
    {f_law_no_number : Addr} {od_law_no_number an_law_no_number : Option Addr} {sl_law_no_number : Array (Option Value)} {oc_law_no_number kV_law_no_number dc_law_no_number pm_law_no_number cd_law_no_number ct_law_no_number : Value}
    {f_law : Addr} {od_law an_law : Option Addr} {sl_law : Array (Option Value)} {oc_law kV_law dc_law pm_law cd_law ct_law : Value}
    (a_is_arcs : PySem.W.nsIn K mainGlobals "is_arcs" = some (some (.ref f_is_arcs))) (l_is_arcs : K.lookup f_is_arcs = some ⟨oc_is_arcs, od_is_arcs, .func (PySem.W.fnOf "is_arcs" "is_arcs" (defArgs s_is_arcs) (defBody s_is_arcs) (defScope s_is_arcs) .none kV_is_arcs dc_is_arcs pm_is_arcs an_is_arcs cd_is_arcs ct_is_arcs), sl_is_arcs⟩) (x_is_arcs : PySem.W.codeIn K cd_is_arcs "is_arcs" = true) (k_is_arcs : PySem.W.keepIn K (.ref f_is_arcs) = true)
    (a_ask : PySem.W.nsIn K mainGlobals "ask" = some (some (.ref f_ask))) (l_ask : K.lookup f_ask = some ⟨oc_ask, od_ask, .func (PySem.W.fnOf "ask" "ask" (defArgs s_ask) (defBody s_ask) (defScope s_ask) .none kV_ask dc_ask pm_ask an_ask cd_ask ct_ask), sl_ask⟩) (x_ask : PySem.W.codeIn K cd_ask "ask" = true) (k_ask : PySem.W.keepIn K (.ref f_ask) = true)
    (a_word_of : PySem.W.nsIn K mainGlobals "word_of" = some (some (.ref f_word_of))) (l_word_of : K.lookup f_word_of = some ⟨oc_word_of, od_word_of, .func (PySem.W.fnOf "word_of" "word_of" (defArgs s_word_of) (defBody s_word_of) (defScope s_word_of) .none kV_word_of dc_word_of pm_word_of an_word_of cd_word_of ct_word_of), sl_word_of⟩) (x_word_of : PySem.W.codeIn K cd_word_of "word_of" = true) (k_word_of : PySem.W.keepIn K (.ref f_word_of) = true)
    (a_arcs_of : PySem.W.nsIn K mainGlobals "arcs_of" = some (some (.ref f_arcs_of))) (l_arcs_of : K.lookup f_arcs_of = some ⟨oc_arcs_of, od_arcs_of, .func (PySem.W.fnOf "arcs_of" "arcs_of" (defArgs s_arcs_of) (defBody s_arcs_of) (defScope s_arcs_of) .none kV_arcs_of dc_arcs_of pm_arcs_of an_arcs_of cd_arcs_of ct_arcs_of), sl_arcs_of⟩) (x_arcs_of : PySem.W.codeIn K cd_arcs_of "arcs_of" = true) (k_arcs_of : PySem.W.keepIn K (.ref f_arcs_of) = true)
    (a_turned : PySem.W.nsIn K mainGlobals "turned" = some (some (.ref f_turned))) (l_turned : K.lookup f_turned = some ⟨oc_turned, od_turned, .func (PySem.W.fnOf "turned" "turned" (defArgs s_turned) (defBody s_turned) (defScope s_turned) .none kV_turned dc_turned pm_turned an_turned cd_turned ct_turned), sl_turned⟩) (x_turned : PySem.W.codeIn K cd_turned "turned" = true) (k_turned : PySem.W.keepIn K (.ref f_turned) = true)
    (a_mirrored : PySem.W.nsIn K mainGlobals "mirrored" = some (some (.ref f_mirrored))) (l_mirrored : K.lookup f_mirrored = some ⟨oc_mirrored, od_mirrored, .func (PySem.W.fnOf "mirrored" "mirrored" (defArgs s_mirrored) (defBody s_mirrored) (defScope s_mirrored) .none kV_mirrored dc_mirrored pm_mirrored an_mirrored cd_mirrored ct_mirrored), sl_mirrored⟩) (x_mirrored : PySem.W.codeIn K cd_mirrored "mirrored" = true) (k_mirrored : PySem.W.keepIn K (.ref f_mirrored) = true)
    (a_beside : PySem.W.nsIn K mainGlobals "beside" = some (some (.ref f_beside))) (l_beside : K.lookup f_beside = some ⟨oc_beside, od_beside, .func (PySem.W.fnOf "beside" "beside" (defArgs s_beside) (defBody s_beside) (defScope s_beside) .none kV_beside dc_beside pm_beside an_beside cd_beside ct_beside), sl_beside⟩) (x_beside : PySem.W.codeIn K cd_beside "beside" = true) (k_beside : PySem.W.keepIn K (.ref f_beside) = true)
    (a_covered : PySem.W.nsIn K mainGlobals "covered" = some (some (.ref f_covered))) (l_covered : K.lookup f_covered = some ⟨oc_covered, od_covered, .func (PySem.W.fnOf "covered" "covered" (defArgs s_covered) (defBody s_covered) (defScope s_covered) .none kV_covered dc_covered pm_covered an_covered cd_covered ct_covered), sl_covered⟩) (x_covered : PySem.W.codeIn K cd_covered "covered" = true) (k_covered : PySem.W.keepIn K (.ref f_covered) = true)
    (a_ask_size : PySem.W.nsIn K mainGlobals "ask_size" = some (some (.ref f_ask_size))) (l_ask_size : K.lookup f_ask_size = some ⟨oc_ask_size, od_ask_size, .func (PySem.W.fnOf "ask_size" "ask_size" (defArgs s_ask_size) (defBody s_ask_size) (defScope s_ask_size) .none kV_ask_size dc_ask_size pm_ask_size an_ask_size cd_ask_size ct_ask_size), sl_ask_size⟩) (x_ask_size : PySem.W.codeIn K cd_ask_size "ask_size" = true) (k_ask_size : PySem.W.keepIn K (.ref f_ask_size) = true)
    (a_ways : PySem.W.nsIn K mainGlobals "ways" = some (some (.ref f_ways))) (l_ways : K.lookup f_ways = some ⟨oc_ways, od_ways, .func (PySem.W.fnOf "ways" "ways" (defArgs s_ways) (defBody s_ways) (defScope s_ways) .none kV_ways dc_ways pm_ways an_ways cd_ways ct_ways), sl_ways⟩) (x_ways : PySem.W.codeIn K cd_ways "ways" = true) (k_ways : PySem.W.keepIn K (.ref f_ways) = true)
    (a_many : PySem.W.nsIn K mainGlobals "many" = some (some (.ref f_many))) (l_many : K.lookup f_many = some ⟨oc_many, od_many, .func (PySem.W.fnOf "many" "many" (defArgs s_many) (defBody s_many) (defScope s_many) .none kV_many dc_many pm_many an_many cd_many ct_many), sl_many⟩) (x_many : PySem.W.codeIn K cd_many "many" = true) (k_many : PySem.W.keepIn K (.ref f_many) = true)
    (a_arcs_at : PySem.W.nsIn K mainGlobals "arcs_at" = some (some (.ref f_arcs_at))) (l_arcs_at : K.lookup f_arcs_at = some ⟨oc_arcs_at, od_arcs_at, .func (PySem.W.fnOf "arcs_at" "arcs_at" (defArgs s_arcs_at) (defBody s_arcs_at) (defScope s_arcs_at) .none kV_arcs_at dc_arcs_at pm_arcs_at an_arcs_at cd_arcs_at ct_arcs_at), sl_arcs_at⟩) (x_arcs_at : PySem.W.codeIn K cd_arcs_at "arcs_at" = true) (k_arcs_at : PySem.W.keepIn K (.ref f_arcs_at) = true)
    (a_number_of : PySem.W.nsIn K mainGlobals "number_of" = some (some (.ref f_number_of))) (l_number_of : K.lookup f_number_of = some ⟨oc_number_of, od_number_of, .func (PySem.W.fnOf "number_of" "number_of" (defArgs s_number_of) (defBody s_number_of) (defScope s_number_of) .none kV_number_of dc_number_of pm_number_of an_number_of cd_number_of ct_number_of), sl_number_of⟩) (x_number_of : PySem.W.codeIn K cd_number_of "number_of" = true) (k_number_of : PySem.W.keepIn K (.ref f_number_of) = true)
    (a_ask_both : PySem.W.nsIn K mainGlobals "ask_both" = some (some (.ref f_ask_both))) (l_ask_both : K.lookup f_ask_both = some ⟨oc_ask_both, od_ask_both, .func (PySem.W.fnOf "ask_both" "ask_both" (defArgs s_ask_both) (defBody s_ask_both) (defScope s_ask_both) .none kV_ask_both dc_ask_both pm_ask_both an_ask_both cd_ask_both ct_ask_both), sl_ask_both⟩) (x_ask_both : PySem.W.codeIn K cd_ask_both "ask_both" = true) (k_ask_both : PySem.W.keepIn K (.ref f_ask_both) = true)
    (a_roads : PySem.W.nsIn K mainGlobals "roads" = some (some (.ref f_roads))) (l_roads : K.lookup f_roads = some ⟨oc_roads, od_roads, .func (PySem.W.fnOf "roads" "roads" (defArgs s_roads) (defBody s_roads) (defScope s_roads) .none kV_roads dc_roads pm_roads an_roads cd_roads ct_roads), sl_roads⟩) (x_roads : PySem.W.codeIn K cd_roads "roads" = true) (k_roads : PySem.W.keepIn K (.ref f_roads) = true)
    (a_many_roads : PySem.W.nsIn K mainGlobals "many_roads" = some (some (.ref f_many_roads))) (l_many_roads : K.lookup f_many_roads = some ⟨oc_many_roads, od_many_roads, .func (PySem.W.fnOf "many_roads" "many_roads" (defArgs s_many_roads) (defBody s_many_roads) (defScope s_many_roads) .none kV_many_roads dc_many_roads pm_many_roads an_many_roads cd_many_roads ct_many_roads), sl_many_roads⟩) (x_many_roads : PySem.W.codeIn K cd_many_roads "many_roads" = true) (k_many_roads : PySem.W.keepIn K (.ref f_many_roads) = true)
    (a_one_road : PySem.W.nsIn K mainGlobals "one_road" = some (some (.ref f_one_road))) (l_one_road : K.lookup f_one_road = some ⟨oc_one_road, od_one_road, .func (PySem.W.fnOf "one_road" "one_road" (defArgs s_one_road) (defBody s_one_road) (defScope s_one_road) .none kV_one_road dc_one_road pm_one_road an_one_road cd_one_road ct_one_road), sl_one_road⟩) (x_one_road : PySem.W.codeIn K cd_one_road "one_road" = true) (k_one_road : PySem.W.keepIn K (.ref f_one_road) = true)
    (a_rows_with : PySem.W.nsIn K mainGlobals "rows_with" = some (some (.ref f_rows_with))) (l_rows_with : K.lookup f_rows_with = some ⟨oc_rows_with, od_rows_with, .func (PySem.W.fnOf "rows_with" "rows_with" (defArgs s_rows_with) (defBody s_rows_with) (defScope s_rows_with) .none kV_rows_with dc_rows_with pm_rows_with an_rows_with cd_rows_with ct_rows_with), sl_rows_with⟩) (x_rows_with : PySem.W.codeIn K cd_rows_with "rows_with" = true) (k_rows_with : PySem.W.keepIn K (.ref f_rows_with) = true)
    (a_straight : PySem.W.nsIn K mainGlobals "straight" = some (some (.ref f_straight))) (l_straight : K.lookup f_straight = some ⟨oc_straight, od_straight, .func (PySem.W.fnOf "straight" "straight" (defArgs s_straight) (defBody s_straight) (defScope s_straight) .none kV_straight dc_straight pm_straight an_straight cd_straight ct_straight), sl_straight⟩) (x_straight : PySem.W.codeIn K cd_straight "straight" = true) (k_straight : PySem.W.keepIn K (.ref f_straight) = true)
    (a_hook : PySem.W.nsIn K mainGlobals "hook" = some (some (.ref f_hook))) (l_hook : K.lookup f_hook = some ⟨oc_hook, od_hook, .func (PySem.W.fnOf "hook" "hook" (defArgs s_hook) (defBody s_hook) (defScope s_hook) .none kV_hook dc_hook pm_hook an_hook cd_hook ct_hook), sl_hook⟩) (x_hook : PySem.W.codeIn K cd_hook "hook" = true) (k_hook : PySem.W.keepIn K (.ref f_hook) = true)
    (a_laid : PySem.W.nsIn K mainGlobals "laid" = some (some (.ref f_laid))) (l_laid : K.lookup f_laid = some ⟨oc_laid, od_laid, .func (PySem.W.fnOf "laid" "laid" (defArgs s_laid) (defBody s_laid) (defScope s_laid) .none kV_laid dc_laid pm_laid an_laid cd_laid ct_laid), sl_laid⟩) (x_laid : PySem.W.codeIn K cd_laid "laid" = true) (k_laid : PySem.W.keepIn K (.ref f_laid) = true)
    (a_closed : PySem.W.nsIn K mainGlobals "closed" = some (some (.ref f_closed))) (l_closed : K.lookup f_closed = some ⟨oc_closed, od_closed, .func (PySem.W.fnOf "closed" "closed" (defArgs s_closed) (defBody s_closed) (defScope s_closed) .none kV_closed dc_closed pm_closed an_closed cd_closed ct_closed), sl_closed⟩) (x_closed : PySem.W.codeIn K cd_closed "closed" = true) (k_closed : PySem.W.keepIn K (.ref f_closed) = true)
    (a_law_cell_at : PySem.W.nsIn K mainGlobals "_law_cell_at" = some (some (.ref f_law_cell_at))) (l_law_cell_at : K.lookup f_law_cell_at = some ⟨oc_law_cell_at, od_law_cell_at, .func (PySem.W.fnOf "_law_cell_at" "_law_cell_at" (defArgs s_law_cell_at) (defBody s_law_cell_at) (defScope s_law_cell_at) .none kV_law_cell_at dc_law_cell_at pm_law_cell_at an_law_cell_at cd_law_cell_at ct_law_cell_at), sl_law_cell_at⟩) (x_law_cell_at : PySem.W.codeIn K cd_law_cell_at "_law_cell_at" = true) (k_law_cell_at : PySem.W.keepIn K (.ref f_law_cell_at) = true)
    (a_law_which : PySem.W.nsIn K mainGlobals "_law_which" = some (some (.ref f_law_which))) (l_law_which : K.lookup f_law_which = some ⟨oc_law_which, od_law_which, .func (PySem.W.fnOf "_law_which" "_law_which" (defArgs s_law_which) (defBody s_law_which) (defScope s_law_which) .none kV_law_which dc_law_which pm_law_which an_law_which cd_law_which ct_law_which), sl_law_which⟩) (x_law_which : PySem.W.codeIn K cd_law_which "_law_which" = true) (k_law_which : PySem.W.keepIn K (.ref f_law_which) = true)
    (a_law_of_two : PySem.W.nsIn K mainGlobals "_law_of_two" = some (some (.ref f_law_of_two))) (l_law_of_two : K.lookup f_law_of_two = some ⟨oc_law_of_two, od_law_of_two, .func (PySem.W.fnOf "_law_of_two" "_law_of_two" (defArgs s_law_of_two) (defBody s_law_of_two) (defScope s_law_of_two) .none kV_law_of_two dc_law_of_two pm_law_of_two an_law_of_two cd_law_of_two ct_law_of_two), sl_law_of_two⟩) (x_law_of_two : PySem.W.codeIn K cd_law_of_two "_law_of_two" = true) (k_law_of_two : PySem.W.keepIn K (.ref f_law_of_two) = true)
    (a_law_no_arcs : PySem.W.nsIn K mainGlobals "_law_no_arcs" = some (some (.ref f_law_no_arcs))) (l_law_no_arcs : K.lookup f_law_no_arcs = some ⟨oc_law_no_arcs, od_law_no_arcs, .func (PySem.W.fnOf "_law_no_arcs" "_law_no_arcs" (defArgs s_law_no_arcs) (defBody s_law_no_arcs) (defScope s_law_no_arcs) .none kV_law_no_arcs dc_law_no_arcs pm_law_no_arcs an_law_no_arcs cd_law_no_arcs ct_law_no_arcs), sl_law_no_arcs⟩) (x_law_no_arcs : PySem.W.codeIn K cd_law_no_arcs "_law_no_arcs" = true) (k_law_no_arcs : PySem.W.keepIn K (.ref f_law_no_arcs) = true)
    (a_law_unlike : PySem.W.nsIn K mainGlobals "_law_unlike" = some (some (.ref f_law_unlike))) (l_law_unlike : K.lookup f_law_unlike = some ⟨oc_law_unlike, od_law_unlike, .func (PySem.W.fnOf "_law_unlike" "_law_unlike" (defArgs s_law_unlike) (defBody s_law_unlike) (defScope s_law_unlike) .none kV_law_unlike dc_law_unlike pm_law_unlike an_law_unlike cd_law_unlike ct_law_unlike), sl_law_unlike⟩) (x_law_unlike : PySem.W.codeIn K cd_law_unlike "_law_unlike" = true) (k_law_unlike : PySem.W.keepIn K (.ref f_law_unlike) = true)
    (a_law_no_number : PySem.W.nsIn K mainGlobals "_law_no_number" = some (some (.ref f_law_no_number))) (l_law_no_number : K.lookup f_law_no_number = some ⟨oc_law_no_number, od_law_no_number, .func (PySem.W.fnOf "_law_no_number" "_law_no_number" (defArgs s_law_no_number) (defBody s_law_no_number) (defScope s_law_no_number) .none kV_law_no_number dc_law_no_number pm_law_no_number an_law_no_number cd_law_no_number ct_law_no_number), sl_law_no_number⟩) (x_law_no_number : PySem.W.codeIn K cd_law_no_number "_law_no_number" = true) (k_law_no_number : PySem.W.keepIn K (.ref f_law_no_number) = true)
    (a_law : PySem.W.nsIn K mainGlobals "law" = some (some (.ref f_law))) (l_law : K.lookup f_law = some ⟨oc_law, od_law, .func (PySem.W.fnOf "law" "law" (defArgs s_law) (defBody s_law) (defScope s_law) .none kV_law dc_law pm_law an_law cd_law ct_law), sl_law⟩) (x_law : PySem.W.codeIn K cd_law "law" = true) (k_law : PySem.W.keepIn K (.ref f_law) = true)
    {t_MOST : Tok} (m_MOST : PySem.W.nsIn K mainGlobals "MOST" = some (some (.int 20 t_MOST)))
    {t_MOST_HERE : Tok} (m_MOST_HERE : PySem.W.nsIn K mainGlobals "MOST_HERE" = some (some (.int 5 t_MOST_HERE)))
    (z_len : PySem.W.nsIn K mainGlobals "len" = some none) (z_range : PySem.W.nsIn K mainGlobals "range" = some none) (z_isinstance : PySem.W.nsIn K mainGlobals "isinstance" = some none) (z_int : PySem.W.nsIn K mainGlobals "int" = some none) (z_bool : PySem.W.nsIn K mainGlobals "bool" = some none) (z_list : PySem.W.nsIn K mainGlobals "list" = some none) (z_str : PySem.W.nsIn K mainGlobals "str" = some none) (z_reversed : PySem.W.nsIn K mainGlobals "reversed" = some none) (z_min : PySem.W.nsIn K mainGlobals "min" = some none) (z_max : PySem.W.nsIn K mainGlobals "max" = some none) (z_abs : PySem.W.nsIn K mainGlobals "abs" = some none) (z_sum : PySem.W.nsIn K mainGlobals "sum" = some none) (z_set : PySem.W.nsIn K mainGlobals "set" = some none) (z_tuple : PySem.W.nsIn K mainGlobals "tuple" = some none) (z_ValueError : PySem.W.nsIn K mainGlobals "ValueError" = some none)
    {C_RiverError : Addr}
    (eg_RiverError : PySem.W.nsIn K mainGlobals "RiverError" = some (some (.ref C_RiverError)))
    (ek_RiverError : PySem.W.keepIn K (.ref C_RiverError) = true)
    (eb_RiverError : PySem.W.subIn K (.ref C_RiverError) (.type "BaseException") = some true)
    (et_RiverError : PySem.W.typeIn K (.ref C_RiverError) = some (.type "type"))
    (ei_RiverError : PySem.W.isClsIn K C_RiverError = true)
    (ed_RiverError : PySem.W.hasDictIn K C_RiverError = true)
    {C_NoArcs : Addr}
    (eg_NoArcs : PySem.W.nsIn K mainGlobals "NoArcs" = some (some (.ref C_NoArcs)))
    (ek_NoArcs : PySem.W.keepIn K (.ref C_NoArcs) = true)
    (eb_NoArcs : PySem.W.subIn K (.ref C_NoArcs) (.type "BaseException") = some true)
    (et_NoArcs : PySem.W.typeIn K (.ref C_NoArcs) = some (.type "type"))
    (ei_NoArcs : PySem.W.isClsIn K C_NoArcs = true)
    (ed_NoArcs : PySem.W.hasDictIn K C_NoArcs = true)
    {C_NoNumber : Addr}
    (eg_NoNumber : PySem.W.nsIn K mainGlobals "NoNumber" = some (some (.ref C_NoNumber)))
    (ek_NoNumber : PySem.W.keepIn K (.ref C_NoNumber) = true)
    (eb_NoNumber : PySem.W.subIn K (.ref C_NoNumber) (.type "BaseException") = some true)
    (et_NoNumber : PySem.W.typeIn K (.ref C_NoNumber) = some (.type "type"))
    (ei_NoNumber : PySem.W.isClsIn K C_NoNumber = true)
    (ed_NoNumber : PySem.W.hasDictIn K C_NoNumber = true)
    {C_Unlike : Addr}
    (eg_Unlike : PySem.W.nsIn K mainGlobals "Unlike" = some (some (.ref C_Unlike)))
    (ek_Unlike : PySem.W.keepIn K (.ref C_Unlike) = true)
    (eb_Unlike : PySem.W.subIn K (.ref C_Unlike) (.type "BaseException") = some true)
    (et_Unlike : PySem.W.typeIn K (.ref C_Unlike) = some (.type "type"))
    (ei_Unlike : PySem.W.isClsIn K C_Unlike = true)
    (ed_Unlike : PySem.W.hasDictIn K C_Unlike = true)
    {C_TooMany : Addr}
    (eg_TooMany : PySem.W.nsIn K mainGlobals "TooMany" = some (some (.ref C_TooMany)))
    (ek_TooMany : PySem.W.keepIn K (.ref C_TooMany) = true)
    (eb_TooMany : PySem.W.subIn K (.ref C_TooMany) (.type "BaseException") = some true)
    (et_TooMany : PySem.W.typeIn K (.ref C_TooMany) = some (.type "type"))
    (ei_TooMany : PySem.W.isClsIn K C_TooMany = true)
    (ed_TooMany : PySem.W.hasDictIn K C_TooMany = true)
    {C_NotRead : Addr}
    (eg_NotRead : PySem.W.nsIn K mainGlobals "NotRead" = some (some (.ref C_NotRead)))
    (ek_NotRead : PySem.W.keepIn K (.ref C_NotRead) = true)
    (eb_NotRead : PySem.W.subIn K (.ref C_NotRead) (.type "BaseException") = some true)
    (et_NotRead : PySem.W.typeIn K (.ref C_NotRead) = some (.type "type"))
    (ei_NotRead : PySem.W.isClsIn K C_NotRead = true)
    (ed_NotRead : PySem.W.hasDictIn K C_NotRead = true)
    (ex_NoArcs : PySem.W.excIn K C_NoArcs [.type "ValueError", .type "Exception", .type "BaseException", .type "object"] "ValueError.__new__" = true)
    (e1_NoArcs : PySem.W.findIn K (.ref C_NoArcs) "__getattribute__" = some (some (.builtin "BaseException.__getattribute__")))
    (e2_NoArcs : PySem.W.findIn K (.ref C_NoArcs) "__getattr__" = some none)
    (e3_NoArcs : PySem.W.findIn K (.ref C_NoArcs) "__class__" = some (some (.builtin "object.__class__")))
    (e4_NoArcs : PySem.W.mroIn K C_NoArcs (.type "object") = some true)
    (ev_NoArcs : PySem.W.subIn K (.ref C_NoArcs) (.type "ValueError") = some true)
    (ex_NoNumber : PySem.W.excIn K C_NoNumber [.type "ValueError", .type "Exception", .type "BaseException", .type "object"] "ValueError.__new__" = true)
    (e1_NoNumber : PySem.W.findIn K (.ref C_NoNumber) "__getattribute__" = some (some (.builtin "BaseException.__getattribute__")))
    (e2_NoNumber : PySem.W.findIn K (.ref C_NoNumber) "__getattr__" = some none)
    (e3_NoNumber : PySem.W.findIn K (.ref C_NoNumber) "__class__" = some (some (.builtin "object.__class__")))
    (e4_NoNumber : PySem.W.mroIn K C_NoNumber (.type "object") = some true)
    (ev_NoNumber : PySem.W.subIn K (.ref C_NoNumber) (.type "ValueError") = some true)
    (ex_Unlike : PySem.W.excIn K C_Unlike [.type "ValueError", .type "Exception", .type "BaseException", .type "object"] "ValueError.__new__" = true)
    (e1_Unlike : PySem.W.findIn K (.ref C_Unlike) "__getattribute__" = some (some (.builtin "BaseException.__getattribute__")))
    (e2_Unlike : PySem.W.findIn K (.ref C_Unlike) "__getattr__" = some none)
    (e3_Unlike : PySem.W.findIn K (.ref C_Unlike) "__class__" = some (some (.builtin "object.__class__")))
    (e4_Unlike : PySem.W.mroIn K C_Unlike (.type "object") = some true)
    (ev_Unlike : PySem.W.subIn K (.ref C_Unlike) (.type "ValueError") = some true)
    (ex_TooMany : PySem.W.excIn K C_TooMany [.type "ValueError", .type "Exception", .type "BaseException", .type "object"] "ValueError.__new__" = true)
    (e1_TooMany : PySem.W.findIn K (.ref C_TooMany) "__getattribute__" = some (some (.builtin "BaseException.__getattribute__")))
    (e2_TooMany : PySem.W.findIn K (.ref C_TooMany) "__getattr__" = some none)
    (e3_TooMany : PySem.W.findIn K (.ref C_TooMany) "__class__" = some (some (.builtin "object.__class__")))
    (e4_TooMany : PySem.W.mroIn K C_TooMany (.type "object") = some true)
    (ev_TooMany : PySem.W.subIn K (.ref C_TooMany) (.type "ValueError") = some true)
    (ex_NotRead : PySem.W.excIn K C_NotRead [.type "ValueError", .type "Exception", .type "BaseException", .type "object"] "ValueError.__new__" = true)
    (e1_NotRead : PySem.W.findIn K (.ref C_NotRead) "__getattribute__" = some (some (.builtin "BaseException.__getattribute__")))
    (e2_NotRead : PySem.W.findIn K (.ref C_NotRead) "__getattr__" = some none)
    (e3_NotRead : PySem.W.findIn K (.ref C_NotRead) "__class__" = some (some (.builtin "object.__class__")))
    (e4_NotRead : PySem.W.mroIn K C_NotRead (.type "object") = some true)
    (ev_NotRead : PySem.W.subIn K (.ref C_NotRead) (.type "ValueError") = some true)
    (eo1 : PySem.W.specialIn K (.builtin "object.__class__") "__get__" = some (some (.builtin "getset_descriptor.__get__")))
    (eo2 : PySem.W.takesIn K (.builtin "object.__class__") = some true)
    (es_NoArcs_RiverError : PySem.W.subIn K (.ref C_NoArcs) (.ref C_RiverError) = some true)
    (en_NoArcs_RiverError : (Value.ref C_NoArcs == Value.ref C_RiverError) = false)
    (es_NoArcs_NoNumber : PySem.W.subIn K (.ref C_NoArcs) (.ref C_NoNumber) = some false)
    (en_NoArcs_NoNumber : (Value.ref C_NoArcs == Value.ref C_NoNumber) = false)
    (es_NoArcs_Unlike : PySem.W.subIn K (.ref C_NoArcs) (.ref C_Unlike) = some false)
    (en_NoArcs_Unlike : (Value.ref C_NoArcs == Value.ref C_Unlike) = false)
    (es_NoArcs_TooMany : PySem.W.subIn K (.ref C_NoArcs) (.ref C_TooMany) = some false)
    (en_NoArcs_TooMany : (Value.ref C_NoArcs == Value.ref C_TooMany) = false)
    (es_NoArcs_NotRead : PySem.W.subIn K (.ref C_NoArcs) (.ref C_NotRead) = some false)
    (en_NoArcs_NotRead : (Value.ref C_NoArcs == Value.ref C_NotRead) = false)
    (es_NoNumber_RiverError : PySem.W.subIn K (.ref C_NoNumber) (.ref C_RiverError) = some true)
    (en_NoNumber_RiverError : (Value.ref C_NoNumber == Value.ref C_RiverError) = false)
    (es_NoNumber_NoArcs : PySem.W.subIn K (.ref C_NoNumber) (.ref C_NoArcs) = some false)
    (en_NoNumber_NoArcs : (Value.ref C_NoNumber == Value.ref C_NoArcs) = false)
    (es_NoNumber_Unlike : PySem.W.subIn K (.ref C_NoNumber) (.ref C_Unlike) = some false)
    (en_NoNumber_Unlike : (Value.ref C_NoNumber == Value.ref C_Unlike) = false)
    (es_NoNumber_TooMany : PySem.W.subIn K (.ref C_NoNumber) (.ref C_TooMany) = some false)
    (en_NoNumber_TooMany : (Value.ref C_NoNumber == Value.ref C_TooMany) = false)
    (es_NoNumber_NotRead : PySem.W.subIn K (.ref C_NoNumber) (.ref C_NotRead) = some false)
    (en_NoNumber_NotRead : (Value.ref C_NoNumber == Value.ref C_NotRead) = false)
    (es_Unlike_RiverError : PySem.W.subIn K (.ref C_Unlike) (.ref C_RiverError) = some true)
    (en_Unlike_RiverError : (Value.ref C_Unlike == Value.ref C_RiverError) = false)
    (es_Unlike_NoArcs : PySem.W.subIn K (.ref C_Unlike) (.ref C_NoArcs) = some false)
    (en_Unlike_NoArcs : (Value.ref C_Unlike == Value.ref C_NoArcs) = false)
    (es_Unlike_NoNumber : PySem.W.subIn K (.ref C_Unlike) (.ref C_NoNumber) = some false)
    (en_Unlike_NoNumber : (Value.ref C_Unlike == Value.ref C_NoNumber) = false)
    (es_Unlike_TooMany : PySem.W.subIn K (.ref C_Unlike) (.ref C_TooMany) = some false)
    (en_Unlike_TooMany : (Value.ref C_Unlike == Value.ref C_TooMany) = false)
    (es_Unlike_NotRead : PySem.W.subIn K (.ref C_Unlike) (.ref C_NotRead) = some false)
    (en_Unlike_NotRead : (Value.ref C_Unlike == Value.ref C_NotRead) = false)
    (es_TooMany_RiverError : PySem.W.subIn K (.ref C_TooMany) (.ref C_RiverError) = some true)
    (en_TooMany_RiverError : (Value.ref C_TooMany == Value.ref C_RiverError) = false)
    (es_TooMany_NoArcs : PySem.W.subIn K (.ref C_TooMany) (.ref C_NoArcs) = some false)
    (en_TooMany_NoArcs : (Value.ref C_TooMany == Value.ref C_NoArcs) = false)
    (es_TooMany_NoNumber : PySem.W.subIn K (.ref C_TooMany) (.ref C_NoNumber) = some false)
    (en_TooMany_NoNumber : (Value.ref C_TooMany == Value.ref C_NoNumber) = false)
    (es_TooMany_Unlike : PySem.W.subIn K (.ref C_TooMany) (.ref C_Unlike) = some false)
    (en_TooMany_Unlike : (Value.ref C_TooMany == Value.ref C_Unlike) = false)
    (es_TooMany_NotRead : PySem.W.subIn K (.ref C_TooMany) (.ref C_NotRead) = some false)
    (en_TooMany_NotRead : (Value.ref C_TooMany == Value.ref C_NotRead) = false)
    (es_NotRead_RiverError : PySem.W.subIn K (.ref C_NotRead) (.ref C_RiverError) = some true)
    (en_NotRead_RiverError : (Value.ref C_NotRead == Value.ref C_RiverError) = false)
    (es_NotRead_NoArcs : PySem.W.subIn K (.ref C_NotRead) (.ref C_NoArcs) = some false)
    (en_NotRead_NoArcs : (Value.ref C_NotRead == Value.ref C_NoArcs) = false)
    (es_NotRead_NoNumber : PySem.W.subIn K (.ref C_NotRead) (.ref C_NoNumber) = some false)
    (en_NotRead_NoNumber : (Value.ref C_NotRead == Value.ref C_NoNumber) = false)
    (es_NotRead_Unlike : PySem.W.subIn K (.ref C_NotRead) (.ref C_Unlike) = some false)
    (en_NotRead_Unlike : (Value.ref C_NotRead == Value.ref C_Unlike) = false)
    (es_NotRead_TooMany : PySem.W.subIn K (.ref C_NotRead) (.ref C_TooMany) = some false)
    (en_NotRead_TooMany : (Value.ref C_NotRead == Value.ref C_TooMany) = false)
    : ∃ fd : FuncData, (∀ (s : Shared) (v : Value), BindsTo s fd ⟨[v], []⟩ [("script", v)]) ∧ ∀ base : Heap, K.In base → base.Ns mainGlobals mg → FnOk l.prog w K mg base CX0 7 fa fd ["script"] (spLaw K) := by
  have e := hfa.symm.trans (PySem.W.mg_of X G a_law)
  cases e
  have B : Blt mg := ⟨PySem.W.mg_none_of X G z_len, PySem.W.mg_none_of X G z_range, PySem.W.mg_none_of X G z_isinstance, PySem.W.mg_none_of X G z_int, PySem.W.mg_none_of X G z_bool, PySem.W.mg_none_of X G z_list, PySem.W.mg_none_of X G z_str, PySem.W.mg_none_of X G z_reversed, PySem.W.mg_none_of X G z_min, PySem.W.mg_none_of X G z_max, PySem.W.mg_none_of X G z_abs, PySem.W.mg_none_of X G z_sum, PySem.W.mg_none_of X G z_set, PySem.W.mg_none_of X G z_tuple, PySem.W.mg_none_of X G z_ValueError⟩
  have g_MOST := PySem.W.mg_of X G m_MOST
  have g_MOST_HERE := PySem.W.mg_of X G m_MOST_HERE
  have D_is_arcs : Dfn K mg "is_arcs" s_is_arcs ["some"] := ⟨f_is_arcs, _, fun_mk (st := s_is_arcs) l_is_arcs x_is_arcs k_is_arcs, PySem.W.mg_of X G a_is_arcs, (fun_mk (st := s_is_arcs) l_is_arcs x_is_arcs k_is_arcs).binds (ps := ["some"]) fun _ _ _ _ _ _ us hl => match us, hl with | [_], _ => rfl⟩
  have D_ask : Dfn K mg "ask" s_ask ["arcs"] := ⟨f_ask, _, fun_mk (st := s_ask) l_ask x_ask k_ask, PySem.W.mg_of X G a_ask, (fun_mk (st := s_ask) l_ask x_ask k_ask).binds (ps := ["arcs"]) fun _ _ _ _ _ _ us hl => match us, hl with | [_], _ => rfl⟩
  have D_word_of : Dfn K mg "word_of" s_word_of ["arcs"] := ⟨f_word_of, _, fun_mk (st := s_word_of) l_word_of x_word_of k_word_of, PySem.W.mg_of X G a_word_of, (fun_mk (st := s_word_of) l_word_of x_word_of k_word_of).binds (ps := ["arcs"]) fun _ _ _ _ _ _ us hl => match us, hl with | [_], _ => rfl⟩
  have D_arcs_of : Dfn K mg "arcs_of" s_arcs_of ["word"] := ⟨f_arcs_of, _, fun_mk (st := s_arcs_of) l_arcs_of x_arcs_of k_arcs_of, PySem.W.mg_of X G a_arcs_of, (fun_mk (st := s_arcs_of) l_arcs_of x_arcs_of k_arcs_of).binds (ps := ["word"]) fun _ _ _ _ _ _ us hl => match us, hl with | [_], _ => rfl⟩
  have D_turned : Dfn K mg "turned" s_turned ["arcs", "by"] := ⟨f_turned, _, fun_mk (st := s_turned) l_turned x_turned k_turned, PySem.W.mg_of X G a_turned, (fun_mk (st := s_turned) l_turned x_turned k_turned).binds (ps := ["arcs", "by"]) fun _ _ _ _ _ _ us hl => match us, hl with | [_, _], _ => rfl⟩
  have D_mirrored : Dfn K mg "mirrored" s_mirrored ["arcs"] := ⟨f_mirrored, _, fun_mk (st := s_mirrored) l_mirrored x_mirrored k_mirrored, PySem.W.mg_of X G a_mirrored, (fun_mk (st := s_mirrored) l_mirrored x_mirrored k_mirrored).binds (ps := ["arcs"]) fun _ _ _ _ _ _ us hl => match us, hl with | [_], _ => rfl⟩
  have D_beside : Dfn K mg "beside" s_beside ["one", "other"] := ⟨f_beside, _, fun_mk (st := s_beside) l_beside x_beside k_beside, PySem.W.mg_of X G a_beside, (fun_mk (st := s_beside) l_beside x_beside k_beside).binds (ps := ["one", "other"]) fun _ _ _ _ _ _ us hl => match us, hl with | [_, _], _ => rfl⟩
  have D_covered : Dfn K mg "covered" s_covered ["arcs"] := ⟨f_covered, _, fun_mk (st := s_covered) l_covered x_covered k_covered, PySem.W.mg_of X G a_covered, (fun_mk (st := s_covered) l_covered x_covered k_covered).binds (ps := ["arcs"]) fun _ _ _ _ _ _ us hl => match us, hl with | [_], _ => rfl⟩
  have D_ask_size : Dfn K mg "ask_size" s_ask_size ["size"] := ⟨f_ask_size, _, fun_mk (st := s_ask_size) l_ask_size x_ask_size k_ask_size, PySem.W.mg_of X G a_ask_size, (fun_mk (st := s_ask_size) l_ask_size x_ask_size k_ask_size).binds (ps := ["size"]) fun _ _ _ _ _ _ us hl => match us, hl with | [_], _ => rfl⟩
  have D_ways : Dfn K mg "ways" s_ways ["size"] := ⟨f_ways, _, fun_mk (st := s_ways) l_ways x_ways k_ways, PySem.W.mg_of X G a_ways, (fun_mk (st := s_ways) l_ways x_ways k_ways).binds (ps := ["size"]) fun _ _ _ _ _ _ us hl => match us, hl with | [_], _ => rfl⟩
  have D_many : Dfn K mg "many" s_many ["size"] := ⟨f_many, _, fun_mk (st := s_many) l_many x_many k_many, PySem.W.mg_of X G a_many, (fun_mk (st := s_many) l_many x_many k_many).binds (ps := ["size"]) fun _ _ _ _ _ _ us hl => match us, hl with | [_], _ => rfl⟩
  have D_arcs_at : Dfn K mg "arcs_at" s_arcs_at ["size", "number"] := ⟨f_arcs_at, _, fun_mk (st := s_arcs_at) l_arcs_at x_arcs_at k_arcs_at, PySem.W.mg_of X G a_arcs_at, (fun_mk (st := s_arcs_at) l_arcs_at x_arcs_at k_arcs_at).binds (ps := ["size", "number"]) fun _ _ _ _ _ _ us hl => match us, hl with | [_, _], _ => rfl⟩
  have D_number_of : Dfn K mg "number_of" s_number_of ["arcs"] := ⟨f_number_of, _, fun_mk (st := s_number_of) l_number_of x_number_of k_number_of, PySem.W.mg_of X G a_number_of, (fun_mk (st := s_number_of) l_number_of x_number_of k_number_of).binds (ps := ["arcs"]) fun _ _ _ _ _ _ us hl => match us, hl with | [_], _ => rfl⟩
  have D_ask_both : Dfn K mg "ask_both" s_ask_both ["one", "other"] := ⟨f_ask_both, _, fun_mk (st := s_ask_both) l_ask_both x_ask_both k_ask_both, PySem.W.mg_of X G a_ask_both, (fun_mk (st := s_ask_both) l_ask_both x_ask_both k_ask_both).binds (ps := ["one", "other"]) fun _ _ _ _ _ _ us hl => match us, hl with | [_, _], _ => rfl⟩
  have D_roads : Dfn K mg "roads" s_roads ["above", "below"] := ⟨f_roads, _, fun_mk (st := s_roads) l_roads x_roads k_roads, PySem.W.mg_of X G a_roads, (fun_mk (st := s_roads) l_roads x_roads k_roads).binds (ps := ["above", "below"]) fun _ _ _ _ _ _ us hl => match us, hl with | [_, _], _ => rfl⟩
  have D_many_roads : Dfn K mg "many_roads" s_many_roads ["above", "below"] := ⟨f_many_roads, _, fun_mk (st := s_many_roads) l_many_roads x_many_roads k_many_roads, PySem.W.mg_of X G a_many_roads, (fun_mk (st := s_many_roads) l_many_roads x_many_roads k_many_roads).binds (ps := ["above", "below"]) fun _ _ _ _ _ _ us hl => match us, hl with | [_, _], _ => rfl⟩
  have D_one_road : Dfn K mg "one_road" s_one_road ["above"] := ⟨f_one_road, _, fun_mk (st := s_one_road) l_one_road x_one_road k_one_road, PySem.W.mg_of X G a_one_road, (fun_mk (st := s_one_road) l_one_road x_one_road k_one_road).binds (ps := ["above"]) fun _ _ _ _ _ _ us hl => match us, hl with | [_], _ => rfl⟩
  have D_rows_with : Dfn K mg "rows_with" s_rows_with ["size", "roads_wanted"] := ⟨f_rows_with, _, fun_mk (st := s_rows_with) l_rows_with x_rows_with k_rows_with, PySem.W.mg_of X G a_rows_with, (fun_mk (st := s_rows_with) l_rows_with x_rows_with k_rows_with).binds (ps := ["size", "roads_wanted"]) fun _ _ _ _ _ _ us hl => match us, hl with | [_, _], _ => rfl⟩
  have D_straight : Dfn K mg "straight" s_straight ["size"] := ⟨f_straight, _, fun_mk (st := s_straight) l_straight x_straight k_straight, PySem.W.mg_of X G a_straight, (fun_mk (st := s_straight) l_straight x_straight k_straight).binds (ps := ["size"]) fun _ _ _ _ _ _ us hl => match us, hl with | [_], _ => rfl⟩
  have D_hook : Dfn K mg "hook" s_hook ["size", "j"] := ⟨f_hook, _, fun_mk (st := s_hook) l_hook x_hook k_hook, PySem.W.mg_of X G a_hook, (fun_mk (st := s_hook) l_hook x_hook k_hook).binds (ps := ["size", "j"]) fun _ _ _ _ _ _ us hl => match us, hl with | [_, _], _ => rfl⟩
  have D_laid : Dfn K mg "laid" s_laid ["one", "other"] := ⟨f_laid, _, fun_mk (st := s_laid) l_laid x_laid k_laid, PySem.W.mg_of X G a_laid, (fun_mk (st := s_laid) l_laid x_laid k_laid).binds (ps := ["one", "other"]) fun _ _ _ _ _ _ us hl => match us, hl with | [_, _], _ => rfl⟩
  have D_closed : Dfn K mg "closed" s_closed ["arcs"] := ⟨f_closed, _, fun_mk (st := s_closed) l_closed x_closed k_closed, PySem.W.mg_of X G a_closed, (fun_mk (st := s_closed) l_closed x_closed k_closed).binds (ps := ["arcs"]) fun _ _ _ _ _ _ us hl => match us, hl with | [_], _ => rfl⟩
  have D_law_cell_at : Dfn K mg "_law_cell_at" s_law_cell_at ["script", "k"] := ⟨f_law_cell_at, _, fun_mk (st := s_law_cell_at) l_law_cell_at x_law_cell_at k_law_cell_at, PySem.W.mg_of X G a_law_cell_at, (fun_mk (st := s_law_cell_at) l_law_cell_at x_law_cell_at k_law_cell_at).binds (ps := ["script", "k"]) fun _ _ _ _ _ _ us hl => match us, hl with | [_, _], _ => rfl⟩
  have D_law_which : Dfn K mg "_law_which" s_law_which ["e"] := ⟨f_law_which, _, fun_mk (st := s_law_which) l_law_which x_law_which k_law_which, PySem.W.mg_of X G a_law_which, (fun_mk (st := s_law_which) l_law_which x_law_which k_law_which).binds (ps := ["e"]) fun _ _ _ _ _ _ us hl => match us, hl with | [_], _ => rfl⟩
  have D_law_of_two : Dfn K mg "_law_of_two" s_law_of_two ["way", "one", "other"] := ⟨f_law_of_two, _, fun_mk (st := s_law_of_two) l_law_of_two x_law_of_two k_law_of_two, PySem.W.mg_of X G a_law_of_two, (fun_mk (st := s_law_of_two) l_law_of_two x_law_of_two k_law_of_two).binds (ps := ["way", "one", "other"]) fun _ _ _ _ _ _ us hl => match us, hl with | [_, _, _], _ => rfl⟩
  have D_law_no_arcs : Dfn K mg "_law_no_arcs" s_law_no_arcs ["cell", "far"] := ⟨f_law_no_arcs, _, fun_mk (st := s_law_no_arcs) l_law_no_arcs x_law_no_arcs k_law_no_arcs, PySem.W.mg_of X G a_law_no_arcs, (fun_mk (st := s_law_no_arcs) l_law_no_arcs x_law_no_arcs k_law_no_arcs).binds (ps := ["cell", "far"]) fun _ _ _ _ _ _ us hl => match us, hl with | [_, _], _ => rfl⟩
  have D_law_unlike : Dfn K mg "_law_unlike" s_law_unlike ["cell"] := ⟨f_law_unlike, _, fun_mk (st := s_law_unlike) l_law_unlike x_law_unlike k_law_unlike, PySem.W.mg_of X G a_law_unlike, (fun_mk (st := s_law_unlike) l_law_unlike x_law_unlike k_law_unlike).binds (ps := ["cell"]) fun _ _ _ _ _ _ us hl => match us, hl with | [_], _ => rfl⟩
  have D_law_no_number : Dfn K mg "_law_no_number" s_law_no_number ["cell", "far"] := ⟨f_law_no_number, _, fun_mk (st := s_law_no_number) l_law_no_number x_law_no_number k_law_no_number, PySem.W.mg_of X G a_law_no_number, (fun_mk (st := s_law_no_number) l_law_no_number x_law_no_number k_law_no_number).binds (ps := ["cell", "far"]) fun _ _ _ _ _ _ us hl => match us, hl with | [_, _], _ => rfl⟩
  have g_RiverError := PySem.W.mg_of X G eg_RiverError
  have g_NoArcs := PySem.W.mg_of X G eg_NoArcs
  have g_NoNumber := PySem.W.mg_of X G eg_NoNumber
  have g_Unlike := PySem.W.mg_of X G eg_Unlike
  have g_TooMany := PySem.W.mg_of X G eg_TooMany
  have g_NotRead := PySem.W.mg_of X G eg_NotRead
  have x_NoArcs : ExcF K mg "NoArcs" C_NoArcs := ⟨g_NoArcs, ex_NoArcs, ek_NoArcs, eb_NoArcs, et_NoArcs, ⟨e1_NoArcs, e2_NoArcs, eb_NoArcs, ed_NoArcs, e3_NoArcs, eo1, eo2, e4_NoArcs⟩⟩
  have q_NoArcs_RiverError := kit_r en_NoArcs_RiverError ei_RiverError et_RiverError es_NoArcs_RiverError
  have q_NoArcs_NoArcs := kit_same (K := K) C_NoArcs
  have q_NoArcs_NoNumber := kit_r en_NoArcs_NoNumber ei_NoNumber et_NoNumber es_NoArcs_NoNumber
  have q_NoArcs_Unlike := kit_r en_NoArcs_Unlike ei_Unlike et_Unlike es_NoArcs_Unlike
  have q_NoArcs_TooMany := kit_r en_NoArcs_TooMany ei_TooMany et_TooMany es_NoArcs_TooMany
  have q_NoArcs_NotRead := kit_r en_NoArcs_NotRead ei_NotRead et_NotRead es_NoArcs_NotRead
  have q_NoArcs_V := kit_t (T := "ValueError") (by decide +kernel) ev_NoArcs
  have m_NoArcs := PySem.W.exm_ref eb_RiverError ed_RiverError et_RiverError es_NoArcs_RiverError
  have x_NoNumber : ExcF K mg "NoNumber" C_NoNumber := ⟨g_NoNumber, ex_NoNumber, ek_NoNumber, eb_NoNumber, et_NoNumber, ⟨e1_NoNumber, e2_NoNumber, eb_NoNumber, ed_NoNumber, e3_NoNumber, eo1, eo2, e4_NoNumber⟩⟩
  have q_NoNumber_RiverError := kit_r en_NoNumber_RiverError ei_RiverError et_RiverError es_NoNumber_RiverError
  have q_NoNumber_NoArcs := kit_r en_NoNumber_NoArcs ei_NoArcs et_NoArcs es_NoNumber_NoArcs
  have q_NoNumber_NoNumber := kit_same (K := K) C_NoNumber
  have q_NoNumber_Unlike := kit_r en_NoNumber_Unlike ei_Unlike et_Unlike es_NoNumber_Unlike
  have q_NoNumber_TooMany := kit_r en_NoNumber_TooMany ei_TooMany et_TooMany es_NoNumber_TooMany
  have q_NoNumber_NotRead := kit_r en_NoNumber_NotRead ei_NotRead et_NotRead es_NoNumber_NotRead
  have q_NoNumber_V := kit_t (T := "ValueError") (by decide +kernel) ev_NoNumber
  have m_NoNumber := PySem.W.exm_ref eb_RiverError ed_RiverError et_RiverError es_NoNumber_RiverError
  have x_Unlike : ExcF K mg "Unlike" C_Unlike := ⟨g_Unlike, ex_Unlike, ek_Unlike, eb_Unlike, et_Unlike, ⟨e1_Unlike, e2_Unlike, eb_Unlike, ed_Unlike, e3_Unlike, eo1, eo2, e4_Unlike⟩⟩
  have q_Unlike_RiverError := kit_r en_Unlike_RiverError ei_RiverError et_RiverError es_Unlike_RiverError
  have q_Unlike_NoArcs := kit_r en_Unlike_NoArcs ei_NoArcs et_NoArcs es_Unlike_NoArcs
  have q_Unlike_NoNumber := kit_r en_Unlike_NoNumber ei_NoNumber et_NoNumber es_Unlike_NoNumber
  have q_Unlike_Unlike := kit_same (K := K) C_Unlike
  have q_Unlike_TooMany := kit_r en_Unlike_TooMany ei_TooMany et_TooMany es_Unlike_TooMany
  have q_Unlike_NotRead := kit_r en_Unlike_NotRead ei_NotRead et_NotRead es_Unlike_NotRead
  have q_Unlike_V := kit_t (T := "ValueError") (by decide +kernel) ev_Unlike
  have m_Unlike := PySem.W.exm_ref eb_RiverError ed_RiverError et_RiverError es_Unlike_RiverError
  have x_TooMany : ExcF K mg "TooMany" C_TooMany := ⟨g_TooMany, ex_TooMany, ek_TooMany, eb_TooMany, et_TooMany, ⟨e1_TooMany, e2_TooMany, eb_TooMany, ed_TooMany, e3_TooMany, eo1, eo2, e4_TooMany⟩⟩
  have q_TooMany_RiverError := kit_r en_TooMany_RiverError ei_RiverError et_RiverError es_TooMany_RiverError
  have q_TooMany_NoArcs := kit_r en_TooMany_NoArcs ei_NoArcs et_NoArcs es_TooMany_NoArcs
  have q_TooMany_NoNumber := kit_r en_TooMany_NoNumber ei_NoNumber et_NoNumber es_TooMany_NoNumber
  have q_TooMany_Unlike := kit_r en_TooMany_Unlike ei_Unlike et_Unlike es_TooMany_Unlike
  have q_TooMany_TooMany := kit_same (K := K) C_TooMany
  have q_TooMany_NotRead := kit_r en_TooMany_NotRead ei_NotRead et_NotRead es_TooMany_NotRead
  have q_TooMany_V := kit_t (T := "ValueError") (by decide +kernel) ev_TooMany
  have m_TooMany := PySem.W.exm_ref eb_RiverError ed_RiverError et_RiverError es_TooMany_RiverError
  have x_NotRead : ExcF K mg "NotRead" C_NotRead := ⟨g_NotRead, ex_NotRead, ek_NotRead, eb_NotRead, et_NotRead, ⟨e1_NotRead, e2_NotRead, eb_NotRead, ed_NotRead, e3_NotRead, eo1, eo2, e4_NotRead⟩⟩
  have q_NotRead_RiverError := kit_r en_NotRead_RiverError ei_RiverError et_RiverError es_NotRead_RiverError
  have q_NotRead_NoArcs := kit_r en_NotRead_NoArcs ei_NoArcs et_NoArcs es_NotRead_NoArcs
  have q_NotRead_NoNumber := kit_r en_NotRead_NoNumber ei_NoNumber et_NoNumber es_NotRead_NoNumber
  have q_NotRead_Unlike := kit_r en_NotRead_Unlike ei_Unlike et_Unlike es_NotRead_Unlike
  have q_NotRead_TooMany := kit_r en_NotRead_TooMany ei_TooMany et_TooMany es_NotRead_TooMany
  have q_NotRead_NotRead := kit_same (K := K) C_NotRead
  have q_NotRead_V := kit_t (T := "ValueError") (by decide +kernel) ev_NotRead
  have m_NotRead := PySem.W.exm_ref eb_RiverError ed_RiverError et_RiverError es_NotRead_RiverError
  refine ⟨PySem.W.fnOf "law" "law" (defArgs s_law) (defBody s_law) (defScope s_law) .none kV_law dc_law pm_law an_law cd_law ct_law, fun s v => .of_eq rfl, fun base _ _ => ?_⟩
  have c_law_cell_at := ok_law_cell_at (P := l.prog) (w := w) (K := K) (mg := mg) (base := base) D_law_cell_at B
  have c_is_arcs := ok_is_arcs (P := l.prog) (w := w) (K := K) (mg := mg) (base := base) D_is_arcs B g_MOST
  have c_ways := ok_ways (P := l.prog) (w := w) (K := K) (mg := mg) (base := base) D_ways B
  have c_ask := ok_ask (P := l.prog) (w := w) (K := K) (mg := mg) (base := base) D_ask B c_is_arcs x_NoArcs
  have c_ask_both := ok_ask_both (P := l.prog) (w := w) (K := K) (mg := mg) (base := base) D_ask_both B c_ask x_Unlike
  have c_roads := ok_roads (P := l.prog) (w := w) (K := K) (mg := mg) (base := base) D_roads B c_ask_both
  have c_many_roads := ok_many_roads (P := l.prog) (w := w) (K := K) (mg := mg) (base := base) D_many_roads B c_ask_both
  have c_laid := ok_laid (P := l.prog) (w := w) (K := K) (mg := mg) (base := base) D_laid B c_ask_both
  have c_beside := ok_beside (P := l.prog) (w := w) (K := K) (mg := mg) (base := base) D_beside B g_MOST c_ask x_TooMany
  have c_covered := ok_covered (P := l.prog) (w := w) (K := K) (mg := mg) (base := base) D_covered B g_MOST c_ask x_TooMany
  have c_word_of := ok_word_of (P := l.prog) (w := w) (K := K) (mg := mg) (base := base) D_word_of B c_ask
  have c_turned := ok_turned (P := l.prog) (w := w) (K := K) (mg := mg) (base := base) D_turned B c_ask
  have c_mirrored := ok_mirrored (P := l.prog) (w := w) (K := K) (mg := mg) (base := base) D_mirrored B c_ask
  have c_number_of := ok_number_of (P := l.prog) (w := w) (K := K) (mg := mg) (base := base) D_number_of B c_ask
  have c_one_road := ok_one_road (P := l.prog) (w := w) (K := K) (mg := mg) (base := base) D_one_road B c_ask
  have c_closed := ok_closed (P := l.prog) (w := w) (K := K) (mg := mg) (base := base) D_closed B c_ask
  have c_ask_size := ok_ask_size (P := l.prog) (w := w) (K := K) (mg := mg) (base := base) D_ask_size g_MOST x_NoNumber
  have c_many := ok_many (P := l.prog) (w := w) (K := K) (mg := mg) (base := base) D_many B c_ask_size
  have c_arcs_at := ok_arcs_at (P := l.prog) (w := w) (K := K) (mg := mg) (base := base) D_arcs_at B c_ask_size c_ways x_NoNumber
  have c_straight := ok_straight (P := l.prog) (w := w) (K := K) (mg := mg) (base := base) D_straight B c_ask_size
  have c_hook := ok_hook (P := l.prog) (w := w) (K := K) (mg := mg) (base := base) D_hook B c_ask_size x_NoNumber
  have c_rows_with := ok_rows_with (P := l.prog) (w := w) (K := K) (mg := mg) (base := base) D_rows_with B g_MOST_HERE x_NoNumber
  have c_law_of_two := ok_law_of_two (P := l.prog) (w := w) (K := K) (mg := mg) (base := base) D_law_of_two B c_beside c_roads c_many_roads c_laid
  have c_law_no_arcs := ok_law_no_arcs (P := l.prog) (w := w) (K := K) (mg := mg) (base := base) D_law_no_arcs B c_law_of_two c_word_of c_turned c_mirrored c_covered c_number_of c_one_road c_closed
  have c_law_unlike := ok_law_unlike (P := l.prog) (w := w) (K := K) (mg := mg) (base := base) D_law_unlike B c_law_of_two
  have c_law_no_number := ok_law_no_number (P := l.prog) (w := w) (K := K) (mg := mg) (base := base) D_law_no_number B c_many c_arcs_at c_straight c_hook c_rows_with
  have c_arcs_of := ok_arcs_of (P := l.prog) (w := w) (K := K) (mg := mg) (base := base) D_arcs_of B g_MOST x_NotRead
  have c_law_which := ok_law_which (P := l.prog) (w := w) (K := K) (mg := mg) (base := base) D_law_which B g_NoArcs g_NoNumber g_Unlike g_TooMany g_NotRead
  exact ok_law (fun_mk (st := s_law) l_law x_law k_law) B c_law_cell_at c_law_no_arcs c_law_no_number c_law_unlike c_covered c_law_of_two c_arcs_of c_law_which g_RiverError x_NoArcs q_NoArcs_NoArcs q_NoArcs_NoNumber q_NoArcs_Unlike q_NoArcs_TooMany q_NoArcs_NotRead q_NoArcs_V m_NoArcs x_NoNumber q_NoNumber_NoArcs q_NoNumber_NoNumber q_NoNumber_Unlike q_NoNumber_TooMany q_NoNumber_NotRead q_NoNumber_V m_NoNumber x_Unlike q_Unlike_NoArcs q_Unlike_NoNumber q_Unlike_Unlike q_Unlike_TooMany q_Unlike_NotRead q_Unlike_V m_Unlike x_TooMany q_TooMany_NoArcs q_TooMany_NoNumber q_TooMany_Unlike q_TooMany_TooMany q_TooMany_NotRead q_TooMany_V m_TooMany x_NotRead q_NotRead_NoArcs q_NotRead_NoNumber q_NotRead_Unlike q_NotRead_TooMany q_NotRead_NotRead q_NotRead_V m_NotRead
end Rv
open PySem PySem.W PyProof.Rows
set_option maxHeartbeats 0 in
theorem PySem.Challenge.cw_riverloops_k14_each_refusal_its_own_holds : PySem.Challenge.rw_riverloops_k14_each_refusal_its_own.Holds := by
  w_on; o_law; k_head; (case hw => w_witness2)
  k_fill
  refine L2.walk_of (l := PySem.Challenge.rw_riverloops_k14_each_refusal_its_own) (n := 63) (k := 7) (x := "script") (CX := fun _ => L2.CX0) (sp := fun w => Rv.spLaw _) rfl (by decide) rfl ⟨rfl, by decide, by decide⟩ (fun w h Y => PySem.W.kIn_of Y) ?F (fun _ _ a ns hl _ hS => ⟨a, ns, rfl, hS, hl, fun _ => rfl⟩) (fun _ _ _ _ _ h => h)
  case F =>
    intro w mg fa h KX G hmg
    refine' Rv.all_mk KX G hmg ?a_is_arcs ?l_is_arcs ?x_is_arcs ?k_is_arcs ?a_ask ?l_ask ?x_ask ?k_ask ?a_word_of ?l_word_of ?x_word_of ?k_word_of ?a_arcs_of ?l_arcs_of ?x_arcs_of ?k_arcs_of ?a_turned ?l_turned ?x_turned ?k_turned ?a_mirrored ?l_mirrored ?x_mirrored ?k_mirrored ?a_beside ?l_beside ?x_beside ?k_beside ?a_covered ?l_covered ?x_covered ?k_covered ?a_ask_size ?l_ask_size ?x_ask_size ?k_ask_size ?a_ways ?l_ways ?x_ways ?k_ways ?a_many ?l_many ?x_many ?k_many ?a_arcs_at ?l_arcs_at ?x_arcs_at ?k_arcs_at ?a_number_of ?l_number_of ?x_number_of ?k_number_of ?a_ask_both ?l_ask_both ?x_ask_both ?k_ask_both ?a_roads ?l_roads ?x_roads ?k_roads ?a_many_roads ?l_many_roads ?x_many_roads ?k_many_roads ?a_one_road ?l_one_road ?x_one_road ?k_one_road ?a_rows_with ?l_rows_with ?x_rows_with ?k_rows_with ?a_straight ?l_straight ?x_straight ?k_straight ?a_hook ?l_hook ?x_hook ?k_hook ?a_laid ?l_laid ?x_laid ?k_laid ?a_closed ?l_closed ?x_closed ?k_closed ?a_law_cell_at ?l_law_cell_at ?x_law_cell_at ?k_law_cell_at ?a_law_which ?l_law_which ?x_law_which ?k_law_which ?a_law_of_two ?l_law_of_two ?x_law_of_two ?k_law_of_two ?a_law_no_arcs ?l_law_no_arcs ?x_law_no_arcs ?k_law_no_arcs ?a_law_unlike ?l_law_unlike ?x_law_unlike ?k_law_unlike ?a_law_no_number ?l_law_no_number ?x_law_no_number ?k_law_no_number ?a_law ?l_law ?x_law ?k_law ?m_MOST ?m_MOST_HERE ?z_len ?z_range ?z_isinstance ?z_int ?z_bool ?z_list ?z_str ?z_reversed ?z_min ?z_max ?z_abs ?z_sum ?z_set ?z_tuple ?z_ValueError ?eg_RiverError ?ek_RiverError ?eb_RiverError ?et_RiverError ?ei_RiverError ?ed_RiverError ?eg_NoArcs ?ek_NoArcs ?eb_NoArcs ?et_NoArcs ?ei_NoArcs ?ed_NoArcs ?eg_NoNumber ?ek_NoNumber ?eb_NoNumber ?et_NoNumber ?ei_NoNumber ?ed_NoNumber ?eg_Unlike ?ek_Unlike ?eb_Unlike ?et_Unlike ?ei_Unlike ?ed_Unlike ?eg_TooMany ?ek_TooMany ?eb_TooMany ?et_TooMany ?ei_TooMany ?ed_TooMany ?eg_NotRead ?ek_NotRead ?eb_NotRead ?et_NotRead ?ei_NotRead ?ed_NotRead ?ex_NoArcs ?e1_NoArcs ?e2_NoArcs ?e3_NoArcs ?e4_NoArcs ?ev_NoArcs ?ex_NoNumber ?e1_NoNumber ?e2_NoNumber ?e3_NoNumber ?e4_NoNumber ?ev_NoNumber ?ex_Unlike ?e1_Unlike ?e2_Unlike ?e3_Unlike ?e4_Unlike ?ev_Unlike ?ex_TooMany ?e1_TooMany ?e2_TooMany ?e3_TooMany ?e4_TooMany ?ev_TooMany ?ex_NotRead ?e1_NotRead ?e2_NotRead ?e3_NotRead ?e4_NotRead ?ev_NotRead ?eo1 ?eo2 ?es_NoArcs_RiverError ?en_NoArcs_RiverError ?es_NoArcs_NoNumber ?en_NoArcs_NoNumber ?es_NoArcs_Unlike ?en_NoArcs_Unlike ?es_NoArcs_TooMany ?en_NoArcs_TooMany ?es_NoArcs_NotRead ?en_NoArcs_NotRead ?es_NoNumber_RiverError ?en_NoNumber_RiverError ?es_NoNumber_NoArcs ?en_NoNumber_NoArcs ?es_NoNumber_Unlike ?en_NoNumber_Unlike ?es_NoNumber_TooMany ?en_NoNumber_TooMany ?es_NoNumber_NotRead ?en_NoNumber_NotRead ?es_Unlike_RiverError ?en_Unlike_RiverError ?es_Unlike_NoArcs ?en_Unlike_NoArcs ?es_Unlike_NoNumber ?en_Unlike_NoNumber ?es_Unlike_TooMany ?en_Unlike_TooMany ?es_Unlike_NotRead ?en_Unlike_NotRead ?es_TooMany_RiverError ?en_TooMany_RiverError ?es_TooMany_NoArcs ?en_TooMany_NoArcs ?es_TooMany_NoNumber ?en_TooMany_NoNumber ?es_TooMany_Unlike ?en_TooMany_Unlike ?es_TooMany_NotRead ?en_TooMany_NotRead ?es_NotRead_RiverError ?en_NotRead_RiverError ?es_NotRead_NoArcs ?en_NotRead_NoArcs ?es_NotRead_NoNumber ?en_NotRead_NoNumber ?es_NotRead_Unlike ?en_NotRead_Unlike ?es_NotRead_TooMany ?en_NotRead_TooMany
    (case a_is_arcs => k_is); (case l_is_arcs => k_is); (case x_is_arcs => k_is); (case k_is_arcs => k_is); (case a_ask => k_is); (case l_ask => k_is); (case x_ask => k_is); (case k_ask => k_is); (case a_word_of => k_is); (case l_word_of => k_is); (case x_word_of => k_is); (case k_word_of => k_is); (case a_arcs_of => k_is); (case l_arcs_of => k_is); (case x_arcs_of => k_is); (case k_arcs_of => k_is); (case a_turned => k_is); (case l_turned => k_is); (case x_turned => k_is); (case k_turned => k_is); (case a_mirrored => k_is); (case l_mirrored => k_is); (case x_mirrored => k_is); (case k_mirrored => k_is); (case a_beside => k_is); (case l_beside => k_is); (case x_beside => k_is); (case k_beside => k_is); (case a_covered => k_is); (case l_covered => k_is); (case x_covered => k_is); (case k_covered => k_is); (case a_ask_size => k_is); (case l_ask_size => k_is); (case x_ask_size => k_is); (case k_ask_size => k_is); (case a_ways => k_is); (case l_ways => k_is); (case x_ways => k_is); (case k_ways => k_is); (case a_many => k_is); (case l_many => k_is); (case x_many => k_is); (case k_many => k_is); (case a_arcs_at => k_is); (case l_arcs_at => k_is); (case x_arcs_at => k_is); (case k_arcs_at => k_is); (case a_number_of => k_is); (case l_number_of => k_is); (case x_number_of => k_is); (case k_number_of => k_is); (case a_ask_both => k_is); (case l_ask_both => k_is); (case x_ask_both => k_is); (case k_ask_both => k_is); (case a_roads => k_is); (case l_roads => k_is); (case x_roads => k_is); (case k_roads => k_is); (case a_many_roads => k_is); (case l_many_roads => k_is); (case x_many_roads => k_is); (case k_many_roads => k_is); (case a_one_road => k_is); (case l_one_road => k_is); (case x_one_road => k_is); (case k_one_road => k_is); (case a_rows_with => k_is); (case l_rows_with => k_is); (case x_rows_with => k_is); (case k_rows_with => k_is); (case a_straight => k_is); (case l_straight => k_is); (case x_straight => k_is); (case k_straight => k_is); (case a_hook => k_is); (case l_hook => k_is); (case x_hook => k_is); (case k_hook => k_is); (case a_laid => k_is); (case l_laid => k_is); (case x_laid => k_is); (case k_laid => k_is); (case a_closed => k_is); (case l_closed => k_is); (case x_closed => k_is); (case k_closed => k_is); (case a_law_cell_at => k_is); (case l_law_cell_at => k_is); (case x_law_cell_at => k_is); (case k_law_cell_at => k_is); (case a_law_which => k_is); (case l_law_which => k_is); (case x_law_which => k_is); (case k_law_which => k_is); (case a_law_of_two => k_is); (case l_law_of_two => k_is); (case x_law_of_two => k_is); (case k_law_of_two => k_is); (case a_law_no_arcs => k_is); (case l_law_no_arcs => k_is); (case x_law_no_arcs => k_is); (case k_law_no_arcs => k_is); (case a_law_unlike => k_is); (case l_law_unlike => k_is); (case x_law_unlike => k_is); (case k_law_unlike => k_is); (case a_law_no_number => k_is); (case l_law_no_number => k_is); (case x_law_no_number => k_is); (case k_law_no_number => k_is); (case a_law => k_is); (case l_law => k_is); (case x_law => k_is); (case k_law => k_is); (case m_MOST => k_is); (case m_MOST_HERE => k_is); (case z_len => k_is); (case z_range => k_is); (case z_isinstance => k_is); (case z_int => k_is); (case z_bool => k_is); (case z_list => k_is); (case z_str => k_is); (case z_reversed => k_is); (case z_min => k_is); (case z_max => k_is); (case z_abs => k_is); (case z_sum => k_is); (case z_set => k_is); (case z_tuple => k_is); (case z_ValueError => k_is); (case eg_RiverError => k_is); (case ek_RiverError => k_is); (case eb_RiverError => k_is); (case et_RiverError => k_is); (case ei_RiverError => k_is); (case ed_RiverError => k_is); (case eg_NoArcs => k_is); (case ek_NoArcs => k_is); (case eb_NoArcs => k_is); (case et_NoArcs => k_is); (case ei_NoArcs => k_is); (case ed_NoArcs => k_is); (case eg_NoNumber => k_is); (case ek_NoNumber => k_is); (case eb_NoNumber => k_is); (case et_NoNumber => k_is); (case ei_NoNumber => k_is); (case ed_NoNumber => k_is); (case eg_Unlike => k_is); (case ek_Unlike => k_is); (case eb_Unlike => k_is); (case et_Unlike => k_is); (case ei_Unlike => k_is); (case ed_Unlike => k_is); (case eg_TooMany => k_is); (case ek_TooMany => k_is); (case eb_TooMany => k_is); (case et_TooMany => k_is); (case ei_TooMany => k_is); (case ed_TooMany => k_is); (case eg_NotRead => k_is); (case ek_NotRead => k_is); (case eb_NotRead => k_is); (case et_NotRead => k_is); (case ei_NotRead => k_is); (case ed_NotRead => k_is); (case ex_NoArcs => k_exc); (case e1_NoArcs => k_is); (case e2_NoArcs => k_is); (case e3_NoArcs => k_is); (case e4_NoArcs => k_is); (case ev_NoArcs => k_is); (case ex_NoNumber => k_exc); (case e1_NoNumber => k_is); (case e2_NoNumber => k_is); (case e3_NoNumber => k_is); (case e4_NoNumber => k_is); (case ev_NoNumber => k_is); (case ex_Unlike => k_exc); (case e1_Unlike => k_is); (case e2_Unlike => k_is); (case e3_Unlike => k_is); (case e4_Unlike => k_is); (case ev_Unlike => k_is); (case ex_TooMany => k_exc); (case e1_TooMany => k_is); (case e2_TooMany => k_is); (case e3_TooMany => k_is); (case e4_TooMany => k_is); (case ev_TooMany => k_is); (case ex_NotRead => k_exc); (case e1_NotRead => k_is); (case e2_NotRead => k_is); (case e3_NotRead => k_is); (case e4_NotRead => k_is); (case ev_NotRead => k_is); (case eo1 => k_is); (case eo2 => k_is); (case es_NoArcs_RiverError => k_is); (case en_NoArcs_RiverError => first | rfl | decide); (case es_NoArcs_NoNumber => k_is); (case en_NoArcs_NoNumber => first | rfl | decide); (case es_NoArcs_Unlike => k_is); (case en_NoArcs_Unlike => first | rfl | decide); (case es_NoArcs_TooMany => k_is); (case en_NoArcs_TooMany => first | rfl | decide); (case es_NoArcs_NotRead => k_is); (case en_NoArcs_NotRead => first | rfl | decide); (case es_NoNumber_RiverError => k_is); (case en_NoNumber_RiverError => first | rfl | decide); (case es_NoNumber_NoArcs => k_is); (case en_NoNumber_NoArcs => first | rfl | decide); (case es_NoNumber_Unlike => k_is); (case en_NoNumber_Unlike => first | rfl | decide); (case es_NoNumber_TooMany => k_is); (case en_NoNumber_TooMany => first | rfl | decide); (case es_NoNumber_NotRead => k_is); (case en_NoNumber_NotRead => first | rfl | decide); (case es_Unlike_RiverError => k_is); (case en_Unlike_RiverError => first | rfl | decide); (case es_Unlike_NoArcs => k_is); (case en_Unlike_NoArcs => first | rfl | decide); (case es_Unlike_NoNumber => k_is); (case en_Unlike_NoNumber => first | rfl | decide); (case es_Unlike_TooMany => k_is); (case en_Unlike_TooMany => first | rfl | decide); (case es_Unlike_NotRead => k_is); (case en_Unlike_NotRead => first | rfl | decide); (case es_TooMany_RiverError => k_is); (case en_TooMany_RiverError => first | rfl | decide); (case es_TooMany_NoArcs => k_is); (case en_TooMany_NoArcs => first | rfl | decide); (case es_TooMany_NoNumber => k_is); (case en_TooMany_NoNumber => first | rfl | decide); (case es_TooMany_Unlike => k_is); (case en_TooMany_Unlike => first | rfl | decide); (case es_TooMany_NotRead => k_is); (case en_TooMany_NotRead => first | rfl | decide); (case es_NotRead_RiverError => k_is); (case en_NotRead_RiverError => first | rfl | decide); (case es_NotRead_NoArcs => k_is); (case en_NotRead_NoArcs => first | rfl | decide); (case es_NotRead_NoNumber => k_is); (case en_NotRead_NoNumber => first | rfl | decide); (case es_NotRead_Unlike => k_is); (case en_NotRead_Unlike => first | rfl | decide); (case es_NotRead_TooMany => k_is); (case en_NotRead_TooMany => first | rfl | decide)
